/- Part of the proof that FightEnds holds of the program for arguments that together hold at most 1048576 values and letters; no other condition. -/
import Derived.Test.YtflcpnaigpgciaaGreatDoorZ3
set_option linter.all false
section
namespace Go.Ah.Tz
open Go.Proofs.Tryz (prog)
theorem ld{σ:List ab}{b j n:Nat}{agg:Bool}{row:List aa}{v:aa}(hb:ah σ b=.box row)(hv:aF agg j n row=some v):Zd agg n [.an b j] σ=.ok v [b] []:=by
 rw[Ue,hb]; simp only[hv]
theorem iy{σ:List ab}{b j n:Nat}{x:aa}{cs row row':List aa}(hb:ah σ b=.box row)(hc:cellsOf x=some cs)(hn:Nat.beq cs.length n=true)(hs:bR j cs row=some row'):Xb n [.an b j,x] σ=.ok .aI [] [(b,.box row')]:=by
 rw[Tf,hb]; simp only[hc,hn,cond_true,hs]
theorem Yt{P:Program}{GL:aA}{σ:List ab}{z:List aa}{n:Nat}{x:aa}{row row':List aa}{K:aa→aa→List ab→Prop}(hc:cellsOf x=some row)(hn:Nat.beq row.length n=true)(hs:bR 0 row z=some row')
 (hK:K (.an σ.length 0) .aI (σ++[.box row'])):(W P GL).wr (Xe z [] σ) σ (λt σ'=>(W P GL).wr (Xb n [t,x] σ') σ' (K t)):=by
 refine Ze (SG σ z) (Yq _ _) ?_;refine Ze (iy (Zi _ _) hc hn hs) (Xn _ (by simp)) ?_;have:(σ++[ab.box z]).set σ.length (.box row')=σ++[.box row']:=by
  rw[List.set_append_right _ _ (Nat.le_refl _)]; simp
 rw[this]; exact hK
def BX(σ σ':List ab):Prop:=∀c r,ah σ c=.box r→ah σ' c=.box r
theorem BX.trans{a b c:List ab}(h:BX a b)(k:BX b c):BX a c:=λx r e=>k x r (h x r e)
theorem BX.app(σ l:List ab):BX σ (σ++l):=λ_ _ h=>Zg l h (by simp)
theorem cL.more{n k:Nat}{rows:List (List aa)}{v:aa}{σ:List ab}(h:cL n rows k v σ)(l:List ab):cL n rows k v (σ++l):=by
 rcases h with h|⟨h1,b,h2,h3,h4⟩
 ·exact .inl h
 ·exact .inr ⟨h1,b,h2,Zg l h3 (by simp),h4⟩
theorem cL.len{n k:Nat}{rows:List (List aa)}{v:aa}{σ:List ab}(h:cL n rows k v σ)(σ':List ab):Yf [v] σ'=.ok (.int .i64 k) [] []:=by
 rcases h with ⟨rfl,rfl,_⟩|⟨_,b,rfl,_,_⟩<;>rfl
theorem cL.at{n k:Nat}{rows:List (List aa)}{v:aa}{σ:List ab}(h:cL n rows k v σ)(q:IntKind)(j:Nat)(hj:j<k) :
  ∃b,Yb n [v,.int q (j:Int)] σ=.ok (.ptr b j 0) [b] []∧∃hj:j<rows.length,∀agg m w,aF agg 0 m rows[j]=some w→Zd agg m [.ptr b j 0] σ=.ok w [b] []:=by
 rcases h with ⟨rfl,rfl,_⟩|⟨_,b,rfl,hb,hl⟩
 ·omega
 ·refine⟨b,?_,by omega,λagg m w hw=>?_⟩
  ·have:=vK σ b 0 k false n rows q j hj hb
   rwa [Nat.zero_add] at this
  ·show (match ah σ b with
   |.rows _ rs=>match nth rs j with
    |some row=>match aF agg 0 m row with
     |some v=>az.ok v [b] []
     |none=>.stop
    |none=>.stop
   | _=>.stop)=_
   rw[hb];simp only[QU,List.getElem?_eq_getElem (show j<rows.length by omega),hw]
theorem cL.D'{α:Type}(A:al α){hold:α→Prop}{n cd k:Nat}{rows:List (List aa)}{v:aa}{σ:List ab}{row:List aa}(hg:cL n rows k v σ)(hr:row.all aa.cell=true)(cr:(2*(k+1)+192)*cd≤2 ^ 48)(K:aa→List ab→α)
 (hK:∀v' σ',BX σ σ'→cL n (rows++[row]) (k+1) v' σ'→hold (K v' σ')):hold (A.wr (Qj n cd [v,.sl σ.length 0 1 true] (σ++[.rows n [row]])) (σ++[.rows n [row]]) K):=by
 rcases hg with ⟨rfl,rfl,rfl⟩|⟨hk,b,rfl,hb,hl⟩
 ·rw[Ip A n cd σ row hr (by simpa using cr)];exact hK _ _ ((BX.app _ _).trans (BX.app _ _)) (.inr ⟨by omega,_,rfl,by have:=Zi (σ++[.rows n [row]]) (.rows n [row]); simpa using this,rfl⟩)
 ·rw[I_ A n cd σ b k false rows row hb hl hr cr];refine hK _ _ (BX.trans (λc r hc=>?_) ((BX.app (σ.set b .dead) _).trans (BX.app _ _))) (.inr ⟨by omega,_,rfl,?_,by simp[hl]⟩)
  ·refine Zj hc (by simp) ?_;rintro rfl;rw[hb] at hc; cases hc
  ·have:=Zi (σ.set b .dead++[.rows n [row]]) (.rows n (rows++[row]));simpa using this
theorem vJ{α:Type}(σ:List ab)(f:α→List aa)(e n:Bool)(s:Nat)(l:List α)(k:IntKind)(c:Int)(h0:0≤c)(h:c.toNat<l.length):Yb s [.ax e n s (l.map f),.int k c] σ=.ok (.ay (f l[c.toNat]) 0) [] []:=by
 obtain⟨m,rfl⟩:=Int.eq_ofNat_of_zero_le h0;exact Zp σ f e n s l k m (by simpa using h)
def Qt(b:Bk)(next:Int)(u:Th):Bool:=decide (0≤u.card)&&(decide (u.card<b.ai.length)&&(((b.ai[u.card.toNat]?).map Cd.unit).getD false&&(decide (0≤u.aK)&&(decide (u.aK≤1000000)&&(decide (1≤u.id)&&decide (u.id<next))))))
def Xr(b:Bk)(next:Int):List Int→List Th→Bool
 |_,[]=>true
 |ids,u::l=>Qt b next u&&(!(ids.contains u.id)&&Xr b next (ids++[u.id]) l)
def Zo(n:Nat)(x:Sd):Bool:=gk x.aW&&(decide (0≤x.dj)&&(gk x.dj&&(decide (0≤x.most)&&(decide (x.most≤10)&&(Qq n x.bJ 60&&(Qq n x.hand 10&&(Qq n x.aR 1000000&&(Qq n x.told 1000000&&decide (x.ae.length≤7)))))))))
def Zv(b:Bk)(s:St):Bool:=Zo b.ai.length s.s0&&(Xr b s.next [] s.s0.ae&&(Zo b.ai.length s.s1&&Xr b s.next (s.s0.ae.map Th.id) s.s1.ae))
end Go.Ah.Tz
end
section
namespace Go.Ah.Tz
open Go.Proofs.Tryz (prog)
attribute [local irreducible] al.rd al.pu al.wr al.dr al.gr al.gw al.gl al.gd al.opt au W
set_option maxHeartbeats 2000000
theorem c68(b:Bk)(s:St)(hs:cw 1000000000 s):PC 68 [eY b,eC s] (.bool (Zv b s)):=by
 refine Qd hP uj rfl rfl ?_;unfold g68;have w1:IntKind.i64.wrap (0+1)=1:=by decide
 have w2:IntKind.i64.wrap (1+1)=2:=by decide
 repeat first|refine Za rfl ?_|refine Ze rfl rfl ?_
 have aC:ah ([]++[ab.box [gG b.ai,jZ b.ao]]++[ab.box (bX s)]) 0=.box [gG b.ai,jZ b.ao]:=rfl;have cK:ah ([]++[ab.box [gG b.ai,jZ b.ao]]++[ab.box (bX s)]) 1=.box (bX s):=rfl;have hg:cL 1 (([]:List Int).map bL) 0 .af ([]++[ab.box [gG b.ai,jZ b.ao]]++[ab.box (bX s)]):=cL.nil _ _;generalize ([]++[ab.box [gG b.ai,jZ b.ao]]++[ab.box (bX s)]:List ab)=σ at aC cK hg ⊢;refine XF 3 (Xm ?_);refine Za rfl (Ye ?_);refine Za rfl (Za rfl (Za (ld cK rfl) ?_));refine Yt rfl rfl rfl ?_;have dB:ah (σ++[.box (pn s.s0)]) σ.length=.box (pn s.s0):=Zi _ _
 replace aC:=Zg [.box (pn s.s0)] aC (by simp)
 replace cK:=Zg [.box (pn s.s0)] cK (by simp)
 replace hg:=hg.more [.box (pn s.s0)]
 generalize hN:σ.length=N at dB ⊢;clear hN;generalize (σ++[ab.box (pn s.s0)]:List ab)=σ2 at aC cK dB hg ⊢;have bad:Zo b.ai.length s.s0=false→aa.bool false=aa.bool (Zv b s):=by intro h; simp[Zv,h]
 repeat first|refine Xa ?_|refine Zb ?_|refine Za (ld dB rfl) ?_|refine Za rfl ?_
 refine Qc (c116 _) rfl i_.plain rfl ?_;refine Za rfl ?_;rcases aL (!gk s.s0.aW) with a1|a1
 ·rw[a1];repeat first|refine Qb rfl ?_|refine Yc rfl ?_|refine Yd rfl ?_|refine Xd rfl ?_|refine Za rfl ?_
  refine Ye (bad ?_);simp at a1;simp[Zo,a1]
 rw[a1];repeat first|refine Xa ?_|refine Zb ?_|refine Za (ld dB rfl) ?_|refine Za rfl ?_
 rcases aL (decide (s.s0.dj<0)) with a2|a2
 ·rw[a2];repeat first|refine Qb rfl ?_|refine Yc rfl ?_|refine Yd rfl ?_|refine Xd rfl ?_|refine Za rfl ?_
  refine Ye (bad ?_);simp at a2;simp[Zo,show ¬0≤s.s0.dj by omega]
 rw[a2];repeat first|refine Xa ?_|refine Zb ?_|refine Za (ld dB rfl) ?_|refine Za rfl ?_
 refine Qc (c116 _) rfl i_.plain rfl ?_;repeat first|refine Xa ?_|refine Zb ?_|refine Za (ld dB rfl) ?_|refine Za rfl ?_
 rcases aL (!gk s.s0.dj) with a3|a3
 ·rw[a3];repeat first|refine Qb rfl ?_|refine Yc rfl ?_|refine Yd rfl ?_|refine Xd rfl ?_|refine Za rfl ?_
  refine Ye (bad ?_);simp at a3;simp[Zo,a3]
 rw[a3];repeat first|refine Xa ?_|refine Zb ?_|refine Za (ld dB rfl) ?_|refine Za rfl ?_
 rcases aL (decide (s.s0.most<0)) with a4|a4
 ·rw[a4];repeat first|refine Qb rfl ?_|refine Yc rfl ?_|refine Yd rfl ?_|refine Xd rfl ?_|refine Za rfl ?_
  refine Ye (bad ?_);simp at a4;simp[Zo,show ¬0≤s.s0.most by omega]
 rw[a4];repeat first|refine Xa ?_|refine Zb ?_|refine Za (ld dB rfl) ?_|refine Za rfl ?_
 refine Zc (λa5=>bad ?_) (λa5=>?_)
 ·have a5:10<s.s0.most:=by simpa using a5
  simp[Zo,show ¬s.s0.most≤10 by omega]
 refine Za (ld aC rfl) ?_;repeat first|refine Xa ?_|refine Zb ?_|refine Za (ld dB rfl) ?_|refine Za rfl ?_
 refine Qc (c117 _ _ _ hs.s0.bJ) rfl fz.plain rfl ?_;refine Za rfl ?_;rcases aL (!Qq b.ai.length s.s0.bJ 60) with a6|a6
 ·rw[a6];repeat first|refine Qb rfl ?_|refine Yc rfl ?_|refine Yd rfl ?_|refine Xd rfl ?_|refine Za rfl ?_
  refine Ye (bad ?_);simp at a6;simp[Zo,a6]
 rw[a6];repeat first|refine Xa ?_|refine Zb ?_|refine Za (ld dB rfl) ?_|refine Za (ld aC rfl) ?_|refine Za rfl ?_
 refine Qc (c117 _ _ _ hs.s0.hand) rfl fz.plain rfl ?_;repeat first|refine Xa ?_|refine Zb ?_|refine Za (ld dB rfl) ?_|refine Za (ld aC rfl) ?_|refine Za rfl ?_
 rcases aL (!Qq b.ai.length s.s0.hand 10) with a7|a7
 ·rw[a7];repeat first|refine Qb rfl ?_|refine Yc rfl ?_|refine Yd rfl ?_|refine Xd rfl ?_|refine Za rfl ?_
  refine Ye (bad ?_);simp at a7;simp[Zo,a7]
 rw[a7];repeat first|refine Xa ?_|refine Zb ?_|refine Za (ld dB rfl) ?_|refine Za (ld aC rfl) ?_|refine Za rfl ?_
 refine Qc (c117 _ _ _ hs.s0.aR) rfl fz.plain rfl ?_;repeat first|refine Xa ?_|refine Zb ?_|refine Za (ld dB rfl) ?_|refine Za (ld aC rfl) ?_|refine Za rfl ?_
 rcases aL (!Qq b.ai.length s.s0.aR 1000000) with a8|a8
 ·rw[a8];repeat first|refine Qb rfl ?_|refine Yc rfl ?_|refine Yd rfl ?_|refine Xd rfl ?_|refine Za rfl ?_
  refine Ye (bad ?_);simp at a8;simp[Zo,a8]
 rw[a8];repeat first|refine Xa ?_|refine Zb ?_|refine Za (ld dB rfl) ?_|refine Za (ld aC rfl) ?_|refine Za rfl ?_
 refine Qc (c117 _ _ _ hs.s0.told) rfl fz.plain rfl ?_;repeat first|refine Xa ?_|refine Zb ?_|refine Za (ld dB rfl) ?_|refine Za (ld aC rfl) ?_|refine Za rfl ?_
 rcases aL (!Qq b.ai.length s.s0.told 1000000) with a9|a9
 ·rw[a9];repeat first|refine Qb rfl ?_|refine Yc rfl ?_|refine Yd rfl ?_|refine Xd rfl ?_|refine Za rfl ?_
  refine Ye (bad ?_);simp at a9;simp[Zo,a9]
 rw[a9];repeat first|refine Xa ?_|refine Zb ?_|refine Za (ld dB rfl) ?_|refine Za (ld aC rfl) ?_|refine Za rfl ?_
 refine Zc (λa10=>bad ?_) (λa10=>?_)
 ·have a10:7<s.s0.ae.length:=by simp at a10; omega
  simp[Zo,show ¬s.s0.ae.length≤7 by omega]
 have KJ:Zo b.ai.length s.s0=true:=by
  simp at a1 a2 a3 a4 a5 a6 a7 a8 a9 a10;simp[Zo,a1,a2,a3,a4,a5,a6,a7,a8,a9]; omega
 have J0:s.s0.ae.length≤7:=by simp at a10; omega
 clear a1 a2 a3 a4 a5 a6 a7 a8 a9 a10 bad;have qE:Xr b s.next [] s.s0.ae=false→aa.bool false=aa.bool (Zv b s):=by intro h; simp[Zv,h]
 refine Zl (ι:=Nat) (λi vs σ=>∃v,vs=[iv i,v]∧i≤s.s0.ae.length∧cL 1 (([]++(s.s0.ae.take i).map Th.id).map bL) (0+i) v σ∧ah σ 0=.box [gG b.ai,jZ b.ao]∧ah σ 1=.box (bX s)∧ah σ N=.box (pn s.s0)∧Xr b s.next [] s.s0.ae=Xr b s.next ([]++(s.s0.ae.take i).map Th.id) (s.s0.ae.drop i)) (λi=>s.s0.ae.length-i) 0 ⟨_,rfl,by omega,(by simp only[Ah.h1,pC,gO,List.take_zero,List.map_nil,List.append_nil,Nat.add_zero]; exact hg),aC,cK,dB,by simp⟩ ?_;clear aC cK dB hg;rintro i vs σ3 again ⟨v,rfl,hi,hg,aC,cK,dB,hu⟩ aM;repeat first|refine Xa ?_|refine Zb ?_|refine Za (ld dB rfl) ?_|refine Za rfl ?_
 refine Zc (λh=>?_) (λh=>?_)
 ·have h:i<s.s0.ae.length:=by simpa using h
  have cO:s.s0.ae.drop i=s.s0.ae[i]::s.s0.ae.drop (i+1):=by rw[eD h]
  rw[cO] at hu;repeat first|refine Xa ?_|refine Zb ?_|refine Za (ld dB rfl) ?_|refine Za rfl ?_
  refine Za (Zp _ bf _ _ _ _ _ i h) ?_;refine Za rfl ?_;refine Yt rfl rfl rfl ?_;generalize hU:s.s0.ae[i]=u at hu cO;have kF:ah (σ3++[.box (bf u)]) σ3.length=.box (bf u):=Zi _ _
  replace aC:=Zg [.box (bf u)] aC (by simp)
  replace cK:=Zg [.box (bf u)] cK (by simp)
  replace dB:=Zg [.box (bf u)] dB (by simp)
  replace hg:=hg.more [.box (bf u)]
  generalize hN:σ3.length=N3 at kF ⊢;clear hN;simp only[aa.cell];generalize uS:(σ3++[ab.box (bf u)]:List ab)=σ4 at aC cK dB kF hg;have Aq:(σ3++[ab.box [iv u.id,iv u.card,iv u.aK,.bool u.nv]]:List ab)=σ4:=uS
  first|rw[Aq]|rw[uS]|skip
  have js:Qt b s.next u=false→aa.bool false=aa.bool (Zv b s):=by intro h; apply qE; rw[hu]; simp[Xr,h]
  repeat first|refine Xa ?_|refine Zb ?_|refine Za (ld kF rfl) ?_|refine Za (ld aC rfl) ?_|refine Za (ld cK rfl) ?_|refine Za rfl ?_
  rcases aL (decide (u.card<0)) with q1|q1
  ·rw[q1];repeat first|refine Qb rfl ?_|refine Yc rfl ?_|refine Yd rfl ?_|refine Xd rfl ?_|refine Za rfl ?_
   refine Ye (js ?_);simp at q1;simp[Qt,show ¬0≤u.card by omega]
  rw[q1];repeat first|refine Xa ?_|refine Zb ?_|refine Za (ld kF rfl) ?_|refine Za (ld aC rfl) ?_|refine Za (ld cK rfl) ?_|refine Za rfl ?_
  rcases aL (decide (u.card ≥ (b.ai.map cD).length)) with q2|q2
  ·rw[q2];repeat first|refine Qb rfl ?_|refine Yc rfl ?_|refine Yd rfl ?_|refine Xd rfl ?_|refine Za rfl ?_
   refine Ye (js ?_);simp at q2;simp[Qt,show ¬u.card<b.ai.length by omega]
  rw[q2];simp at q1 q2;have hc:u.card.toNat<b.ai.length:=by omega
  have pA:b.ai[u.card.toNat]?=some b.ai[u.card.toNat]:=by simp[hc]
  repeat first|refine Xa ?_|refine Zb ?_|refine Za (ld kF rfl) ?_|refine Za (ld aC rfl) ?_|refine Za (ld cK rfl) ?_|refine Za rfl ?_
  refine Za (vJ _ cD _ _ _ _ _ _ (by omega) hc) ?_;repeat first|refine Xa ?_|refine Zb ?_|refine Za (ld kF rfl) ?_|refine Za (ld aC rfl) ?_|refine Za (ld cK rfl) ?_|refine Za rfl ?_
  rcases aL (!(b.ai[u.card.toNat]).unit) with q3|q3
  ·rw[q3];repeat first|refine Qb rfl ?_|refine Yc rfl ?_|refine Yd rfl ?_|refine Xd rfl ?_|refine Za rfl ?_
   refine Ye (js ?_);simp at q3;simp[Qt,pA,q3]
  rw[q3];repeat first|refine Xa ?_|refine Zb ?_|refine Za (ld kF rfl) ?_|refine Za (ld aC rfl) ?_|refine Za (ld cK rfl) ?_|refine Za rfl ?_
  rcases aL (decide (u.aK<0)) with q4|q4
  ·rw[q4];repeat first|refine Qb rfl ?_|refine Yc rfl ?_|refine Yd rfl ?_|refine Xd rfl ?_|refine Za rfl ?_
   refine Ye (js ?_);simp at q4;simp[Qt,show ¬0≤u.aK by omega]
  rw[q4];repeat first|refine Xa ?_|refine Zb ?_|refine Za (ld kF rfl) ?_|refine Za (ld aC rfl) ?_|refine Za (ld cK rfl) ?_|refine Za rfl ?_
  rcases aL (decide (u.aK>1000000)) with q5|q5
  ·rw[q5];repeat first|refine Qb rfl ?_|refine Yc rfl ?_|refine Yd rfl ?_|refine Xd rfl ?_|refine Za rfl ?_
   refine Ye (js ?_);simp at q5;simp[Qt,show ¬u.aK≤1000000 by omega]
  rw[q5];repeat first|refine Xa ?_|refine Zb ?_|refine Za (ld kF rfl) ?_|refine Za (ld aC rfl) ?_|refine Za (ld cK rfl) ?_|refine Za rfl ?_
  rcases aL (decide (u.id<1)) with q6|q6
  ·rw[q6];repeat first|refine Qb rfl ?_|refine Yc rfl ?_|refine Yd rfl ?_|refine Xd rfl ?_|refine Za rfl ?_
   refine Ye (js ?_);simp at q6;simp[Qt,show ¬1≤u.id by omega]
  rw[q6];repeat first|refine Xa ?_|refine Zb ?_|refine Za (ld kF rfl) ?_|refine Za (ld aC rfl) ?_|refine Za (ld cK rfl) ?_|refine Za rfl ?_
  refine Zc (λq7=>js ?_) (λq7=>?_)
  ·have q7:s.next≤u.id:=by simpa using q7
   simp[Qt,show ¬u.id<s.next by omega]
  have de:Qt b s.next u=true:=by
   simp at q3 q4 q5 q6 q7;simp[Qt,pA,q3]; omega
  rw[Xr,de,Bool.true_and] at hu;generalize ly:[]++(s.s0.ae.take i).map Th.id=ids at hg hu;have kH:ids.length=0+i:=by rw[←ly]; simp[List.length_take,Nat.min_eq_left hi]
  refine Zl (ι:=Nat) (λj vs σ=>vs=[iv j]∧σ=σ4∧j≤ids.length∧∀m (hm:m<ids.length),m<j→ids[m]≠u.id) (λj=>ids.length-j) 0 ⟨rfl,rfl,by omega,λm _ h=>by omega⟩ ?_;rintro j vs σ mH ⟨rfl,rfl,hj,kG⟩ lu;refine Za (hg.len _) (Za rfl ?_);refine Zc (λh2=>?_) (λh2=>?_)
  ·have h2:j<ids.length:=by rw[kH]; simp at h2; omega
   obtain⟨bb,e1,H7,e2⟩:=hg.at .i64 j (by omega);refine Za e1 ?_;refine Za (e2 false 1 (iv ids[j]) (by simp[bL])) ?_;repeat first|refine Xa ?_|refine Zb ?_|refine Za (ld kF rfl) ?_|refine Za (ld aC rfl) ?_|refine Za (ld cK rfl) ?_|refine Za rfl ?_
   refine Zc (λh3=>?_) (λh3=>?_)
   ·have h3:ids[j]=u.id:=by simpa using h3
    apply qE; rw[hu];have:u.id∈ids:=by rw[←h3]; exact List.getElem_mem h2
    simp[this]
   ·have h3:ids[j]≠u.id:=by simpa using h3
    refine Za rfl ?_;rw[Zf (n:=j) (by omega)];refine lu (j+1) _ _ (by omega) ⟨rfl,rfl,by omega,λm hm xe=>?_⟩;by_cases e:m=j
    ·subst e; exact h3
    ·exact kG m hm (by omega)
  ·have h2:¬j<ids.length:=by rw[kH]; simp at h2; omega
   have Fp:ids.contains u.id=false:=by
    rw[List.contains_eq_mem,decide_eq_false_iff_not];intro hm;obtain⟨m,hm,e⟩:=List.getElem_of_mem hm;exact kG m hm (by omega) e
   rw[Fp,Bool.not_false,Bool.true_and] at hu;repeat first|refine Xa ?_|refine Zb ?_|refine Za (ld kF rfl) ?_|refine Za (ld aC rfl) ?_|refine Za (ld cK rfl) ?_|refine Za rfl ?_
   rw[Q7 _ _ _ _ _ [iv u.id] rfl rfl];refine hg.D' _ (hold:=λp=>p) rfl (by omega) _ (λv' σ' hx nO=>?_);refine Za rfl ?_;rw[Zf (n:=i) (by omega)];have FA:[]++(s.s0.ae.take (i+1)).map Th.id=ids++[u.id]:=by
    rw[←ly,Yy _ _ h,hU]; simp
   refine aM (i+1) _ _ (by omega) ⟨v',rfl,by omega,?_,hx _ _ aC,hx _ _ cK,hx _ _ dB,?_⟩
   ·rw[FA]; simpa[bL,Nat.add_assoc] using nO
   ·rw[FA]; exact hu
 have h:i=s.s0.ae.length:=by simp at h; omega
 subst h;rw[List.take_length] at hg hu;have Li:Xr b s.next [] s.s0.ae=true:=by rw[hu]; simp[Xr]
 clear aM qE hu;refine Za rfl ?_;rw[w1];refine Xm ?_;simp only[List.nil_append,Nat.zero_add] at hg;generalize σ3=σ at aC cK hg ⊢;refine Za rfl (Ye ?_);refine Za rfl (Za rfl (Za (ld cK rfl) ?_));refine Yt rfl rfl rfl ?_;have dB:ah (σ++[.box (pn s.s1)]) σ.length=.box (pn s.s1):=Zi _ _
 replace aC:=Zg [.box (pn s.s1)] aC (by simp)
 replace cK:=Zg [.box (pn s.s1)] cK (by simp)
 replace hg:=hg.more [.box (pn s.s1)]
 generalize hN:σ.length=N at dB ⊢;clear hN;generalize (σ++[ab.box (pn s.s1)]:List ab)=σ2 at aC cK dB hg ⊢;have bad:Zo b.ai.length s.s1=false→aa.bool false=aa.bool (Zv b s):=by intro h; simp[Zv,h]
 repeat first|refine Xa ?_|refine Zb ?_|refine Za (ld dB rfl) ?_|refine Za rfl ?_
 refine Qc (c116 _) rfl i_.plain rfl ?_;refine Za rfl ?_;rcases aL (!gk s.s1.aW) with a1|a1
 ·rw[a1];repeat first|refine Qb rfl ?_|refine Yc rfl ?_|refine Yd rfl ?_|refine Xd rfl ?_|refine Za rfl ?_
  refine Ye (bad ?_);simp at a1;simp[Zo,a1]
 rw[a1];repeat first|refine Xa ?_|refine Zb ?_|refine Za (ld dB rfl) ?_|refine Za rfl ?_
 rcases aL (decide (s.s1.dj<0)) with a2|a2
 ·rw[a2];repeat first|refine Qb rfl ?_|refine Yc rfl ?_|refine Yd rfl ?_|refine Xd rfl ?_|refine Za rfl ?_
  refine Ye (bad ?_);simp at a2;simp[Zo,show ¬0≤s.s1.dj by omega]
 rw[a2];repeat first|refine Xa ?_|refine Zb ?_|refine Za (ld dB rfl) ?_|refine Za rfl ?_
 refine Qc (c116 _) rfl i_.plain rfl ?_;repeat first|refine Xa ?_|refine Zb ?_|refine Za (ld dB rfl) ?_|refine Za rfl ?_
 rcases aL (!gk s.s1.dj) with a3|a3
 ·rw[a3];repeat first|refine Qb rfl ?_|refine Yc rfl ?_|refine Yd rfl ?_|refine Xd rfl ?_|refine Za rfl ?_
  refine Ye (bad ?_);simp at a3;simp[Zo,a3]
 rw[a3];repeat first|refine Xa ?_|refine Zb ?_|refine Za (ld dB rfl) ?_|refine Za rfl ?_
 rcases aL (decide (s.s1.most<0)) with a4|a4
 ·rw[a4];repeat first|refine Qb rfl ?_|refine Yc rfl ?_|refine Yd rfl ?_|refine Xd rfl ?_|refine Za rfl ?_
  refine Ye (bad ?_);simp at a4;simp[Zo,show ¬0≤s.s1.most by omega]
 rw[a4];repeat first|refine Xa ?_|refine Zb ?_|refine Za (ld dB rfl) ?_|refine Za rfl ?_
 refine Zc (λa5=>bad ?_) (λa5=>?_)
 ·have a5:10<s.s1.most:=by simpa using a5
  simp[Zo,show ¬s.s1.most≤10 by omega]
 refine Za (ld aC rfl) ?_;repeat first|refine Xa ?_|refine Zb ?_|refine Za (ld dB rfl) ?_|refine Za rfl ?_
 refine Qc (c117 _ _ _ hs.s1.bJ) rfl fz.plain rfl ?_;refine Za rfl ?_;rcases aL (!Qq b.ai.length s.s1.bJ 60) with a6|a6
 ·rw[a6];repeat first|refine Qb rfl ?_|refine Yc rfl ?_|refine Yd rfl ?_|refine Xd rfl ?_|refine Za rfl ?_
  refine Ye (bad ?_);simp at a6;simp[Zo,a6]
 rw[a6];repeat first|refine Xa ?_|refine Zb ?_|refine Za (ld dB rfl) ?_|refine Za (ld aC rfl) ?_|refine Za rfl ?_
 refine Qc (c117 _ _ _ hs.s1.hand) rfl fz.plain rfl ?_;repeat first|refine Xa ?_|refine Zb ?_|refine Za (ld dB rfl) ?_|refine Za (ld aC rfl) ?_|refine Za rfl ?_
 rcases aL (!Qq b.ai.length s.s1.hand 10) with a7|a7
 ·rw[a7];repeat first|refine Qb rfl ?_|refine Yc rfl ?_|refine Yd rfl ?_|refine Xd rfl ?_|refine Za rfl ?_
  refine Ye (bad ?_);simp at a7;simp[Zo,a7]
 rw[a7];repeat first|refine Xa ?_|refine Zb ?_|refine Za (ld dB rfl) ?_|refine Za (ld aC rfl) ?_|refine Za rfl ?_
 refine Qc (c117 _ _ _ hs.s1.aR) rfl fz.plain rfl ?_;repeat first|refine Xa ?_|refine Zb ?_|refine Za (ld dB rfl) ?_|refine Za (ld aC rfl) ?_|refine Za rfl ?_
 rcases aL (!Qq b.ai.length s.s1.aR 1000000) with a8|a8
 ·rw[a8];repeat first|refine Qb rfl ?_|refine Yc rfl ?_|refine Yd rfl ?_|refine Xd rfl ?_|refine Za rfl ?_
  refine Ye (bad ?_);simp at a8;simp[Zo,a8]
 rw[a8];repeat first|refine Xa ?_|refine Zb ?_|refine Za (ld dB rfl) ?_|refine Za (ld aC rfl) ?_|refine Za rfl ?_
 refine Qc (c117 _ _ _ hs.s1.told) rfl fz.plain rfl ?_;repeat first|refine Xa ?_|refine Zb ?_|refine Za (ld dB rfl) ?_|refine Za (ld aC rfl) ?_|refine Za rfl ?_
 rcases aL (!Qq b.ai.length s.s1.told 1000000) with a9|a9
 ·rw[a9];repeat first|refine Qb rfl ?_|refine Yc rfl ?_|refine Yd rfl ?_|refine Xd rfl ?_|refine Za rfl ?_
  refine Ye (bad ?_);simp at a9;simp[Zo,a9]
 rw[a9];repeat first|refine Xa ?_|refine Zb ?_|refine Za (ld dB rfl) ?_|refine Za (ld aC rfl) ?_|refine Za rfl ?_
 refine Zc (λa10=>bad ?_) (λa10=>?_)
 ·have a10:7<s.s1.ae.length:=by simp at a10; omega
  simp[Zo,show ¬s.s1.ae.length≤7 by omega]
 have KK:Zo b.ai.length s.s1=true:=by
  simp at a1 a2 a3 a4 a5 a6 a7 a8 a9 a10;simp[Zo,a1,a2,a3,a4,a5,a6,a7,a8,a9]; omega
 have J0:s.s1.ae.length≤7:=by simp at a10; omega
 clear a1 a2 a3 a4 a5 a6 a7 a8 a9 a10 bad;have qE:Xr b s.next (s.s0.ae.map Th.id) s.s1.ae=false→aa.bool false=aa.bool (Zv b s):=by intro h; simp[Zv,h]
 refine Zl (ι:=Nat) (λi vs σ=>∃v,vs=[iv i,v]∧i≤s.s1.ae.length∧cL 1 (((s.s0.ae.map Th.id)++(s.s1.ae.take i).map Th.id).map bL) (s.s0.ae.length+i) v σ∧ah σ 0=.box [gG b.ai,jZ b.ao]∧ah σ 1=.box (bX s)∧ah σ N=.box (pn s.s1)∧Xr b s.next (s.s0.ae.map Th.id) s.s1.ae=Xr b s.next ((s.s0.ae.map Th.id)++(s.s1.ae.take i).map Th.id) (s.s1.ae.drop i)) (λi=>s.s1.ae.length-i) 0 ⟨_,rfl,by omega,(by simp only[Ah.h1,pC,gO,List.take_zero,List.map_nil,List.append_nil,Nat.add_zero]; exact hg),aC,cK,dB,by simp⟩ ?_;clear aC cK dB hg;rintro i vs σ3 again ⟨v,rfl,hi,hg,aC,cK,dB,hu⟩ aM;repeat first|refine Xa ?_|refine Zb ?_|refine Za (ld dB rfl) ?_|refine Za rfl ?_
 refine Zc (λh=>?_) (λh=>?_)
 ·have h:i<s.s1.ae.length:=by simpa using h
  have cO:s.s1.ae.drop i=s.s1.ae[i]::s.s1.ae.drop (i+1):=by rw[eD h]
  rw[cO] at hu;repeat first|refine Xa ?_|refine Zb ?_|refine Za (ld dB rfl) ?_|refine Za rfl ?_
  refine Za (Zp _ bf _ _ _ _ _ i h) ?_;refine Za rfl ?_;refine Yt rfl rfl rfl ?_;generalize hU:s.s1.ae[i]=u at hu cO;have kF:ah (σ3++[.box (bf u)]) σ3.length=.box (bf u):=Zi _ _
  replace aC:=Zg [.box (bf u)] aC (by simp)
  replace cK:=Zg [.box (bf u)] cK (by simp)
  replace dB:=Zg [.box (bf u)] dB (by simp)
  replace hg:=hg.more [.box (bf u)]
  generalize hN:σ3.length=N3 at kF ⊢;clear hN;simp only[aa.cell];generalize uS:(σ3++[ab.box (bf u)]:List ab)=σ4 at aC cK dB kF hg;have Aq:(σ3++[ab.box [iv u.id,iv u.card,iv u.aK,.bool u.nv]]:List ab)=σ4:=uS
  first|rw[Aq]|rw[uS]|skip
  have js:Qt b s.next u=false→aa.bool false=aa.bool (Zv b s):=by intro h; apply qE; rw[hu]; simp[Xr,h]
  repeat first|refine Xa ?_|refine Zb ?_|refine Za (ld kF rfl) ?_|refine Za (ld aC rfl) ?_|refine Za (ld cK rfl) ?_|refine Za rfl ?_
  rcases aL (decide (u.card<0)) with q1|q1
  ·rw[q1];repeat first|refine Qb rfl ?_|refine Yc rfl ?_|refine Yd rfl ?_|refine Xd rfl ?_|refine Za rfl ?_
   refine Ye (js ?_);simp at q1;simp[Qt,show ¬0≤u.card by omega]
  rw[q1];repeat first|refine Xa ?_|refine Zb ?_|refine Za (ld kF rfl) ?_|refine Za (ld aC rfl) ?_|refine Za (ld cK rfl) ?_|refine Za rfl ?_
  rcases aL (decide (u.card ≥ (b.ai.map cD).length)) with q2|q2
  ·rw[q2];repeat first|refine Qb rfl ?_|refine Yc rfl ?_|refine Yd rfl ?_|refine Xd rfl ?_|refine Za rfl ?_
   refine Ye (js ?_);simp at q2;simp[Qt,show ¬u.card<b.ai.length by omega]
  rw[q2];simp at q1 q2;have hc:u.card.toNat<b.ai.length:=by omega
  have pA:b.ai[u.card.toNat]?=some b.ai[u.card.toNat]:=by simp[hc]
  repeat first|refine Xa ?_|refine Zb ?_|refine Za (ld kF rfl) ?_|refine Za (ld aC rfl) ?_|refine Za (ld cK rfl) ?_|refine Za rfl ?_
  refine Za (vJ _ cD _ _ _ _ _ _ (by omega) hc) ?_;repeat first|refine Xa ?_|refine Zb ?_|refine Za (ld kF rfl) ?_|refine Za (ld aC rfl) ?_|refine Za (ld cK rfl) ?_|refine Za rfl ?_
  rcases aL (!(b.ai[u.card.toNat]).unit) with q3|q3
  ·rw[q3];repeat first|refine Qb rfl ?_|refine Yc rfl ?_|refine Yd rfl ?_|refine Xd rfl ?_|refine Za rfl ?_
   refine Ye (js ?_);simp at q3;simp[Qt,pA,q3]
  rw[q3];repeat first|refine Xa ?_|refine Zb ?_|refine Za (ld kF rfl) ?_|refine Za (ld aC rfl) ?_|refine Za (ld cK rfl) ?_|refine Za rfl ?_
  rcases aL (decide (u.aK<0)) with q4|q4
  ·rw[q4];repeat first|refine Qb rfl ?_|refine Yc rfl ?_|refine Yd rfl ?_|refine Xd rfl ?_|refine Za rfl ?_
   refine Ye (js ?_);simp at q4;simp[Qt,show ¬0≤u.aK by omega]
  rw[q4];repeat first|refine Xa ?_|refine Zb ?_|refine Za (ld kF rfl) ?_|refine Za (ld aC rfl) ?_|refine Za (ld cK rfl) ?_|refine Za rfl ?_
  rcases aL (decide (u.aK>1000000)) with q5|q5
  ·rw[q5];repeat first|refine Qb rfl ?_|refine Yc rfl ?_|refine Yd rfl ?_|refine Xd rfl ?_|refine Za rfl ?_
   refine Ye (js ?_);simp at q5;simp[Qt,show ¬u.aK≤1000000 by omega]
  rw[q5];repeat first|refine Xa ?_|refine Zb ?_|refine Za (ld kF rfl) ?_|refine Za (ld aC rfl) ?_|refine Za (ld cK rfl) ?_|refine Za rfl ?_
  rcases aL (decide (u.id<1)) with q6|q6
  ·rw[q6];repeat first|refine Qb rfl ?_|refine Yc rfl ?_|refine Yd rfl ?_|refine Xd rfl ?_|refine Za rfl ?_
   refine Ye (js ?_);simp at q6;simp[Qt,show ¬1≤u.id by omega]
  rw[q6];repeat first|refine Xa ?_|refine Zb ?_|refine Za (ld kF rfl) ?_|refine Za (ld aC rfl) ?_|refine Za (ld cK rfl) ?_|refine Za rfl ?_
  refine Zc (λq7=>js ?_) (λq7=>?_)
  ·have q7:s.next≤u.id:=by simpa using q7
   simp[Qt,show ¬u.id<s.next by omega]
  have de:Qt b s.next u=true:=by
   simp at q3 q4 q5 q6 q7;simp[Qt,pA,q3]; omega
  rw[Xr,de,Bool.true_and] at hu;generalize ly:(s.s0.ae.map Th.id)++(s.s1.ae.take i).map Th.id=ids at hg hu;have kH:ids.length=s.s0.ae.length+i:=by rw[←ly]; simp[List.length_take,Nat.min_eq_left hi]
  refine Zl (ι:=Nat) (λj vs σ=>vs=[iv j]∧σ=σ4∧j≤ids.length∧∀m (hm:m<ids.length),m<j→ids[m]≠u.id) (λj=>ids.length-j) 0 ⟨rfl,rfl,by omega,λm _ h=>by omega⟩ ?_;rintro j vs σ mH ⟨rfl,rfl,hj,kG⟩ lu;refine Za (hg.len _) (Za rfl ?_);refine Zc (λh2=>?_) (λh2=>?_)
  ·have h2:j<ids.length:=by rw[kH]; simp at h2; omega
   obtain⟨bb,e1,H7,e2⟩:=hg.at .i64 j (by omega);refine Za e1 ?_;refine Za (e2 false 1 (iv ids[j]) (by simp[bL])) ?_;repeat first|refine Xa ?_|refine Zb ?_|refine Za (ld kF rfl) ?_|refine Za (ld aC rfl) ?_|refine Za (ld cK rfl) ?_|refine Za rfl ?_
   refine Zc (λh3=>?_) (λh3=>?_)
   ·have h3:ids[j]=u.id:=by simpa using h3
    apply qE; rw[hu];have:u.id∈ids:=by rw[←h3]; exact List.getElem_mem h2
    simp[this]
   ·have h3:ids[j]≠u.id:=by simpa using h3
    refine Za rfl ?_;rw[Zf (n:=j) (by omega)];refine lu (j+1) _ _ (by omega) ⟨rfl,rfl,by omega,λm hm xe=>?_⟩;by_cases e:m=j
    ·subst e; exact h3
    ·exact kG m hm (by omega)
  ·have h2:¬j<ids.length:=by rw[kH]; simp at h2; omega
   have Fp:ids.contains u.id=false:=by
    rw[List.contains_eq_mem,decide_eq_false_iff_not];intro hm;obtain⟨m,hm,e⟩:=List.getElem_of_mem hm;exact kG m hm (by omega) e
   rw[Fp,Bool.not_false,Bool.true_and] at hu;repeat first|refine Xa ?_|refine Zb ?_|refine Za (ld kF rfl) ?_|refine Za (ld aC rfl) ?_|refine Za (ld cK rfl) ?_|refine Za rfl ?_
   rw[Q7 _ _ _ _ _ [iv u.id] rfl rfl];refine hg.D' _ (hold:=λp=>p) rfl (by omega) _ (λv' σ' hx nO=>?_);refine Za rfl ?_;rw[Zf (n:=i) (by omega)];have FA:(s.s0.ae.map Th.id)++(s.s1.ae.take (i+1)).map Th.id=ids++[u.id]:=by
    rw[←ly,Yy _ _ h,hU]; simp
   refine aM (i+1) _ _ (by omega) ⟨v',rfl,by omega,?_,hx _ _ aC,hx _ _ cK,hx _ _ dB,?_⟩
   ·rw[FA]; simpa[bL,Nat.add_assoc] using nO
   ·rw[FA]; exact hu
 have h:i=s.s1.ae.length:=by simp at h; omega
 subst h;rw[List.take_length] at hg hu;have Lj:Xr b s.next (s.s0.ae.map Th.id) s.s1.ae=true:=by rw[hu]; simp[Xr]
 clear aM qE hu;refine Za rfl ?_;rw[w2];refine Xm ?_;refine Za rfl (Xh ?_);simp[Zv,KJ,KK,Li,Lj]
end Go.Ah.Tz
end
section
namespace Go.Ah.Tz
open Go.Proofs.Tryz (prog)
def dS(s:St):List Int→List Int→Bool
 |_,[]=>true
 |prev,a::l=>((aH s a).2.2&&decide ((aH s a).1=s.mover))&&(!(prev.contains a)&&dS s (prev++[a]) l)
def bt(e:Int)(b:Bk)(s:St)(bare:Bool):Bool:=
 decide (e=0) && (decide (1≤s.turn) && (decide (s.turn≤4096) && (decide (0≤s.mover) && (decide (s.mover≤1) && (decide (0≤s.phase) && (decide (s.phase≤2) && (decide (0≤s.result) && (decide (s.result≤3) &&
 (((s.result == 0) == (s.phase != 2)) && (decide (1≤s.next) && (decide (s.next≤1000000) && (Zv b s &&
 (if s.phase≠1 then decide (s.ak.length=0) else !(decide (s.ak.length=0) && !bare) && (s.cc && (decide (s.ak.length≤7) && dS s [] s.ak)))))))))))))))
attribute [local irreducible] al.rd al.pu al.wr al.dr al.gr al.gw al.gl al.gd al.opt au W
set_option maxHeartbeats 2000000
theorem c25(b:Bk)(s:St)(hs:cw 1000000000 s)(bare:Bool)(e p:Int)(h67:PC 67 [eY b] (.agg [iv e,iv p])):PC 25 [eY b,eC s,.bool bare] (.bool (bt e b s bare)):=by
 refine Qd hP oK rfl rfl ?_;unfold g25;repeat first|refine Za rfl ?_|refine Ze rfl rfl ?_
 refine Qc h67 rfl qP.plain rfl ?_;repeat first|refine Za rfl ?_|refine Ze rfl rfl ?_
 rcases aL (e != 0) with q1|q1
 ·rw[q1];repeat first|refine Qb rfl ?_|refine Yc rfl ?_|refine Yd rfl ?_|refine Xd rfl ?_|refine Za rfl ?_
  refine Ye ?_;simp at q1;simp[bt,q1]
 rw[q1];repeat first|refine Xa ?_|refine Zb ?_|refine Za rfl ?_
 rcases aL (decide (s.turn<1)) with q2|q2
 ·rw[q2];repeat first|refine Qb rfl ?_|refine Yc rfl ?_|refine Yd rfl ?_|refine Xd rfl ?_|refine Za rfl ?_
  refine Ye ?_;simp at q2;simp[bt,show ¬1≤s.turn by omega]
 rw[q2];repeat first|refine Xa ?_|refine Zb ?_|refine Za rfl ?_
 rcases aL (decide (s.turn>4096)) with q3|q3
 ·rw[q3];repeat first|refine Qb rfl ?_|refine Yc rfl ?_|refine Yd rfl ?_|refine Xd rfl ?_|refine Za rfl ?_
  refine Ye ?_;simp at q3;simp[bt,show ¬s.turn≤4096 by omega]
 rw[q3];repeat first|refine Xa ?_|refine Zb ?_|refine Za rfl ?_
 rcases aL (decide (s.mover<0)) with q4|q4
 ·rw[q4];repeat first|refine Qb rfl ?_|refine Yc rfl ?_|refine Yd rfl ?_|refine Xd rfl ?_|refine Za rfl ?_
  refine Ye ?_;simp at q4;simp[bt,show ¬0≤s.mover by omega]
 rw[q4];repeat first|refine Xa ?_|refine Zb ?_|refine Za rfl ?_
 rcases aL (decide (s.mover>1)) with q5|q5
 ·rw[q5];repeat first|refine Qb rfl ?_|refine Yc rfl ?_|refine Yd rfl ?_|refine Xd rfl ?_|refine Za rfl ?_
  refine Ye ?_;simp at q5;simp[bt,show ¬s.mover≤1 by omega]
 rw[q5];repeat first|refine Xa ?_|refine Zb ?_|refine Za rfl ?_
 rcases aL (decide (s.phase<0)) with q6|q6
 ·rw[q6];repeat first|refine Qb rfl ?_|refine Yc rfl ?_|refine Yd rfl ?_|refine Xd rfl ?_|refine Za rfl ?_
  refine Ye ?_;simp at q6;simp[bt,show ¬0≤s.phase by omega]
 rw[q6];repeat first|refine Xa ?_|refine Zb ?_|refine Za rfl ?_
 rcases aL (decide (s.phase>2)) with q7|q7
 ·rw[q7];repeat first|refine Qb rfl ?_|refine Yc rfl ?_|refine Yd rfl ?_|refine Xd rfl ?_|refine Za rfl ?_
  refine Ye ?_;simp at q7;simp[bt,show ¬s.phase≤2 by omega]
 rw[q7];repeat first|refine Xa ?_|refine Zb ?_|refine Za rfl ?_
 rcases aL (decide (s.result<0)) with q8|q8
 ·rw[q8];repeat first|refine Qb rfl ?_|refine Yc rfl ?_|refine Yd rfl ?_|refine Xd rfl ?_|refine Za rfl ?_
  refine Ye ?_;simp at q8;simp[bt,show ¬0≤s.result by omega]
 rw[q8];repeat first|refine Xa ?_|refine Zb ?_|refine Za rfl ?_
 refine Zc (λq9=>?_) (λq9=>?_)
 ·have q9:3<s.result:=by simpa using q9
  simp[bt,show ¬s.result≤3 by omega]
 repeat first|refine Xa ?_|refine Zb ?_|refine Za rfl ?_
 rcases aL (!(s.result==0)==(s.phase != 2)) with q10|q10
 ·rw[q10];repeat first|refine Qb rfl ?_|refine Yc rfl ?_|refine Yd rfl ?_|refine Xd rfl ?_|refine Za rfl ?_
  refine Ye ?_;have q10:((s.result==0)==(s.phase != 2))=false:=(Bool.not_eq_true' _).mp q10;simp only[bt,q10]; simp
 rw[q10];repeat first|refine Xa ?_|refine Zb ?_|refine Za rfl ?_
 rcases aL (decide (s.next<1)) with q11|q11
 ·rw[q11];repeat first|refine Qb rfl ?_|refine Yc rfl ?_|refine Yd rfl ?_|refine Xd rfl ?_|refine Za rfl ?_
  refine Ye ?_;simp at q11;simp[bt,show ¬1≤s.next by omega]
 rw[q11];repeat first|refine Xa ?_|refine Zb ?_|refine Za rfl ?_
 rcases aL (decide (s.next>1000000)) with q12|q12
 ·rw[q12];repeat first|refine Qb rfl ?_|refine Yc rfl ?_|refine Yd rfl ?_|refine Xd rfl ?_|refine Za rfl ?_
  refine Ye ?_;simp at q12;simp[bt,show ¬s.next≤1000000 by omega]
 rw[q12];repeat first|refine Xa ?_|refine Zb ?_|refine Za rfl ?_
 refine Qc (c68 b s hs) rfl uj.plain rfl ?_;repeat first|refine Xa ?_|refine Za rfl ?_
 refine Zc (λq13=>?_) (λq13=>?_)
 ·have q13:Zv b s=false:=by simpa using q13
  simp[bt,q13]
 have Q1:e=0:=by simpa using q1
 have Q10:((s.result==0)==(s.phase != 2))=true:=by
  cases hX:((s.result==0)==(s.phase != 2)) with
  |true=>rfl
  |false=>rw[hX] at q10; cases q10
 have Q13:Zv b s=true:=by simpa using q13
 simp at q2 q3 q4 q5 q6 q7 q8 q9 q11 q12;have hm:bt e b s bare=(if s.phase≠1 then decide (s.ak.length=0) else !(decide (s.ak.length=0) && !bare)&&(s.cc&&(decide (s.ak.length≤7)&&dS s [] s.ak))):=by
  simp only[bt,Q10,Q13];simp[Q1,q2,q3,q4,q5,q6,q7,q8,q9,q11,q12]
 rw[hm];clear hm Q1 Q10 Q13 q1 q2 q3 q4 q5 q6 q7 q8 q9 q10 q11 q12 q13;repeat first|refine Za rfl ?_
 refine Zc (λh=>?_) (λh=>?_)
 ·have h:s.phase≠1:=by simpa using h
  repeat first|refine Za rfl ?_
  rw[if_pos h]
  congr 1
  rw[Bool.eq_iff_iff];simp
 have h:s.phase=1:=by simpa using h
 rw[if_neg (by simp[h])];repeat first|refine Za rfl ?_
 rcases aL ((((s.ak.map bL).length:Nat):Int)==0) with h1|h1
 ·rw[h1];have h1:s.ak=[]:=by simpa using h1
  repeat first|refine Xa ?_|refine Za rfl ?_
  cases bare with
  |false=>
   repeat first|refine Qb rfl ?_|refine Yd rfl ?_|refine Za rfl ?_
   refine Ye ?_;simp[h1]
  |true=>
   repeat first|refine Xa ?_|refine Za rfl ?_
   rcases aL (!s.cc) with h2|h2
   ·rw[h2];repeat first|refine Qb rfl ?_|refine Yd rfl ?_|refine Za rfl ?_
    refine Ye ?_;have h2:s.cc=false:=by simpa using h2
    simp[h2]
   rw[h2];have h2:s.cc=true:=by simpa using h2
   repeat first|refine Xa ?_|refine Za rfl ?_
   rw[h1];refine Xh ?_;refine XF 1 (Xm ?_);repeat first|refine Za (ld (σ:=[]++[ab.box [gG b.ai,jZ b.ao]]++[ab.box (bX s)]) (b:=1) rfl rfl) ?_|refine Za rfl ?_
   rw[h1];refine Xh ?_;simp[h2,dS]
 rw[h1];have h1:s.ak.length≠0:=by simpa using h1
 repeat first|refine Qb rfl ?_|refine Yd rfl ?_|refine Za rfl ?_
 repeat first|refine Xa ?_|refine Za rfl ?_
 have yt:(decide (s.ak.length=0) && !bare)=false:=by simp[h1]
 rw[yt,Bool.not_false,Bool.true_and];rcases aL (!s.cc) with h2|h2
 ·rw[h2];repeat first|refine Qb rfl ?_|refine Yd rfl ?_|refine Za rfl ?_
  refine Ye ?_;have h2:s.cc=false:=by simpa using h2
  simp[h2]
 rw[h2];have h2:s.cc=true:=by simpa using h2
 rw[h2,Bool.true_and];repeat first|refine Xa ?_|refine Za rfl ?_
 refine Zc (λh3=>?_) (λh3=>?_)
 ·have h3:¬s.ak.length≤7:=by simp at h3; omega
  simp[h3]
 have h3:s.ak.length≤7:=by simp at h3; omega
 rw[decide_eq_true h3,Bool.true_and];have bad:dS s [] s.ak=false→aa.bool false=aa.bool (dS s [] s.ak):=λh=>by rw[h]
 generalize hB:([]++[ab.box [gG b.ai,jZ b.ao]]++[ab.box (bX s)]:List ab)=base;have cK:ah base 1=.box (bX s):=by rw[←hB]; rfl
 generalize hN:([]++[ab.box [gG b.ai,jZ b.ao]]:List ab).length=N;have WK:N=1:=by rw[←hN]; rfl
 subst WK;clear hB hN;refine Zl (ι:=Nat) (λi vs σ=>vs=[iv i]∧σ=base∧i≤s.ak.length∧dS s [] s.ak=dS s (s.ak.take i) (s.ak.drop i)) (λi=>s.ak.length-i) 0 ⟨rfl,rfl,by omega,by simp⟩ ?_;rintro i vs σ again ⟨rfl,rfl,hi,hu⟩ aM;repeat first|refine Za (ld cK rfl) ?_|refine Za rfl ?_
 refine Zc (λh=>?_) (λh=>?_)
 ·have h:i<s.ak.length:=by simpa using h
  have cO:s.ak.drop i=s.ak[i]::s.ak.drop (i+1):=by rw[eD h]
  rw[cO] at hu;refine Yk (ld cK rfl) (Yl _) (Zk rfl (Yk (ld cK rfl) (Yl _) (Yk (Zp _ bL _ _ _ _ _ i h) (Yl _) (Yk rfl (Yl _) ?_))));refine Qn (c23 s hs s.ak[i]) rfl mU.plain rfl ?_;refine Zk rfl (Zk rfl (Zk rfl (XJ (by kernel_rfl) ?_)));refine Za rfl ?_;generalize ha:s.ak[i]=a at hu;rcases aL (!(aH s a).2.2) with h4|h4
  ·rw[h4];repeat first|refine Qb rfl ?_|refine Yd rfl ?_|refine Za rfl ?_
   refine Ye (bad ?_);have h4:(aH s a).2.2=false:=by simpa using h4
   rw[hu]; simp[dS,h4]
  rw[h4];repeat first|refine Xa ?_|refine Za (ld cK rfl) ?_|refine Za rfl ?_
  refine Zc (λh5=>bad ?_) (λh5=>?_)
  ·have h5:(aH s a).1≠s.mover:=by simpa using h5
   rw[hu]; simp[dS,h5]
  have oX:((aH s a).2.2&&decide ((aH s a).1=s.mover))=true:=by
   have h4:(aH s a).2.2=true:=by simpa using h4
   have h5:(aH s a).1=s.mover:=by simpa using h5
   simp[h4,h5]
  rw[dS,oX,Bool.true_and] at hu;refine Zl (ι:=Nat) (λj vs σ2=>vs=[iv j]∧σ2=σ∧j≤i∧∀m (hm:m<s.ak.length),m<j→s.ak[m]≠a) (λj=>i-j) 0 ⟨rfl,rfl,by omega,λm _ h=>by omega⟩ ?_;rintro j vs σ mH ⟨rfl,rfl,hj,kG⟩ lu;refine Za rfl ?_;refine Zc (λh6=>?_) (λh6=>?_)
  ·have h6:j<i:=by simpa using h6
   repeat first|refine Za (ld cK rfl) ?_|refine Za (Zp _ bL _ _ _ s.ak _ j (by omega)) ?_|refine Za (Zp _ bL _ _ _ s.ak _ i h) ?_|refine Za rfl ?_
   refine Zc (λh7=>bad ?_) (λh7=>?_)
   ·have h7:s.ak[j]=a:=by rw[←ha]; simpa using h7
    have:a∈s.ak.take i:=by
     rw[List.mem_take_iff_getElem];exact⟨j,by omega,h7⟩
    rw[hu]; simp[this]
   ·have h7:s.ak[j]≠a:=by rw[←ha]; simpa using h7
    refine Za rfl ?_;rw[Zf (n:=j) (by omega)];refine lu (j+1) _ _ (by omega) ⟨rfl,rfl,by omega,λm hm xe=>?_⟩;by_cases e:m=j
    ·subst e; exact h7
    ·exact kG m hm (by omega)
  ·have h6:¬j<i:=by simpa using h6
   have Fp:(s.ak.take i).contains a=false:=by
    rw[List.contains_eq_mem,decide_eq_false_iff_not];intro hm;rw[List.mem_take_iff_getElem] at hm;obtain⟨m,hm,e⟩:=hm;exact kG m (by omega) (by omega) e
   rw[Fp,Bool.not_false,Bool.true_and] at hu;refine Za rfl ?_;rw[Zf (n:=i) (by omega)];refine aM (i+1) _ _ (by omega) ⟨rfl,rfl,by omega,?_⟩;rw[Yy _ _ h,ha]; exact hu
 have h:i=s.ak.length:=by simp at h; omega
 subst h;rw[hu]; simp[dS]
theorem c16(b:Bk)(s:St)(hs:cw 1000000000 s)(e p:Int)(h67:PC 67 [eY b] (.agg [iv e,iv p])):PC 16 [eY b,eC s] (iv (bif bt e b s false then 0 else 170)):=by
 refine Qd hP uc rfl rfl ?_;unfold g16;repeat first|refine Za rfl ?_|refine Ze rfl rfl ?_
 refine Qc (c25 b s hs false e p h67) rfl oK.plain rfl ?_;refine Za rfl ?_;refine Zc (λh=>?_) (λh=>?_)
 ·have h:bt e b s false=false:=by simpa using h
  simp[h]
 ·have h:bt e b s false=true:=by simpa using h
  simp[h]
end Go.Ah.Tz
end
section
namespace Go.Ah.Tz
open Go.Proofs.Tryz (prog)
abbrev fO:Nat:=1152921504606846975
def Dn(n:Int):Bool:=decide (-128≤n)&&decide (n≤127)
def FI(n:Int):Bool:=decide (-9223372036854775808≤n)&&decide (n≤9223372036854775807)
theorem V2{n:Int}(h:Dn n=true):-128≤n∧n≤127:=by simpa[Dn] using h
mutual
def cQ:Nm→Bool
 |.mk op n _ kids=>decide (kids.length≤fO)&&(y_ kids&&(Dn op&&FI n))
def y_:List Nm→Bool
 |[]=>true
 |x::l=>cQ x&&y_ l
end
theorem I6:∀ {l:List Nm},y_ l=true→∀x∈l,cQ x=true
 |[],_,_,h=>by simp at h
 |y::l,h,x,hx=>by
  simp only[y_,Bool.and_eq_true] at h;rcases List.mem_cons.1 hx with rfl|hx
  ·exact h.1
  ·exact I6 h.2 x hx
theorem Q2{x:Nm}(h:cQ x=true):x.kids.length≤fO:=by cases x; simp[cQ] at h; exact h.1
theorem XU{x k:Nm}(h:cQ x=true)(hk:k∈x.kids):cQ k=true:=by cases x; simp[cQ] at h; exact I6 h.2.1 k hk
theorem zg{x k:Nm}(hk:k∈x.kids):SizeOf.sizeOf k<SizeOf.sizeOf x:=by
 cases x with
 |mk a b c kids=>
  have:=List.sizeOf_lt_of_mem (show k∈kids from hk);simp; omega
mutual
def cy:Cn→Bool
 |.mk op _ _ aw kids=>(decide (aw.length≤fO)&&y_ aw)&&(decide (kids.length≤fO)&&(CX kids&&Dn op))
def CX:List Cn→Bool
 |[]=>true
 |x::l=>cy x&&CX l
end
theorem Mc:∀ {l:List Cn},CX l=true→∀x∈l,cy x=true
 |[],_,_,h=>by simp at h
 |y::l,h,x,hx=>by
  simp only[CX,Bool.and_eq_true] at h;rcases List.mem_cons.1 hx with rfl|hx
  ·exact h.1
  ·exact Mc h.2 x hx
theorem YL{x:Cn}(h:cy x=true):x.aw.length≤fO:=by cases x; simp[cy] at h; exact h.1.1
theorem ZL{x:Cn}(h:cy x=true):x.kids.length≤fO:=by cases x; simp[cy] at h; exact h.2.1
theorem ZT{x:Cn}{k:Nm}(h:cy x=true)(hk:k∈x.aw):cQ k=true:=by cases x; simp[cy] at h; exact I6 h.1.2 k hk
theorem QS{x k:Cn}(h:cy x=true)(hk:k∈x.kids):cy k=true:=by cases x; simp[cy] at h; exact Mc h.2.2.1 k hk
theorem zj{x k:Cn}(hk:k∈x.kids):SizeOf.sizeOf k<SizeOf.sizeOf x:=by
 cases x with
 |mk a b c aw kids=>
  have:=List.sizeOf_lt_of_mem (show k∈kids from hk);simp; omega
mutual
def cX:Ef→Bool
 |.mk op _ n _ c bk br=>cQ n&&(cy c&&((decide (bk.length≤fO)&&xX bk)&&((decide (br.length≤fO)&&xX br)&&Dn op)))
def xX:List Ef→Bool
 |[]=>true
 |x::l=>cX x&&xX l
end
theorem Jw:∀ {l:List Ef},xX l=true→∀x∈l,cX x=true
 |[],_,_,h=>by simp at h
 |y::l,h,x,hx=>by
  simp only[xX,Bool.and_eq_true] at h;rcases List.mem_cons.1 hx with rfl|hx
  ·exact h.1
  ·exact Jw h.2 x hx
def bA(l:List Ef):Bool:=decide (l.length≤fO)&&xX l
theorem Y4{x:Ef}(h:cX x=true):cQ x.n=true:=by cases x; simp[cX] at h; exact h.1
theorem YZ{x:Ef}(h:cX x=true):cy x.c=true:=by cases x; simp[cX] at h; exact h.2.1
theorem QI{x:Ef}(h:cX x=true):bA x.bk=true:=by cases x; simp[cX] at h; simp[bA,Ef.bk,h]
theorem XI{x:Ef}(h:cX x=true):bA x.br=true:=by cases x; simp[cX] at h; simp[bA,Ef.br,h]
theorem Vn{x:Ef}(h:cX x=true):-128≤x.op∧x.op≤127:=by cases x; simp[cX] at h; exact V2 h.2.2.2.2
theorem ZC{l:List Ef}(h:bA l=true):l.length≤fO:=by simp[bA] at h; exact h.1
theorem QN{l:List Ef}{x:Ef}(h:bA l=true)(hx:x∈l):cX x=true:=by simp[bA] at h; exact Jw h.2 x hx
theorem aY{n:Int}(h1:-9223372036854775808≤n)(h2:n≤9223372036854775807):IntKind.i64.wrap n=n:=IntWalk.i64_in _ ⟨h1,h2⟩
theorem kT(x:Nm):el [.agg (aP x)]=true:=by rw[QA]; rfl
theorem qp(x:Nm):aF true 0 4 (aP x)=some (.agg (aP x)):=by rw[QA]; rfl
theorem pK(x:Cn):el [.agg (b_ x)]=true:=by rw[XH]; rfl
theorem vM(x:Cn):aF true 0 5 (b_ x)=some (.agg (b_ x)):=by rw[XH]; rfl
theorem aj{σ:List ab}{j n:Nat}{agg:Bool}{row:List aa}{v:aa}(hv:aF agg j n row=some v):Zd agg n [.ay row j] σ=.ok v [] []:=by
 rw[G8,hv]
mutual
def nQ:Nm→Int
 |.mk _ _ _ kids=>iN 1 kids
def iN:Int→List Nm→Int
 |n,[]=>n
 |n,x::l=>iN (min (n+nQ x) 1073741824) l
end
theorem MJ(x:Nm):nQ x=iN 1 x.kids:=by cases x; rfl
theorem JC:∀(l:List Nm) (n:Int),0≤n→n≤1073741824→(∀x∈l,0≤nQ x)→0≤iN n l∧iN n l≤1073741824
 |[],n,h1,h2,_=>⟨h1,h2⟩
 |x::l,n,h1,h2,h3=>by
  have:=h3 x (by simp);exact JC l _ (by omega) (by omega) (λy hy=>h3 y (by simp[hy]))
theorem Po:∀(k:Nat) (x:Nm),SizeOf.sizeOf x≤k→0≤nQ x∧nQ x≤1073741824
 |0,x,h=>by cases x; simp at h
 |k+1,x,h=>by
  rw[MJ];exact JC _ _ (by omega) (by omega) (λy hy=>(Po k y (by have:=zg hy; omega)).1)
theorem D4(x:Nm):0≤nQ x∧nQ x≤1073741824:=Po _ x (Nat.le_refl _)
mutual
def nV:Cn→Int
 |.mk _ _ _ aw kids=>mP (iN 1 aw) kids
def mP:Int→List Cn→Int
 |n,[]=>n
 |n,x::l=>mP (min (n+nV x) 1073741824) l
end
theorem Ov(x:Cn):nV x=mP (iN 1 x.aw) x.kids:=by cases x; rfl
theorem Nn:∀(l:List Cn) (n:Int),0≤n→n≤1073741824→(∀x∈l,0≤nV x)→0≤mP n l∧mP n l≤1073741824
 |[],n,h1,h2,_=>⟨h1,h2⟩
 |x::l,n,h1,h2,h3=>by
  have:=h3 x (by simp);exact Nn l _ (by omega) (by omega) (λy hy=>h3 y (by simp[hy]))
theorem ND:∀(k:Nat) (x:Cn),SizeOf.sizeOf x≤k→0≤nV x∧nV x≤1073741824
 |0,x,h=>by cases x; simp at h
 |k+1,x,h=>by
  rw[Ov];have h1:=JC x.aw 1 (by omega) (by omega) (λy _=>(D4 y).1);exact Nn _ _ h1.1 h1.2 (λy hy=>(ND k y (by have:=zj hy; omega)).1)
theorem JA(x:Cn):0≤nV x∧nV x≤1073741824:=ND _ x (Nat.le_refl _)
def aU(op:Int):Bool:=decide (op=0)||(decide (op=1)||(decide (op=2)||(decide (op=3)||decide (op=5))))
def fi(w:Int):Bool:=decide (w=0)||decide (w=1)
attribute [local irreducible] al.rd al.pu al.wr al.dr al.gr al.gw al.gl al.gd al.opt au W
theorem Ei:∀(k:Nat) (x:Nm),SizeOf.sizeOf x≤k→cQ x=true→PC 76 [.agg (aP x)] (iv (nQ x))
 |0,x,h,_=>by cases x; simp at h
 |k+1,x,hk,hf=>by
  rw[QA];refine Qd hP mY rfl rfl ?_;unfold g76;refine Ze rfl rfl ?_;rw[MJ];have hlen:=Q2 hf;generalize hB:([]++[ab.box [ar x.op,iv x.n,ar x.aB,.ax false false 4 (x.kids.map aP)]]:List ab)=base;have aC:ah base 0=.box [ar x.op,iv x.n,ar x.aB,.ax false false 4 (x.kids.map aP)]:=by rw[←hB]; rfl
  clear hB;refine Zl (ι:=Nat) (λi vs σ=>∃n,vs=[iv i,iv n]∧σ=base∧i≤x.kids.length∧0≤n∧n≤1073741824∧iN 1 x.kids=iN n (x.kids.drop i)) (λi=>x.kids.length-i) 0 ⟨1,rfl,rfl,by omega,by omega,by omega,by simp⟩ ?_;rintro i vs σ again ⟨n,rfl,rfl,hi,n1,n2,hu⟩ aM;repeat first|refine Za (ld aC rfl) ?_|refine Za rfl ?_
  refine Zc (λh=>?_) (λh=>?_)
  ·have h:i<x.kids.length:=by simpa using h
   have cO:x.kids.drop i=x.kids[i]::x.kids.drop (i+1):=by rw[eD h]
   rw[cO,iN] at hu;have hm:x.kids[i]∈x.kids:=List.getElem_mem h;refine Za rfl (Za (ld aC rfl) (Za (Zp _ aP _ _ _ x.kids _ i h) (Za (aj (qp _)) ?_)));refine Qc (Ei k _ (by have:=zg hm; omega) (XU hf hm)) rfl mY.plain (kT _) ?_;have:=D4 x.kids[i];refine Za (Xk ..) (Za (ZK ..) (Za (Xk ..) ?_));rw[Zf (n:=i) (by have:fO=1152921504606846975:=rfl; omega),aY (by omega) (by omega)];exact aM (i+1) _ _ (by omega) ⟨_,rfl,rfl,by omega,by omega,by omega,hu⟩
  ·have h:i=x.kids.length:=by simp at h; omega
   subst h;rw[List.drop_length] at hu;rw[hu]; rfl
theorem c76(x:Nm)(hf:cQ x=true):PC 76 [.agg (aP x)] (iv (nQ x)):=Ei _ x (Nat.le_refl _) hf
end Go.Ah.Tz
end
section
namespace Go.Ah.Tz
open Go.Proofs.Tryz (prog)
attribute [local irreducible] al.rd al.pu al.wr al.dr al.gr al.gw al.gl al.gd al.opt au W
theorem zh{f:(List aa→List ab→Prop)→Prop}{k:List aa→List ab→Prop}(h:f k):au f k:=by unfold au; exact h
theorem cM:fO=1152921504606846975:=rfl
theorem vP(x:Ef):aF true 0 14 (aX x)=some (.agg (aX x)):=by rw[QH]; rfl
theorem yo(x:Ef):aF true 2 4 (aX x)=some (.agg (aP x.n)):=by rw[QH,QA]; rfl
theorem rM(x:Ef):aF true 7 5 (aX x)=some (.agg (b_ x.c)):=by rw[QH,XH]; rfl
theorem ba(x:Ef):aF false 0 1 (aX x)=some (ar x.op):=by rw[QH]; rfl
theorem bu(x:Ef):aF false 1 1 (aX x)=some (ar x.aB):=by rw[QH]; rfl
theorem bw(x:Ef):aF false 6 1 (aX x)=some (.str x.name):=by rw[QH]; rfl
theorem Zr(x:Ef):aF false 12 1 (aX x)=some (ju x.bk):=by rw[QH]; rfl
theorem Yr(x:Ef):aF false 13 1 (aX x)=some (ju x.br):=by rw[QH]; rfl
theorem ya:∀(k:Nat) (x:Cn),SizeOf.sizeOf x≤k→cy x=true→PC 178 [.agg (b_ x)] (iv (nV x))
 |0,x,h,_=>by cases x; simp at h
 |k+1,x,hk,hf=>by
  rw[XH];refine Qd hP ki rfl rfl ?_;unfold g178;refine Ze rfl rfl ?_;rw[Ov];have ik:=YL hf;have eR:=ZL hf;rw[cM] at ik eR;generalize hB:([]++[ab.box [ar x.op,ar x.aB,.str x.name,.ax false false 4 (x.aw.map aP),.ax false false 5 (x.kids.map b_)]]:List ab)=base;have aC:ah base 0=.box [ar x.op,ar x.aB,.str x.name,.ax false false 4 (x.aw.map aP),.ax false false 5 (x.kids.map b_)]:=by rw[←hB]; rfl
  clear hB;refine Zl (ι:=Nat) (λi vs σ=>∃n,vs=[iv i,iv n]∧σ=base∧i≤x.aw.length∧0≤n∧n≤1073741824∧iN 1 x.aw=iN n (x.aw.drop i)) (λi=>x.aw.length-i) 0 ⟨1,rfl,rfl,by omega,by omega,by omega,by simp⟩ ?_;rintro i vs σ again ⟨n,rfl,rfl,hi,n1,n2,hu⟩ aM;repeat first|refine Za (ld aC rfl) ?_|refine Za rfl ?_
  refine Zc (λh=>?_) (λh=>?_)
  ·have h:i<x.aw.length:=by simpa using h
   have cO:x.aw.drop i=x.aw[i]::x.aw.drop (i+1):=by rw[eD h]
   rw[cO,iN] at hu;have hm:x.aw[i]∈x.aw:=List.getElem_mem h;refine Za rfl (Za (ld aC rfl) (Za (Zp _ aP _ _ _ x.aw _ i h) (Za (aj (qp _)) ?_)));refine Qc (c76 _ (ZT hf hm)) rfl mY.plain (kT _) ?_;have:=D4 x.aw[i];refine Za (Xk ..) (Za (ZK ..) (Za (Xk ..) ?_));rw[Zf (n:=i) (by omega),aY (by omega) (by omega)];exact aM (i+1) _ _ (by omega) ⟨_,rfl,rfl,by omega,by omega,by omega,hu⟩
  have h:i=x.aw.length:=by simp at h; omega
  subst h;rw[List.drop_length,iN] at hu;rw[hu];clear aM hu hi;refine Zl (ι:=Nat) (λi vs s=>∃m,vs=[iv i,iv m]∧s=σ∧i≤x.kids.length∧0≤m∧m≤1073741824∧mP n x.kids=mP m (x.kids.drop i)) (λi=>x.kids.length-i) 0 ⟨n,rfl,rfl,by omega,by omega,by omega,by simp⟩ ?_;rintro i vs s again ⟨m,rfl,rfl,hi,n1,n2,hu⟩ aM;repeat first|refine Za (ld aC rfl) ?_|refine Za rfl ?_
  refine Zc (λh=>?_) (λh=>?_)
  ·have h:i<x.kids.length:=by simpa using h
   have cO:x.kids.drop i=x.kids[i]::x.kids.drop (i+1):=by rw[eD h]
   rw[cO,mP] at hu;have hm:x.kids[i]∈x.kids:=List.getElem_mem h;refine Za rfl (Za (ld aC rfl) (Za (Zp _ b_ _ _ _ x.kids _ i h) (Za (aj (vM _)) ?_)));refine Qc (ya k _ (by have:=zj hm; omega) (QS hf hm)) rfl ki.plain (pK _) ?_;have:=JA x.kids[i];refine Za (Xk ..) (Za (ZK ..) (Za (Xk ..) ?_));rw[Zf (n:=i) (by omega),aY (by omega) (by omega)];exact aM (i+1) _ _ (by omega) ⟨_,rfl,rfl,by omega,by omega,by omega,hu⟩
  ·have h:i=x.kids.length:=by simp at h; omega
   subst h;rw[List.drop_length] at hu;rw[hu]; rfl
theorem c178(x:Cn)(hf:cy x=true):PC 178 [.agg (b_ x)] (iv (nV x)):=ya _ x (Nat.le_refl _) hf
theorem c121(w:Int):PC 121 [ar w] (.bool (fi w)):=by
 refine Qd hP fA rfl rfl ?_;unfold g121;refine Za rfl ?_;rcases aL (w==0) with h1|h1
 ·rw[h1];repeat first|refine Qb rfl ?_|refine Yc rfl ?_|refine Yd rfl ?_|refine Xd rfl ?_|refine Za rfl ?_
  simp at h1; simp[fi,h1]
 rw[h1];repeat first|refine Xa ?_|refine Zb ?_|refine Za rfl ?_
 have h1:w≠0:=by simpa using h1
 exact congrArg aa.bool (by rw[Bool.eq_iff_iff]; simp[fi,h1])
theorem c130(w:Int):PC 130 [ar w] (.bool (aU w)):=by
 refine Qd hP ja rfl rfl ?_;unfold g130;refine Za rfl ?_;rcases aL (w==0) with h0|h0
 ·rw[h0];repeat first|refine Qb rfl ?_|refine Yc rfl ?_|refine Yd rfl ?_|refine Xd rfl ?_|refine Za rfl ?_
  simp at h0; simp[aU,h0]
 rw[h0];repeat first|refine Xa ?_|refine Zb ?_|refine Za rfl ?_
 rcases aL (w==1) with h1|h1
 ·rw[h1];repeat first|refine Qb rfl ?_|refine Yc rfl ?_|refine Yd rfl ?_|refine Xd rfl ?_|refine Za rfl ?_
  simp at h1; simp[aU,h1]
 rw[h1];repeat first|refine Xa ?_|refine Zb ?_|refine Za rfl ?_
 rcases aL (w==2) with h2|h2
 ·rw[h2];repeat first|refine Qb rfl ?_|refine Yc rfl ?_|refine Yd rfl ?_|refine Xd rfl ?_|refine Za rfl ?_
  simp at h2; simp[aU,h2]
 rw[h2];repeat first|refine Xa ?_|refine Zb ?_|refine Za rfl ?_
 rcases aL (w==3) with h3|h3
 ·rw[h3];repeat first|refine Qb rfl ?_|refine Yc rfl ?_|refine Yd rfl ?_|refine Xd rfl ?_|refine Za rfl ?_
  simp at h3; simp[aU,h3]
 rw[h3];repeat first|refine Xa ?_|refine Zb ?_|refine Za rfl ?_
 simp at h0 h1 h2 h3;exact congrArg aa.bool (by rw[Bool.eq_iff_iff]; simp[aU,h0,h1,h2,h3])
mutual
def dU:Int→List Ef→Int
 |n,[]=>n
 |n,x::l=>dU (zq n x) l
def zq:Int→Ef→Int
 |n0,.mk op _ nn _ c bk br=>
  if op=8 then min ((if aU op then min (min (n0+1) 1073741824+nQ nn) 1073741824 else min (n0+1) 1073741824)+nV c+dU 0 bk+dU 0 br) 1073741824 else (if aU op then min (min (n0+1) 1073741824+nQ nn) 1073741824 else min (n0+1) 1073741824)
end
theorem DU(n:Int)(x:Ef):zq n x=if x.op=8 then min ((if aU x.op then min (min (n+1) 1073741824+nQ x.n) 1073741824 else min (n+1) 1073741824)+nV x.c+dU 0 x.bk+dU 0 x.br) 1073741824 else (if aU x.op then min (min (n+1) 1073741824+nQ x.n) 1073741824 else min (n+1) 1073741824):=by
 cases x; rfl
theorem Hw:∀(k:Nat) (l:List Ef) (n:Int),SizeOf.sizeOf l≤k→0≤n→n≤1073741824→0≤dU n l∧dU n l≤1073741824
 |0,l,n,h,_,_=>by cases l<;>simp at h
 |k+1,[],n,_,h1,h2=>⟨h1,h2⟩
 |k+1,x::l,n,h,h1,h2=>by
  simp only[List.cons.sizeOf_spec] at h;have hx:SizeOf.sizeOf x.bk<SizeOf.sizeOf x∧SizeOf.sizeOf x.br<SizeOf.sizeOf x:=by
   cases x; simp[Ef.bk,Ef.br]; omega
  have q1:=Hw k x.bk 0 (by omega) (by omega) (by omega);have q2:=Hw k x.br 0 (by omega) (by omega) (by omega);have q3:=D4 x.n;have q4:=JA x.c;have q5:0≤zq n x∧zq n x≤1073741824:=by
   rw[DU]; split<;>split<;>omega
  rw[dU];exact Hw k l _ (by omega) q5.1 q5.2
theorem Dv(l:List Ef):0≤dU 0 l∧dU 0 l≤1073741824:=Hw _ l 0 (Nat.le_refl _) (by omega) (by omega)
theorem ZX(x:Ef):SizeOf.sizeOf x.bk<SizeOf.sizeOf x∧SizeOf.sizeOf x.br<SizeOf.sizeOf x:=by
 cases x; simp[Ef.bk,Ef.br]; omega
theorem pI:∀(k:Nat) (l:List Ef),SizeOf.sizeOf l≤k→bA l=true→PC 142 [ju l] (iv (dU 0 l))
  |0,l,h,_=>by cases l<;>simp at h
  |k+1,l,hk,hf=>by
    refine Qd hP fB rfl rfl ?_;unfold g142;have hlen:=ZC hf;rw[cM] at hlen;refine Zl (ι:=Nat) (λi vs σ=>∃n,vs=[iv i,iv n]∧i≤l.length∧0≤n∧n≤1073741824∧dU 0 l=dU n (l.drop i)) (λi=>l.length-i) 0 ⟨0,rfl,by omega,by omega,by omega,by simp⟩ ?_;rintro i vs σ again ⟨n,rfl,hi,n1,n2,hu⟩ aM;refine Za rfl (Za rfl ?_);refine Zc (λh=>?_) (λh=>?_)
    · have h:i<l.length:=by simpa using h
      have cO:l.drop i=l[i]::l.drop (i+1):=by rw[eD h]
      rw[cO,dU] at hu;have hm:l[i]∈l:=List.getElem_mem h;have ei:=List.sizeOf_lt_of_mem hm;have jg:=QN hf hm;have ix:=λ(s:List ab)=>Zp s aX false false 14 l .i64 i h;generalize l[i]=x at hu ei jg ix;refine zh (Za (Xk ..) (Za (ZK ..) (Za (ix _) (Za rfl (Za (aj (ba x)) ?_)))));refine Qc (c130 _) rfl ja.plain rfl ?_;have b1:=D4 x.n;have b2:=JA x.c;have b3:=Dv x.bk;have b4:=Dv x.br;rw[aY (n:=n+1) (by omega) (by omega)];have fin:∀m:Int,0≤m→m≤1073741824→zq n x=m→again [iv ((i+1:Nat):Int),iv m] σ:=by
        intro m m1 m2 e;exact aM (i+1) _ _ (by omega) ⟨m,rfl,by omega,m1,m2,by rw[hu,e]⟩
      refine zh ?_;refine Zc (λhc=>?_) (λhc=>?_)
      all_goals
        first
        | (refine Za (ix _) (Za rfl (Za (aj (yo x)) ?_))
           refine Qc (c76 _ (Y4 jg)) rfl mY.plain (kT _) ?_;refine Za (Xk ..) (Za (ZK ..) ?_);rw[aY (n:=min (n + 1) 1073741824 + nQ x.n) (by omega) (by omega)])
        |skip
      · have qd:(if aU x.op then min (min (n+1) 1073741824+nQ x.n) 1073741824 else min (n+1) 1073741824)=min (min (n+1) 1073741824+nQ x.n) 1073741824:=by rw[if_pos hc]
        obtain⟨m,hm⟩:∃m,m=min (min (n+1) 1073741824+nQ x.n) 1073741824:=⟨_,rfl⟩;rw[←hm]
        replace qd:=qd.trans hm.symm
        have m1:0≤m∧m≤1073741824:=by omega
        refine Za (ix _) (Za rfl (Za (aj (ba x)) (Za rfl ?_)));refine Zc (λh8=>?_) (λh8=>?_)
        · have h8:x.op=8:=by simpa using h8
          refine Yk (ix _) (Yl _) (Zk rfl (Yk (aj (rM x)) (Yl _) ?_));refine Qn (c178 _ (YZ jg)) rfl ki.plain (pK _) ?_;refine Zk (Xk ..) (Yk (ix _) (Yl _) (Zk rfl (Yk (aj (Zr x)) (Yl _) ?_)));have o_:=ZX x;refine Qn (pI k _ (by omega) (QI jg)) rfl fB.plain rfl ?_;refine Zk (Xk ..) (Yk (ix _) (Yl _) (Zk rfl (Yk (aj (Yr x)) (Yl _) ?_)));refine Qn (pI k _ (by omega) (XI jg)) rfl fB.plain rfl ?_;refine Zk (Xk ..) (Zk (ZK ..) (XJ (by kernel_rfl) (Za (Xk ..) ?_)));rw[Zf (n:=i) (by omega),aY (n:=m+nV x.c) (by omega) (by omega),aY (n:=m+nV x.c+dU 0 x.bk) (by omega) (by omega),aY (n:=m+nV x.c+dU 0 x.bk+dU 0 x.br) (by omega) (by omega)];exact fin _ (by omega) (by omega) (by rw[DU,if_pos h8,qd])
        · have h8:x.op≠8:=by simpa using h8
          refine Za (Xk ..) ?_;rw[Zf (n:=i) (by omega)];exact fin _ m1.1 m1.2 (by rw[DU,if_neg h8,qd])
      · have qd:(if aU x.op then min (min (n+1) 1073741824+nQ x.n) 1073741824 else min (n+1) 1073741824)=min (n+1) 1073741824:=by rw[if_neg (by simpa using hc)]
        obtain⟨m,hm⟩:∃m,m=min (n+1) 1073741824:=⟨_,rfl⟩;rw[←hm]
        replace qd:=qd.trans hm.symm
        have m1:0≤m∧m≤1073741824:=by omega
        refine Za (ix _) (Za rfl (Za (aj (ba x)) (Za rfl ?_)));refine Zc (λh8=>?_) (λh8=>?_)
        · have h8:x.op=8:=by simpa using h8
          refine Yk (ix _) (Yl _) (Zk rfl (Yk (aj (rM x)) (Yl _) ?_));refine Qn (c178 _ (YZ jg)) rfl ki.plain (pK _) ?_;refine Zk (Xk ..) (Yk (ix _) (Yl _) (Zk rfl (Yk (aj (Zr x)) (Yl _) ?_)));have o_:=ZX x;refine Qn (pI k _ (by omega) (QI jg)) rfl fB.plain rfl ?_;refine Zk (Xk ..) (Yk (ix _) (Yl _) (Zk rfl (Yk (aj (Yr x)) (Yl _) ?_)));refine Qn (pI k _ (by omega) (XI jg)) rfl fB.plain rfl ?_;refine Zk (Xk ..) (Zk (ZK ..) (XJ (by kernel_rfl) (Za (Xk ..) ?_)));rw[Zf (n:=i) (by omega),aY (n:=m+nV x.c) (by omega) (by omega),aY (n:=m+nV x.c+dU 0 x.bk) (by omega) (by omega),aY (n:=m+nV x.c+dU 0 x.bk+dU 0 x.br) (by omega) (by omega)];exact fin _ (by omega) (by omega) (by rw[DU,if_pos h8,qd])
        · have h8:x.op≠8:=by simpa using h8
          refine Za (Xk ..) ?_;rw[Zf (n:=i) (by omega)];exact fin _ m1.1 m1.2 (by rw[DU,if_neg h8,qd])
    · have h:i=l.length:=by simp at h; omega
      subst h;rw[List.drop_length] at hu;rw[hu]; rfl
theorem c142(l:List Ef)(hf:bA l=true):PC 142 [ju l] (iv (dU 0 l)):=pI _ l (Nat.le_refl _) hf
end Go.Ah.Tz
end
section
namespace Go.Ah.Tz
open Go.Proofs.Tryz (prog)
def c_(x:Nm):Bool:=decide (x.op=0)&&(decide (x.n=0)&&(decide (x.aB=0)&&decide (x.kids.length=0)))
def ez(x:Cn):Bool:=decide (x.op=0)&&(decide (x.aB=0)&&(x.name==[]&&(decide (x.aw.length=0)&&decide (x.kids.length=0))))
def eQ:List Cd→Tx→Bool→Bool
 |[],_,_=>false
 |c::l,t,u=>if c.name==t then c.unit || !u else eQ l t u
def eK(cs:List Cd)(t:Bool):List aa:=[gG cs,.bool t]
attribute [local irreducible] al.rd al.pu al.wr al.dr al.gr al.gw al.gl al.gd al.opt au W
theorem Qk{f:(List aa→List ab→Prop)→Prop}{k:List aa→List ab→Prop}(h:∀k',k'=k→f k'):au f k:=zh (h k rfl)
theorem c110(c:Cd)(h1:bA c.bB=true)(h2:bA c.dead=true)(h3:bA c.eh=true):PC 110 [.agg (cD c)] (iv (min (dU 0 c.bB+dU 0 c.dead+dU 0 c.eh) 1073741824)):=by
 refine Qd hP od rfl rfl ?_;unfold g110;refine Ze rfl rfl (Zk rfl (Yk rfl rfl ?_));refine Qn (c142 _ h1) rfl fB.plain rfl ?_;refine Zk rfl (Yk rfl rfl ?_);refine Qn (c142 _ h2) rfl fB.plain rfl ?_;refine Zk (Xk ..) (Zk rfl (Yk rfl rfl ?_));refine Qn (c142 _ h3) rfl fB.plain rfl ?_;refine Zk (Xk ..) (Zk (ZK ..) (XJ (by kernel_rfl) ?_));have b1:=Dv c.bB;have b2:=Dv c.dead;have b3:=Dv c.eh;rw[aY (n:=dU 0 c.bB+dU 0 c.dead) (by omega) (by omega),aY (by omega) (by omega)]
theorem c225(x:Nm):PC 225 [.agg (aP x)] (.bool (c_ x)):=by
 rw[QA];refine Qd hP lW rfl rfl ?_;unfold g225;refine Ze rfl rfl ?_;refine Za rfl (Za rfl (Za (Qf ..) ?_));rcases aL (decide (x.op=0)) with h1|h1
 rotate_left
 ·rw[h1];repeat first|refine Qb rfl ?_|refine Yc rfl ?_|refine Yd rfl ?_|refine Xd rfl ?_|refine Za rfl ?_
  simp at h1; simp[c_,h1]
 rw[h1];repeat first|refine Xa ?_|refine Zb ?_|refine Za (Qf ..) ?_|refine Za (Xg ..) ?_|refine Za rfl ?_
 rcases aL (decide (x.n=0)) with h2|h2
 rotate_left
 ·rw[h2];repeat first|refine Qb rfl ?_|refine Yc rfl ?_|refine Yd rfl ?_|refine Xd rfl ?_|refine Za rfl ?_
  simp at h2; simp[c_,h2]
 rw[h2];repeat first|refine Xa ?_|refine Zb ?_|refine Za (Qf ..) ?_|refine Za (Xg ..) ?_|refine Za rfl ?_
 rcases aL (decide (x.aB=0)) with h3|h3
 rotate_left
 ·rw[h3];repeat first|refine Qb rfl ?_|refine Yc rfl ?_|refine Yd rfl ?_|refine Xd rfl ?_|refine Za rfl ?_
  simp at h3; simp[c_,h3]
 rw[h3];repeat first|refine Xa ?_|refine Zb ?_|refine Za (Qf ..) ?_|refine Za (Xg ..) ?_|refine Za rfl ?_
 simp at h1 h2 h3;simp[c_,h1,h2,h3]
theorem c227(x:Cn):PC 227 [.agg (b_ x)] (.bool (ez x)):=by
 rw[XH];refine Qd hP oG rfl rfl ?_;unfold g227;refine Ze rfl rfl ?_;refine Za rfl (Za rfl (Za (Qf ..) ?_));rcases aL (decide (x.op=0)) with h1|h1
 rotate_left
 ·rw[h1];repeat first|refine Qb rfl ?_|refine Yc rfl ?_|refine Yd rfl ?_|refine Xd rfl ?_|refine Za rfl ?_
  simp at h1; simp[ez,h1]
 rw[h1];repeat first|refine Xa ?_|refine Zb ?_|refine Za (Qf ..) ?_|refine Za (Xg ..) ?_|refine Za rfl ?_
 rcases aL (decide (x.aB=0)) with h2|h2
 rotate_left
 ·rw[h2];repeat first|refine Qb rfl ?_|refine Yc rfl ?_|refine Yd rfl ?_|refine Xd rfl ?_|refine Za rfl ?_
  simp at h2; simp[ez,h2]
 rw[h2];repeat first|refine Xa ?_|refine Zb ?_|refine Za (Qf ..) ?_|refine Za (Xg ..) ?_|refine Za rfl ?_
 rcases aL (x.name==[]) with h3|h3
 rotate_left
 ·rw[h3];repeat first|refine Qb rfl ?_|refine Yc rfl ?_|refine Yd rfl ?_|refine Xd rfl ?_|refine Za rfl ?_
  simp at h3; simp[ez,h3]
 rw[h3];repeat first|refine Xa ?_|refine Zb ?_|refine Za (Qf ..) ?_|refine Za (Xg ..) ?_|refine Za rfl ?_
 rcases aL (decide (((x.aw.map aP).length:Int)=0)) with h4|h4
 rotate_left
 ·rw[h4];repeat first|refine Qb rfl ?_|refine Yc rfl ?_|refine Yd rfl ?_|refine Xd rfl ?_|refine Za rfl ?_
  simp at h4; simp[ez,h4]
 rw[h4];repeat first|refine Xa ?_|refine Zb ?_|refine Za (Qf ..) ?_|refine Za (Xg ..) ?_|refine Za rfl ?_
 simp at h1 h2 h3 h4;simp[ez,h1,h2,h3,h4]
theorem c187(n:Int):PC 187 [iv n] (.bool (decide (0≤n)&&decide (n≤999))):=by
 refine Qd hP gf rfl rfl ?_;unfold g187;refine Za rfl ?_;rcases aL (decide (n ≥ 0)) with h|h
 ·rw[h];repeat first|refine Za rfl ?_|refine Ze rfl rfl ?_|refine Xa ?_|refine Zb ?_
  have h':0≤n:=by simpa using h
  simp[h']
 ·rw[h];repeat first|refine Qb rfl ?_|refine Yc rfl ?_|refine Yd rfl ?_|refine Xd rfl ?_|refine Za rfl ?_|refine Ze rfl rfl ?_
  have h':¬0≤n:=by simpa using h
  simp[h']
theorem nL(x:Cd):aF false 0 1 (cD x)=some (.str x.name):=rfl
theorem yj(x:Cd):aF false 1 1 (cD x)=some (.bool x.unit):=rfl
theorem c228(cs:List Cd)(hc:cs.length≤fO)(t:Bool)(nm:Tx)(u:Bool):PC 228 [.ay (eK cs t) 0,.str nm,.bool u] (.bool (eQ cs nm u)):=by
 refine Qd hP lY rfl rfl ?_;unfold g228;rw[cM] at hc;refine Zl (ι:=Nat) (λi vs σ=>vs=[iv i]∧i≤cs.length∧eQ cs nm u=eQ (cs.drop i) nm u) (λi=>cs.length-i) 0 ⟨rfl,by omega,by simp⟩ ?_;rintro i vs σ again ⟨rfl,hi,hu⟩ aM;repeat first|refine Za (aj (row:=eK cs t) rfl) ?_|refine Za rfl ?_
 refine Zc (λh=>?_) (λh=>?_)
 ·have h:i<cs.length:=by simpa using h
  have cO:cs.drop i=cs[i]::cs.drop (i+1):=by rw[eD h]
  rw[cO,eQ] at hu;have ix:=λ(s:List ab)=>Zp s cD false false 12 cs .i64 i h;generalize cs[i]=c at hu ix;refine Za rfl (Za rfl (Za (aj (row:=eK cs t) rfl) (Za (ix _) (Za rfl (Za (aj (nL c)) (Za (Xg ..) ?_))))));refine Zc (λh=>?_) (λh=>?_)
  ·rw[if_pos h] at hu;refine Za rfl (Za rfl (Za (aj (row:=eK cs t) rfl) (Za (ix _) (Za rfl (Za (aj (yj c)) ?_)))));rw[hu];cases c.unit<;>repeat (first|refine Xa ?_|refine Qb rfl ?_|refine Yd rfl ?_|refine Za rfl ?_)
   ·simp
   ·simp
  ·rw[if_neg (by simpa using h)] at hu;refine Za (Xk ..) ?_;rw[Zf (n:=i) (by omega)];exact aM (i+1) _ _ (by omega) ⟨rfl,by omega,hu⟩
 ·have h:i=cs.length:=by simp at h; omega
  subst h;rw[List.drop_length] at hu;rw[hu]; rfl
end Go.Ah.Tz
end
section
namespace Go.Ah.Tz
open Go.Proofs.Tryz (prog)
def rq(op:Int):Nat:=if 8≤op∧op≤12 then 2 else 0
def gN(t:Bool)(op n aB:Int)(len:Nat):Bool:=
 (decide (0≤op)&&(decide (op≤12)&&decide (len=rq op)))
def eV(t:Bool)(op n aB:Int):Bool:=
 if op=0 then decide (0≤n)&&(decide (n≤999)&&decide (aB=0)) else decide (n=0)&&(if 1≤op∧op≤4 then fi aB else decide (aB=0)&&(decide (op≠7)||t))
mutual
def fC (t:Bool):Nm→Bool
 |.mk op n aB kids=>gN t op n aB kids.length&&(dt t kids&&eV t op n aB)
def dt (t:Bool):List Nm→Bool
 |[]=>true
 |x::l=>fC t x&&dt t l
end
theorem Pv(t:Bool)(x:Nm):fC t x=(gN t x.op x.n x.aB x.kids.length&&(dt t x.kids&&eV t x.op x.n x.aB)):=by cases x; rfl
def jf(op:Int):Nat:=if 0≤op∧op≤2 then 2 else 0
def jU(op:Int):Nat:=if op=4∨op=5 then 2 else if op=3 then 1 else 0
def ic(op:Int)(l3 l4:Nat):Bool:=decide (0≤op)&&(decide (op≤6)&&(decide (l3=jf op)&&decide (l4=jU op)))
def gI(cs:List Cd)(op aB:Int)(name:Tx):Bool:=if op=6 then fi aB&&eQ cs name false else decide (aB=0)&&name==[]
mutual
def iq (cs:List Cd) (t:Bool):Cn→Bool
 |.mk op aB name aw kids=>ic op aw.length kids.length&&(dt t aw&&(gJ cs t kids&&gI cs op aB name))
def gJ (cs:List Cd) (t:Bool):List Cn→Bool
 |[]=>true
 |x::l=>iq cs t x&&gJ cs t l
end
theorem O7(cs:List Cd)(t:Bool)(x:Cn):iq cs t x=(ic x.op x.aw.length x.kids.length&&(dt t x.aw&&(gJ cs t x.kids&&gI cs x.op x.aB x.name))):=by cases x; rfl
attribute [local irreducible] al.rd al.pu al.wr al.dr al.gr al.gw al.gl al.gd al.opt au W
theorem Ej(cs:List Cd)(t:Bool):∀(k:Nat) (x:Nm),SizeOf.sizeOf x≤k→cQ x=true→PC 77 [.ay (eK cs t) 0,.agg (aP x)] (.bool (fC t x))
 |0,x,h,_=>by cases x; simp at h
 |k+1,x,hk,hf=>by
  rw[QA];refine Qd hP mZ rfl rfl ?_;unfold g77;refine Ze rfl rfl ?_;rw[Pv];have hlen:=Q2 hf;rw[cM] at hlen;generalize hB:([]++[ab.box [ar x.op,iv x.n,ar x.aB,.ax false false 4 (x.kids.map aP)]]:List ab)=base;have aC:ah base 0=.box [ar x.op,iv x.n,ar x.aB,.ax false false 4 (x.kids.map aP)]:=by rw[←hB]; rfl
  clear hB;repeat first|refine Za (ld aC rfl) ?_|refine Za rfl ?_
  have pick:∀K:aa→Prop,K (.bool (decide (8≤x.op)&&decide (x.op≤12))) →
    VV.gr (.bool (decide (x.op ≥ 8))) true (λk=>VV.rd (Ya 0 [.an 0 0] base) k) λGa=>
    VV.gr (.bool (decide (x.op ≥ 8))) true (λk=>VV.rd (Zd false 1 [Ga] base) k) λGc=>
    VV.gr (.bool (decide (x.op ≥ 8))) true (λk=>VV.rd (Yj .leq false [Gc,(.int .i8 12)] base) k) λGe=>
    VV.rd (Xo [.bool (decide (x.op ≥ 8)),Ge,(.bool false)] base) K:=by
   intro K hK;rcases aL (decide (x.op ≥ 8)) with h|h
   rotate_left
   ·rw[h];repeat first|refine Qb rfl ?_|refine Yc rfl ?_|refine Yd rfl ?_|refine Xd rfl ?_|refine Za rfl ?_
    have h:¬8≤x.op:=by simpa using h
    simpa[h] using hK
   rw[h];repeat first|refine Xa ?_|refine Zb ?_|refine Za (ld aC rfl) ?_|refine Za (Qf ..) ?_|refine Za (Xg ..) ?_|refine Za rfl ?_
   have h:8≤x.op:=by simpa using h
   simpa[h] using hK
  refine pick _ ?_;clear pick;refine Qk λkj gh=>?_;have kk:kj [iv (rq x.op)] base:=by
   rw[gh]; clear gh kj;repeat first|refine Za (ld aC rfl) ?_|refine Za rfl ?_
   have nC:¬(0≤x.op∧x.op≤12∧x.kids.length=rq x.op)→aa.bool false=aa.bool (gN t x.op x.n x.aB x.kids.length&&(dt t x.kids&&eV t x.op x.n x.aB)):=by
    intro hn;have:gN t x.op x.n x.aB x.kids.length=false:=by
     rw[Bool.eq_false_iff]; intro hh; simp[gN] at hh; exact hn hh
    rw[this]; rfl
   rcases aL (decide (x.op<0)) with h1|h1
   ·rw[h1];repeat first|refine Qb rfl ?_|refine Yc rfl ?_|refine Yd rfl ?_|refine Xd rfl ?_|refine Za rfl ?_
    refine Ye (nC ?_);simp at h1; omega
   rw[h1];repeat first|refine Xa ?_|refine Zb ?_|refine Za (ld aC rfl) ?_|refine Za (Qf ..) ?_|refine Za (Xg ..) ?_|refine Za rfl ?_
   rcases aL (decide (x.op>12)) with h2|h2
   ·rw[h2];repeat first|refine Qb rfl ?_|refine Yc rfl ?_|refine Yd rfl ?_|refine Xd rfl ?_|refine Za rfl ?_
    refine Ye (nC ?_);simp at h2; omega
   rw[h2];repeat first|refine Xa ?_|refine Zb ?_|refine Za (ld aC rfl) ?_|refine Za (Qf ..) ?_|refine Za (Xg ..) ?_|refine Za rfl ?_
   refine Zc (λh3=>nC ?_) (λh3=>?_)
   ·simp at h3; omega
   simp at h1 h2 h3;have ht:gN t x.op x.n x.aB x.kids.length=true:=by simp[gN]; omega
   rw[ht,Bool.true_and];refine Zl (ι:=Nat) (λi vs σ=>vs=[iv i]∧σ=base∧i≤x.kids.length∧dt t x.kids=dt t (x.kids.drop i)) (λi=>x.kids.length-i) 0 ⟨rfl,rfl,by omega,by simp⟩ ?_;rintro i vs σ again ⟨rfl,rfl,hi,hu⟩ aM;repeat first|refine Za (ld aC rfl) ?_|refine Za rfl ?_
   refine Zc (λh=>?_) (λh=>?_)
   ·have h:i<x.kids.length:=by simpa using h
    have cO:x.kids.drop i=x.kids[i]::x.kids.drop (i+1):=by rw[eD h]
    rw[cO,dt] at hu;have hm:x.kids[i]∈x.kids:=List.getElem_mem h;refine Za rfl (Za (ld aC rfl) (Za (Zp _ aP _ _ _ x.kids _ i h) (Za (aj (qp _)) ?_)));refine Qc (Ej cs t k _ (by have:=zg hm; omega) (XU hf hm)) rfl mZ.plain (by rw[QA]; rfl) ?_;refine Za rfl ?_;refine Zc (λh4=>?_) (λh4=>?_)
    ·have h4:fC t x.kids[i]=false:=by simpa using h4
     rw[hu,h4]; rfl
    ·have h4:fC t x.kids[i]=true:=by simpa using h4
     rw[h4,Bool.true_and] at hu;refine Za (Xk ..) ?_;rw[Zf (n:=i) (by omega)];exact aM (i+1) _ _ (by omega) ⟨rfl,rfl,by omega,hu⟩
   have h:i=x.kids.length:=by simp at h; omega
   subst h;rw[List.drop_length,dt] at hu;rw[hu,Bool.true_and];clear aM hu hi nC ht;refine Za rfl (Za (ld aC rfl) (Za (Qf ..) ?_));refine Zc (λh5=>?_) (λh5=>?_)
   ·have h5:x.op=0:=by simpa using h5
    repeat first|refine Za (ld aC rfl) ?_|refine Za rfl ?_
    rcases aL (decide (x.n ≥ 0)) with h6|h6
    rotate_left
    ·rw[h6];repeat first|refine Qb rfl ?_|refine Yc rfl ?_|refine Yd rfl ?_|refine Xd rfl ?_|refine Za rfl ?_
     have h6:¬0≤x.n:=by simpa using h6
     simp[eV,h5,h6]
    rw[h6];repeat first|refine Xa ?_|refine Zb ?_|refine Za (ld aC rfl) ?_|refine Za (Qf ..) ?_|refine Za (Xg ..) ?_|refine Za rfl ?_
    rcases aL (decide (x.n≤999)) with h7|h7
    rotate_left
    ·rw[h7];repeat first|refine Qb rfl ?_|refine Yc rfl ?_|refine Yd rfl ?_|refine Xd rfl ?_|refine Za rfl ?_
     have h7:¬x.n≤999:=by simpa using h7
     simp[eV,h5,h7]
    rw[h7];repeat first|refine Xa ?_|refine Zb ?_|refine Za (ld aC rfl) ?_|refine Za (Qf ..) ?_|refine Za (Xg ..) ?_|refine Za rfl ?_
    have h6:0≤x.n:=by simpa using h6
    simp at h7;simp[eV,h5,h6,h7]
   have h5:x.op≠0:=by simpa using h5
   repeat first|refine Za (ld aC rfl) ?_|refine Za rfl ?_
   refine Zc (λh6=>?_) (λh6=>?_)
   ·have h6:x.n≠0:=by simpa using h6
    simp[eV,h5,h6]
   have h6:x.n=0:=by simpa using h6
   repeat first|refine Za (ld aC rfl) ?_|refine Za rfl ?_
   have RF:1≤x.op:=by omega
   have Lz:decide (x.op ≥ 1)=true:=by simpa using RF
   rw[Lz];repeat first|refine Xa ?_|refine Zb ?_|refine Za (ld aC rfl) ?_|refine Za (Qf ..) ?_|refine Za (Xg ..) ?_|refine Za rfl ?_
   refine Zc (λh7=>?_) (λh7=>?_)
   ·have h7:x.op≤4:=by simpa using h7
    refine Za rfl (Za (ld aC rfl) ?_);refine Qc (c121 _) rfl fA.plain rfl ?_;simp[eV,h5,h6,h7,RF]
   have h7:¬x.op≤4:=by simpa using h7
   refine Za rfl (Za (ld aC rfl) (Za (Qf ..) ?_));rcases aL (decide (x.aB=0)) with h8|h8
   rotate_left
   ·rw[h8];repeat first|refine Qb rfl ?_|refine Yc rfl ?_|refine Yd rfl ?_|refine Xd rfl ?_|refine Za rfl ?_
    have h8:¬x.aB=0:=by simpa using h8
    simp[eV,h5,h6,h7,h8]
   rw[h8];repeat first|refine Xa ?_|refine Zb ?_|refine Za (ld aC rfl) ?_|refine Za (Qf ..) ?_|refine Za (Xg ..) ?_|refine Za rfl ?_
   have h8:x.aB=0:=by simpa using h8
   rcases aL (x.op != 7) with h9|h9
   ·rw[h9];repeat first|refine Qb rfl ?_|refine Yc rfl ?_|refine Yd rfl ?_|refine Xd rfl ?_|refine Za rfl ?_
    have h9:x.op≠7:=by simpa using h9
    simp[eV,h5,h6,h7,h8,h9]
   rw[h9];repeat first|refine Xa ?_|refine Za (aj (row:=eK cs t) rfl) ?_|refine Za rfl ?_
   have h9:x.op=7:=by simpa using h9
   simp[eV,h6,h8,h9]
  refine Zc (λh=>?_) (λh=>?_)
  ·have e:rq x.op=2:=by simp at h; simp[rq,h]
   rw[e] at kk; exact kk
  ·have e:rq x.op=0:=by simp at h; simp[rq]; omega
   rw[e] at kk; exact kk
theorem c77(cs:List Cd)(t:Bool)(x:Nm)(hf:cQ x=true):PC 77 [.ay (eK cs t) 0,.agg (aP x)] (.bool (fC t x)):=Ej cs t _ x (Nat.le_refl _) hf
end Go.Ah.Tz
end
section
namespace Go.Ah.Tz
open Go.Proofs.Tryz (prog)
attribute [local irreducible] al.rd al.pu al.wr al.dr al.gr al.gw al.gl al.gd al.opt au W
theorem ym(cs:List Cd)(t:Bool)(x:Cn):el [.ay (eK cs t) 0,.agg (b_ x)]=true:=by rw[XH]; rfl
theorem yT(cs:List Cd)(t:Bool)(x:Nm):el [.ay (eK cs t) 0,.agg (aP x)]=true:=by rw[QA]; rfl
theorem yf(cs:List Cd)(jA:cs.length≤fO)(t:Bool):∀(k:Nat) (x:Cn),SizeOf.sizeOf x≤k→cy x=true→PC 226 [.ay (eK cs t) 0,.agg (b_ x)] (.bool (iq cs t x))
 |0,x,h,_=>by cases x; simp at h
 |k+1,x,hk,hf=>by
  rw[XH];refine Qd hP lX rfl rfl ?_;unfold g226;refine Ze rfl rfl ?_;rw[O7];have ik:=YL hf;have eR:=ZL hf;rw[cM] at ik eR;generalize hB:([]++[ab.box [ar x.op,ar x.aB,.str x.name,.ax false false 4 (x.aw.map aP),.ax false false 5 (x.kids.map b_)]]:List ab)=base;have aC:ah base 0=.box [ar x.op,ar x.aB,.str x.name,.ax false false 4 (x.aw.map aP),.ax false false 5 (x.kids.map b_)]:=by rw[←hB]; rfl
  clear hB;repeat first|refine Za (ld aC rfl) ?_|refine Za rfl ?_
  have pick:∀K:aa→Prop,K (.bool (decide (0≤x.op)&&decide (x.op≤2))) →
    VV.gr (.bool (decide (x.op ≥ 0))) true (λk=>VV.rd (Ya 0 [.an 0 0] base) k) λu9=>
    VV.gr (.bool (decide (x.op ≥ 0))) true (λk=>VV.rd (Zd false 1 [u9] base) k) λu_=>
    VV.gr (.bool (decide (x.op ≥ 0))) true (λk=>VV.rd (Yj .leq false [u_,(.int .i8 2)] base) k) λvb=>
    VV.rd (Xo [.bool (decide (x.op ≥ 0)),vb,(.bool false)] base) K:=by
   intro K hK;rcases aL (decide (x.op ≥ 0)) with h|h
   rotate_left
   ·rw[h];repeat first|refine Qb rfl ?_|refine Yc rfl ?_|refine Yd rfl ?_|refine Xd rfl ?_|refine Za rfl ?_
    have h:¬0≤x.op:=by simpa using h
    simpa[h] using hK
   rw[h];repeat first|refine Xa ?_|refine Zb ?_|refine Za (ld aC rfl) ?_|refine Za (Qf ..) ?_|refine Za (Xg ..) ?_|refine Za rfl ?_
   have h:0≤x.op:=by simpa using h
   simpa[h] using hK
  refine pick _ ?_;clear pick;refine Qk λkj gh=>?_;have kk:kj [iv (jf x.op)] base:=by
   rw[gh]; clear gh kj;repeat first|refine Za (ld aC rfl) ?_|refine Za (Qf ..) ?_|refine Za (Xg ..) ?_|refine Za rfl ?_
   refine Qk λkj gh=>?_;have kk:kj [iv (if x.op=3 then 1 else 0:Nat)] base:=by
    rw[gh]; clear gh kj;repeat first|refine Za (ld aC rfl) ?_|refine Za (Qf ..) ?_|refine Za (Xg ..) ?_|refine Za rfl ?_
    have pick:∀K:aa→Prop,K (.bool (decide (x.op=4∨x.op=5))) →
      VV.gr (.bool (decide (x.op=4))) false (λk=>VV.rd (Ya 0 [.an 0 0] base) k) λAG=>
      VV.gr (.bool (decide (x.op=4))) false (λk=>VV.rd (Zd false 1 [AG] base) k) λAJ=>
      VV.gr (.bool (decide (x.op=4))) false (λk=>VV.rd (Yj .eql false [AJ,(.int .i8 5)] base) k) λAK=>
      VV.rd (Xo [.bool (decide (x.op=4)),(.bool true),AK] base) K:=by
     intro K hK;rcases aL (decide (x.op=4)) with h|h
     ·rw[h];repeat first|refine Qb rfl ?_|refine Yc rfl ?_|refine Yd rfl ?_|refine Xd rfl ?_|refine Za rfl ?_
      have h:x.op=4:=by simpa using h
      simpa[h] using hK
     rw[h];repeat first|refine Xa ?_|refine Zb ?_|refine Za (ld aC rfl) ?_|refine Za (Qf ..) ?_|refine Za (Xg ..) ?_|refine Za rfl ?_
     have h:x.op≠4:=by simpa using h
     simpa[h] using hK
    refine pick _ ?_;clear pick;refine Qk λkj gh=>?_;have kk:kj [iv (jU x.op)] base:=by
     rw[gh]; clear gh kj;repeat first|refine Za (ld aC rfl) ?_|refine Za (Qf ..) ?_|refine Za (Xg ..) ?_|refine Za rfl ?_
     have nC:¬(0≤x.op∧x.op≤6∧x.aw.length=jf x.op∧x.kids.length=jU x.op)→aa.bool false=aa.bool (ic x.op x.aw.length x.kids.length&&(dt t x.aw&&(gJ cs t x.kids&&gI cs x.op x.aB x.name))):=by
      intro hn;have:ic x.op x.aw.length x.kids.length=false:=by
       rw[Bool.eq_false_iff]; intro hh; simp[ic] at hh; exact hn hh
      rw[this]; rfl
     rcases aL (decide (x.op<0)) with h1|h1
     ·rw[h1];repeat first|refine Qb rfl ?_|refine Yc rfl ?_|refine Yd rfl ?_|refine Xd rfl ?_|refine Za rfl ?_
      refine Ye (nC ?_);simp at h1; omega
     rw[h1];repeat first|refine Xa ?_|refine Zb ?_|refine Za (ld aC rfl) ?_|refine Za (Qf ..) ?_|refine Za (Xg ..) ?_|refine Za rfl ?_
     rcases aL (decide (x.op>6)) with h2|h2
     ·rw[h2];repeat first|refine Qb rfl ?_|refine Yc rfl ?_|refine Yd rfl ?_|refine Xd rfl ?_|refine Za rfl ?_
      refine Ye (nC ?_);simp at h2; omega
     rw[h2];repeat first|refine Xa ?_|refine Zb ?_|refine Za (ld aC rfl) ?_|refine Za (Qf ..) ?_|refine Za (Xg ..) ?_|refine Za rfl ?_
     rcases aL (((x.aw.map aP).length:Int) != (jf x.op:Int)) with h3|h3
     ·rw[h3];repeat first|refine Qb rfl ?_|refine Yc rfl ?_|refine Yd rfl ?_|refine Xd rfl ?_|refine Za rfl ?_
      refine Ye (nC ?_);simp at h3; omega
     rw[h3];repeat first|refine Xa ?_|refine Zb ?_|refine Za (ld aC rfl) ?_|refine Za (Qf ..) ?_|refine Za (Xg ..) ?_|refine Za rfl ?_
     refine Zc (λh4=>nC ?_) (λh4=>?_)
     ·simp at h4; omega
     simp at h1 h2 h3 h4;have ht:ic x.op x.aw.length x.kids.length=true:=by simp[ic]; omega
     rw[ht,Bool.true_and];refine Zl (ι:=Nat) (λi vs σ=>vs=[iv i]∧σ=base∧i≤x.aw.length∧dt t x.aw=dt t (x.aw.drop i)) (λi=>x.aw.length-i) 0 ⟨rfl,rfl,by omega,by simp⟩ ?_;rintro i vs σ again ⟨rfl,rfl,hi,hu⟩ aM;repeat first|refine Za (ld aC rfl) ?_|refine Za rfl ?_
     refine Zc (λh=>?_) (λh=>?_)
     ·have h:i<x.aw.length:=by simpa using h
      have cO:x.aw.drop i=x.aw[i]::x.aw.drop (i+1):=by rw[eD h]
      rw[cO,dt] at hu;have hm:x.aw[i]∈x.aw:=List.getElem_mem h;refine Za rfl (Za (ld aC rfl) (Za (Zp _ aP _ _ _ x.aw _ i h) (Za (aj (qp _)) ?_)));refine Qc (c77 cs t _ (ZT hf hm)) rfl mZ.plain (yT ..) ?_;refine Za rfl ?_;refine Zc (λh4=>?_) (λh4=>?_)
      ·have h4:fC t x.aw[i]=false:=by simpa using h4
       rw[hu,h4]; rfl
      ·have h4:fC t x.aw[i]=true:=by simpa using h4
       rw[h4,Bool.true_and] at hu;refine Za (Xk ..) ?_;rw[Zf (n:=i) (by omega)];exact aM (i+1) _ _ (by omega) ⟨rfl,rfl,by omega,hu⟩
     have h:i=x.aw.length:=by simp at h; omega
     subst h;rw[List.drop_length,dt] at hu;rw[hu,Bool.true_and];clear aM hu hi nC ht;refine Zl (ι:=Nat) (λi vs s=>vs=[iv i]∧s=σ∧i≤x.kids.length∧gJ cs t x.kids=gJ cs t (x.kids.drop i)) (λi=>x.kids.length-i) 0 ⟨rfl,rfl,by omega,by simp⟩ ?_;rintro i vs s again ⟨rfl,rfl,hi,hu⟩ aM;repeat first|refine Za (ld aC rfl) ?_|refine Za rfl ?_
     refine Zc (λh=>?_) (λh=>?_)
     ·have h:i<x.kids.length:=by simpa using h
      have cO:x.kids.drop i=x.kids[i]::x.kids.drop (i+1):=by rw[eD h]
      rw[cO,gJ] at hu;have hm:x.kids[i]∈x.kids:=List.getElem_mem h;refine Za rfl (Za (ld aC rfl) (Za (Zp _ b_ _ _ _ x.kids _ i h) (Za (aj (vM _)) ?_)));refine Qc (yf cs jA t k _ (by have:=zj hm; omega) (QS hf hm)) rfl lX.plain (ym ..) ?_;refine Za rfl ?_;refine Zc (λh4=>?_) (λh4=>?_)
      ·have h4:iq cs t x.kids[i]=false:=by simpa using h4
       rw[hu,h4]; rfl
      ·have h4:iq cs t x.kids[i]=true:=by simpa using h4
       rw[h4,Bool.true_and] at hu;refine Za (Xk ..) ?_;rw[Zf (n:=i) (by omega)];exact aM (i+1) _ _ (by omega) ⟨rfl,rfl,by omega,hu⟩
     have h:i=x.kids.length:=by simp at h; omega
     subst h;rw[List.drop_length,gJ] at hu;rw[hu,Bool.true_and];clear aM hu hi;repeat first|refine Za (ld aC rfl) ?_|refine Za (Qf ..) ?_|refine Za (Xg ..) ?_|refine Za rfl ?_
     refine Zc (λh5=>?_) (λh5=>?_)
     ·have h5:x.op=6:=by simpa using h5
      refine Za rfl (Za (ld aC rfl) ?_);refine Qc (c121 _) rfl fA.plain rfl ?_;rcases aL (fi x.aB) with h6|h6
      rotate_left
      ·rw[h6];repeat first|refine Qb rfl ?_|refine Yc rfl ?_|refine Yd rfl ?_|refine Xd rfl ?_|refine Za rfl ?_
       simp[gI,h5,h6]
      rw[h6];repeat first|refine Xa ?_|refine Zb ?_|refine Za (ld aC rfl) ?_|refine Za (Qf ..) ?_|refine Za (Xg ..) ?_|refine Za rfl ?_
      refine Qc (c228 cs jA t _ _) rfl lY.plain rfl ?_;repeat first|refine Xa ?_|refine Zb ?_|refine Za (ld aC rfl) ?_|refine Za (Qf ..) ?_|refine Za (Xg ..) ?_|refine Za rfl ?_
      simp[gI,h5,h6]
     have h5:x.op≠6:=by simpa using h5
     repeat first|refine Za (ld aC rfl) ?_|refine Za (Qf ..) ?_|refine Za (Xg ..) ?_|refine Za rfl ?_
     rcases aL (decide (x.aB=0)) with h6|h6
     rotate_left
     ·rw[h6];repeat first|refine Qb rfl ?_|refine Yc rfl ?_|refine Yd rfl ?_|refine Xd rfl ?_|refine Za rfl ?_
      have h6:x.aB≠0:=by simpa using h6
      simp[gI,h5,h6]
     rw[h6];repeat first|refine Xa ?_|refine Zb ?_|refine Za (ld aC rfl) ?_|refine Za (Qf ..) ?_|refine Za (Xg ..) ?_|refine Za rfl ?_
     have h6:x.aB=0:=by simpa using h6
     simp[gI,h5,h6]
    refine Zc (λh=>?_) (λh=>?_)
    ·have e:jU x.op=2:=by simp at h; simp[jU]; omega
     rw[e] at kk; exact kk
    ·have e:jU x.op=if x.op=3 then 1 else 0:=by simp at h; simp[jU]; omega
     rw[e] at kk; exact kk
   refine Zc (λh=>?_) (λh=>?_)
   ·rw[if_pos (by simpa using h)] at kk; exact kk
   ·rw[if_neg (by simpa using h)] at kk; exact kk
  refine Zc (λh=>?_) (λh=>?_)
  ·have e:jf x.op=2:=by simp at h; simp[jf,h]
   rw[e] at kk; exact kk
  ·have e:jf x.op=0:=by simp at h; simp[jf]; omega
   rw[e] at kk; exact kk
theorem c226(cs:List Cd)(jA:cs.length≤fO)(t:Bool)(x:Cn)(hf:cy x=true):PC 226 [.ay (eK cs t) 0,.agg (b_ x)] (.bool (iq cs t x)):=yf cs jA t _ x (Nat.le_refl _) hf
end Go.Ah.Tz
end
section
namespace Go.Ah.Tz
open Go.Proofs.Tryz (prog)
def ij(t:Bool)(op aB:Int):Bool:=if op=0∨op=1 then fi aB||(decide (aB=2)&&t) else decide (aB=0)
def f_(t:Bool)(op aB:Int):Bool:=
 if op=2∨op=4∨op=6 then fi aB else ij t op aB
mutual
def qG (cs:List Cd) (t:Bool):Int→Ef→Bool
 | d,.mk op aB n name c bk br=>decide (0≤op) && (decide (op≤8) && (if op=8 then
   decide (aB=0)&&(c_ n&&(name==[]&&(iq cs t c&&((decide (bk.length≤16)&&(decide (d+1≤8)&&eH cs t (d+1) bk))&&(decide (br.length≤16)&&(decide (d+1≤8)&&eH cs t (d+1) br))))))
  else ez c && (decide (bk.length=0) && (decide (br.length=0) && ((if aU op then fC t n else c_ n) && ((if op=7 then eQ cs name true else name == []) && f_ t op aB))))))
def eH (cs:List Cd) (t:Bool):Int→List Ef→Bool
 |_,[]=>true
 |d,x::l=>qG cs t d x&&eH cs t d l
end
def bF(cs:List Cd)(t:Bool)(d:Int)(l:List Ef):Bool:=decide (l.length≤16)&&(decide (d≤8)&&eH cs t d l)
theorem OX(cs:List Cd)(t:Bool)(d:Int)(x:Ef):qG cs t d x=(decide (0≤x.op) && (decide (x.op≤8) && (if x.op=8 then
   decide (x.aB=0)&&(c_ x.n&&(x.name==[]&&(iq cs t x.c&&(bF cs t (d+1) x.bk&&bF cs t (d+1) x.br))))
  else ez x.c && (decide (x.bk.length=0) && (decide (x.br.length=0) && ((if aU x.op then fC t x.n else c_ x.n) && ((if x.op=7 then eQ cs x.name true else x.name == []) && f_ t x.op x.aB))))))):=by cases x; rfl
attribute [local irreducible] al.rd al.pu al.wr al.dr al.gr al.gw al.gl al.gd al.opt au W
theorem nW(F:Prop){R G:Prop}(imp:(F→R)→G)(r:F→R):G:=imp r
set_option maxHeartbeats 1000000
theorem tN(cs:List Cd)(jA:cs.length≤fO)(t:Bool):∀(k:Nat) (l:List Ef) (d:Int),SizeOf.sizeOf l≤k→bA l=true→0≤d→PC 188 [.ay (eK cs t) 0,ju l,iv d] (.bool (bF cs t d l))
 |0,l,_,h,_,_=>by cases l<;>simp at h
 |k+1,l,d,hk,hf,hd=>by
  refine Qd hP gU rfl rfl ?_;unfold g188;have hlen:=ZC hf;rw[cM] at hlen;refine Za rfl (Za rfl ?_);rcases aL (decide (((l.map aX).length:Int)>16)) with h1|h1
  ·rw[h1];repeat first|refine Qb rfl ?_|refine Yc rfl ?_|refine Yd rfl ?_|refine Xd rfl ?_|refine Za rfl ?_
   refine Ye ?_;have h1:¬l.length≤16:=by simp at h1; omega
   simp[bF,h1]
  rw[h1];repeat first|refine Xa ?_|refine Zb ?_|refine Za rfl ?_
  refine Zc (λh2=>?_) (λh2=>?_)
  ·have h2:¬d≤8:=by simp at h2; omega
   simp[bF,h2]
  have h1:l.length≤16:=by simp at h1; omega
  have h2:d≤8:=by simp at h2; omega
  have hl:bF cs t d l=eH cs t d l:=by simp[bF,h1,h2]
  rw[hl];clear hl;refine Zl (ι:=Nat) (λi vs σ=>vs=[iv i]∧i≤l.length∧eH cs t d l=eH cs t d (l.drop i)) (λi=>l.length-i) 0 ⟨rfl,by omega,by simp⟩ ?_;rintro i vs σ again ⟨rfl,hi,hu⟩ aM;refine Za rfl (Za rfl ?_);refine Zc (λh=>?_) (λh=>?_);rotate_left
  ·have h:i=l.length:=by simp at h; omega
   subst h;rw[List.drop_length,eH] at hu;rw[hu]
  have h:i<l.length:=by simpa using h
  have cO:l.drop i=l[i]::l.drop (i+1):=by rw[eD h]
  rw[cO,eH] at hu;have hm:l[i]∈l:=List.getElem_mem h;have ei:=List.sizeOf_lt_of_mem hm;have jg:=QN hf hm;have ix:=λ(s:List ab)=>Zp s aX false false 14 l .i64 i h;generalize l[i]=x at hu ei jg ix;refine Qk λkj gh=>?_;have kk:qG cs t d x=true→∀s,kj [] s:=by
   intro he s;rw[gh];refine Za (Xk ..) ?_;rw[Zf (n:=i) (by omega)];exact aM (i+1) _ _ (by omega) ⟨rfl,by omega,by rw[hu,he,Bool.true_and]⟩
  have bad:qG cs t d x=false→aa.bool false=aa.bool (eH cs t d l):=by
   intro he; rw[hu,he]; rfl
  clear gh aM;refine Za (ix _) (Za (aj (vP x)) ?_);refine Yt (row:=[ar x.op,ar x.aB,ar x.n.op,iv x.n.n,ar x.n.aB,.ax false false 4 (x.n.kids.map aP),.str x.name,ar x.c.op,ar x.c.aB,.str x.c.name,.ax false false 4 (x.c.aw.map aP),.ax false false 5 (x.c.kids.map b_),.ax false false 14 (x.bk.map aX),.ax false false 14 (x.br.map aX)]) (row':=[ar x.op,ar x.aB,ar x.n.op,iv x.n.n,ar x.n.aB,.ax false false 4 (x.n.kids.map aP),.str x.name,ar x.c.op,ar x.c.aB,.str x.c.name,.ax false false 4 (x.c.aw.map aP),.ax false false 5 (x.c.kids.map b_),.ax false false 14 (x.bk.map aX),.ax false false 14 (x.br.map aX)]) (by rw[QH]; rfl) rfl rfl ?_;have aC:=Zi σ (ab.box [ar x.op,ar x.aB,ar x.n.op,iv x.n.n,ar x.n.aB,.ax false false 4 (x.n.kids.map aP),.str x.name,ar x.c.op,ar x.c.aB,.str x.c.name,.ax false false 4 (x.c.aw.map aP),.ax false false 5 (x.c.kids.map b_),.ax false false 14 (x.bk.map aX),.ax false false 14 (x.br.map aX)]);generalize σ++[ab.box [ar x.op,ar x.aB,ar x.n.op,iv x.n.n,ar x.n.aB,.ax false false 4 (x.n.kids.map aP),.str x.name,ar x.c.op,ar x.c.aB,.str x.c.name,.ax false false 4 (x.c.aw.map aP),.ax false false 5 (x.c.kids.map b_),.ax false false 14 (x.bk.map aX),.ax false false 14 (x.br.map aX)]]=base at aC ⊢;generalize σ.length=b at aC ⊢;have hN:Zd true 4 [.an b 2] base=.ok (.agg (aP x.n)) [b] []:=ld aC (by rw[QA]; rfl);have hC:Zd true 5 [.an b 7] base=.ok (.agg (b_ x.c)) [b] []:=ld aC (by rw[XH]; rfl);rw[OX] at kk bad;repeat first|refine Za hN ?_|refine Za hC ?_|refine Za (ld aC rfl) ?_|refine Za (Qf ..) ?_|refine Za (Xg ..) ?_|refine Za rfl ?_
  rcases aL (decide (x.op<0)) with a1|a1
  ·rw[a1];repeat first|refine Qb rfl ?_|refine Yc rfl ?_|refine Yd rfl ?_|refine Xd rfl ?_|refine Za rfl ?_
   refine Ye (bad ?_);have a1:¬0≤x.op:=by simp at a1; omega
   simp[a1]
  rw[a1];repeat first|refine Xa ?_|refine Zb ?_|refine Za (aj (row:=eK cs t) rfl) ?_|refine Za hN ?_|refine Za hC ?_|refine Za (ld aC rfl) ?_|refine Za (Qf ..) ?_|refine Za (Xg ..) ?_|refine Za rfl ?_
  refine Zc (λa2=>bad ?_) (λa2=>?_)
  ·have a2:¬x.op≤8:=by simp at a2; omega
   simp[a2]
  have a1:0≤x.op:=by simpa using a1
  have a2:x.op≤8:=by simpa using a2
  simp only[a1,a2,decide_true,Bool.true_and] at kk bad;repeat first|refine Za hN ?_|refine Za hC ?_|refine Za (ld aC rfl) ?_|refine Za (Qf ..) ?_|refine Za (Xg ..) ?_|refine Za rfl ?_
  refine Zc (λa3=>?_) (λa3=>?_)
  ·have a3:x.op=8:=by simpa using a3
   rw[if_pos a3] at kk bad;repeat first|refine Za hN ?_|refine Za hC ?_|refine Za (ld aC rfl) ?_|refine Za (Qf ..) ?_|refine Za (Xg ..) ?_|refine Za rfl ?_
   rcases aL (x.aB != 0) with a4|a4
   ·rw[a4];repeat first|refine Qb rfl ?_|refine Yc rfl ?_|refine Yd rfl ?_|refine Xd rfl ?_|refine Za rfl ?_
    refine Ye (bad ?_);have a4:x.aB≠0:=by simpa using a4
    simp[a4]
   rw[a4];repeat first|refine Xa ?_|refine Zb ?_|refine Za (aj (row:=eK cs t) rfl) ?_|refine Za hN ?_|refine Za hC ?_|refine Za (ld aC rfl) ?_|refine Za (Qf ..) ?_|refine Za (Xg ..) ?_|refine Za rfl ?_
   refine Qc (c225 _) rfl lW.plain (kT _) ?_;repeat first|refine Xa ?_|refine Zb ?_|refine Za (aj (row:=eK cs t) rfl) ?_|refine Za hN ?_|refine Za hC ?_|refine Za (ld aC rfl) ?_|refine Za (Qf ..) ?_|refine Za (Xg ..) ?_|refine Za rfl ?_
   rcases aL (!c_ x.n) with a5|a5
   ·rw[a5];repeat first|refine Qb rfl ?_|refine Yc rfl ?_|refine Yd rfl ?_|refine Xd rfl ?_|refine Za rfl ?_
    refine Ye (bad ?_);have a5:c_ x.n=false:=by simpa using a5
    simp[a5]
   rw[a5];repeat first|refine Xa ?_|refine Zb ?_|refine Za (aj (row:=eK cs t) rfl) ?_|refine Za hN ?_|refine Za hC ?_|refine Za (ld aC rfl) ?_|refine Za (Qf ..) ?_|refine Za (Xg ..) ?_|refine Za rfl ?_
   rcases aL (!(x.name==[])) with a6|a6
   ·rw[a6];repeat first|refine Qb rfl ?_|refine Yc rfl ?_|refine Yd rfl ?_|refine Xd rfl ?_|refine Za rfl ?_
    refine Ye (bad ?_);have a6:(x.name==[])=false:=by simpa using a6
    rw[a6]; simp
   rw[a6];repeat first|refine Xa ?_|refine Zb ?_|refine Za (aj (row:=eK cs t) rfl) ?_|refine Za hN ?_|refine Za hC ?_|refine Za (ld aC rfl) ?_|refine Za (Qf ..) ?_|refine Za (Xg ..) ?_|refine Za rfl ?_
   refine Qc (c226 cs jA t _ (YZ jg)) rfl lX.plain (ym ..) ?_;repeat first|refine Xa ?_|refine Zb ?_|refine Za (aj (row:=eK cs t) rfl) ?_|refine Za hN ?_|refine Za hC ?_|refine Za (ld aC rfl) ?_|refine Za (Qf ..) ?_|refine Za (Xg ..) ?_|refine Za rfl ?_
   rcases aL (!iq cs t x.c) with a7|a7
   ·rw[a7];repeat first|refine Qb rfl ?_|refine Yc rfl ?_|refine Yd rfl ?_|refine Xd rfl ?_|refine Za rfl ?_
    refine Ye (bad ?_);have a7:iq cs t x.c=false:=by simpa using a7
    simp[a7]
   rw[a7];repeat first|refine Xa ?_|refine Zb ?_|refine Za (aj (row:=eK cs t) rfl) ?_|refine Za hN ?_|refine Za hC ?_|refine Za (ld aC rfl) ?_|refine Za (Qf ..) ?_|refine Za (Xg ..) ?_|refine Za rfl ?_
   have o_:=ZX x;rw[aY (n:=d+1) (by omega) (by omega)];refine Qc (tN cs jA t k x.bk (d+1) (by omega) (QI jg) (by omega)) rfl gU.plain rfl ?_;repeat first|refine Xa ?_|refine Zb ?_|refine Za (aj (row:=eK cs t) rfl) ?_|refine Za hN ?_|refine Za hC ?_|refine Za (ld aC rfl) ?_|refine Za (Qf ..) ?_|refine Za (Xg ..) ?_|refine Za rfl ?_
   rcases aL (!bF cs t (d+1) x.bk) with a8|a8
   ·rw[a8];repeat first|refine Qb rfl ?_|refine Yc rfl ?_|refine Yd rfl ?_|refine Xd rfl ?_|refine Za rfl ?_
    refine Ye (bad ?_);have a8:bF cs t (d+1) x.bk=false:=by simpa using a8
    simp[a8]
   rw[a8];repeat first|refine Xa ?_|refine Zb ?_|refine Za (aj (row:=eK cs t) rfl) ?_|refine Za hN ?_|refine Za hC ?_|refine Za (ld aC rfl) ?_|refine Za (Qf ..) ?_|refine Za (Xg ..) ?_|refine Za rfl ?_
   rw[aY (n:=d+1) (by omega) (by omega)];refine Qc (tN cs jA t k x.br (d+1) (by omega) (XI jg) (by omega)) rfl gU.plain rfl ?_;repeat first|refine Xa ?_|refine Zb ?_|refine Za (aj (row:=eK cs t) rfl) ?_|refine Za hN ?_|refine Za hC ?_|refine Za (ld aC rfl) ?_|refine Za (Qf ..) ?_|refine Za (Xg ..) ?_|refine Za rfl ?_
   refine Zc (λa9=>bad ?_) (λa9=>kk ?_ _)
   ·have a9:bF cs t (d+1) x.br=false:=by simpa using a9
    simp[a9]
   ·simp at a4 a5 a6 a7 a8 a9;simp[a4,a5,a6,a7,a8,a9]
  have a3:x.op≠8:=by simpa using a3
  rw[if_neg a3] at kk bad;repeat first|refine Za hN ?_|refine Za hC ?_|refine Za (ld aC rfl) ?_|refine Za (Qf ..) ?_|refine Za (Xg ..) ?_|refine Za rfl ?_
  refine Qc (c227 _) rfl oG.plain (pK _) ?_;repeat first|refine Za hN ?_|refine Za hC ?_|refine Za (ld aC rfl) ?_|refine Za (Qf ..) ?_|refine Za (Xg ..) ?_|refine Za rfl ?_
  rcases aL (!ez x.c) with a4|a4
  ·rw[a4];repeat first|refine Qb rfl ?_|refine Yc rfl ?_|refine Yd rfl ?_|refine Xd rfl ?_|refine Za rfl ?_
   refine Ye (bad ?_);have a4:ez x.c=false:=by simpa using a4
   simp[a4]
  rw[a4];repeat first|refine Xa ?_|refine Zb ?_|refine Za (aj (row:=eK cs t) rfl) ?_|refine Za hN ?_|refine Za hC ?_|refine Za (ld aC rfl) ?_|refine Za (Qf ..) ?_|refine Za (Xg ..) ?_|refine Za rfl ?_
  rcases aL (decide (((x.bk.map aX).length:Int)>0)) with a5|a5
  ·rw[a5];repeat first|refine Qb rfl ?_|refine Yc rfl ?_|refine Yd rfl ?_|refine Xd rfl ?_|refine Za rfl ?_
   refine Ye (bad ?_);have a5:x.bk.length≠0:=by simp at a5; omega
   simp[a5]
  rw[a5];repeat first|refine Xa ?_|refine Zb ?_|refine Za (aj (row:=eK cs t) rfl) ?_|refine Za hN ?_|refine Za hC ?_|refine Za (ld aC rfl) ?_|refine Za (Qf ..) ?_|refine Za (Xg ..) ?_|refine Za rfl ?_
  refine Zc (λa6=>bad ?_) (λa6=>?_)
  ·have a6:x.br.length≠0:=by simp at a6; omega
   simp[a6]
  have a4:ez x.c=true:=by simpa using a4
  have a5:x.bk.length=0:=by simp at a5; simpa using a5
  have a6:x.br.length=0:=by simp at a6; simpa using a6
  simp only[a4,a5,a6,decide_true,Bool.true_and] at kk bad;repeat first|refine Za hN ?_|refine Za hC ?_|refine Za (ld aC rfl) ?_|refine Za (Qf ..) ?_|refine Za (Xg ..) ?_|refine Za rfl ?_
  refine Qc (c130 _) rfl ja.plain rfl ?_;apply nW ((if aU x.op then fC t x.n else c_ x.n)=true)
  ·intro hR;rcases aL (aU x.op) with c1|c1
   ·rw[c1];repeat first|refine Xa ?_|refine Zb ?_|refine Za (aj (row:=eK cs t) rfl) ?_|refine Za hN ?_|refine Za hC ?_|refine Za (ld aC rfl) ?_|refine Za (Qf ..) ?_|refine Za (Xg ..) ?_|refine Za rfl ?_
    refine Qc (c77 cs t _ (Y4 jg)) rfl mZ.plain (yT ..) ?_;repeat first|refine Xa ?_|refine Zb ?_|refine Za (aj (row:=eK cs t) rfl) ?_|refine Za hN ?_|refine Za hC ?_|refine Za (ld aC rfl) ?_|refine Za (Qf ..) ?_|refine Za (Xg ..) ?_|refine Za rfl ?_
    rcases aL (!fC t x.n) with c2|c2
    ·rw[c2];repeat first|refine Qb rfl ?_|refine Yc rfl ?_|refine Yd rfl ?_|refine Xd rfl ?_|refine Za rfl ?_
     refine Ye (bad ?_);have c2:fC t x.n=false:=by simpa using c2
     simp[c1,c2]
    rw[c2];repeat first|refine Xa ?_|refine Zb ?_|refine Za (aj (row:=eK cs t) rfl) ?_|refine Za hN ?_|refine Za hC ?_|refine Za (ld aC rfl) ?_|refine Za (Qf ..) ?_|refine Za (Xg ..) ?_|refine Za rfl ?_
    refine Qc (c130 _) rfl ja.plain rfl ?_;rw[c1];repeat first|refine Xa ?_|refine Zb ?_|refine Qb rfl ?_|refine Yc rfl ?_|refine Yd rfl ?_|refine Xd rfl ?_|refine Za (aj (row:=eK cs t) rfl) ?_|refine Za hN ?_|refine Za hC ?_|refine Za (ld aC rfl) ?_|refine Za (Qf ..) ?_|refine Za (Xg ..) ?_|refine Za rfl ?_
    refine Xh ?_;exact hR (by have c2:fC t x.n=true:=(by simpa using c2); simp[c1,c2])
   rw[c1];repeat first|refine Xa ?_|refine Zb ?_|refine Qb rfl ?_|refine Yc rfl ?_|refine Yd rfl ?_|refine Xd rfl ?_|refine Za (aj (row:=eK cs t) rfl) ?_|refine Za hN ?_|refine Za hC ?_|refine Za (ld aC rfl) ?_|refine Za (Qf ..) ?_|refine Za (Xg ..) ?_|refine Za rfl ?_
   refine Qc (c130 _) rfl ja.plain rfl ?_;rw[c1];repeat first|refine Xa ?_|refine Zb ?_|refine Za (aj (row:=eK cs t) rfl) ?_|refine Za hN ?_|refine Za hC ?_|refine Za (ld aC rfl) ?_|refine Za (Qf ..) ?_|refine Za (Xg ..) ?_|refine Za rfl ?_
   refine Qc (c225 _) rfl lW.plain (kT _) ?_;repeat first|refine Xa ?_|refine Zb ?_|refine Za (aj (row:=eK cs t) rfl) ?_|refine Za hN ?_|refine Za hC ?_|refine Za (ld aC rfl) ?_|refine Za (Qf ..) ?_|refine Za (Xg ..) ?_|refine Za rfl ?_
   refine Zc (λc2=>bad ?_) (λc2=>hR ?_)
   ·have c2:c_ x.n=false:=by simpa using c2
    simp[c1,c2]
   ·have c2:c_ x.n=true:=by simpa using c2
    simp[c1,c2]
  intro b1;rw[b1,Bool.true_and] at kk bad;repeat first|refine Za hN ?_|refine Za hC ?_|refine Za (ld aC rfl) ?_|refine Za (Qf ..) ?_|refine Za (Xg ..) ?_|refine Za rfl ?_
  apply nW ((if x.op=7 then eQ cs x.name true else x.name==[])=true)
  ·intro hR;rcases aL (decide (x.op=7)) with c1|c1
   ·rw[c1];repeat first|refine Xa ?_|refine Zb ?_|refine Za (aj (row:=eK cs t) rfl) ?_|refine Za hN ?_|refine Za hC ?_|refine Za (ld aC rfl) ?_|refine Za (Qf ..) ?_|refine Za (Xg ..) ?_|refine Za rfl ?_
    refine Qc (c228 cs jA t _ _) rfl lY.plain rfl ?_;repeat first|refine Xa ?_|refine Zb ?_|refine Za (aj (row:=eK cs t) rfl) ?_|refine Za hN ?_|refine Za hC ?_|refine Za (ld aC rfl) ?_|refine Za (Qf ..) ?_|refine Za (Xg ..) ?_|refine Za rfl ?_
    have c1:x.op=7:=by simpa using c1
    rcases aL (!eQ cs x.name true) with c2|c2
    ·rw[c2];repeat first|refine Qb rfl ?_|refine Yc rfl ?_|refine Yd rfl ?_|refine Xd rfl ?_|refine Za rfl ?_
     refine Ye (bad ?_);have c2:eQ cs x.name true=false:=by simpa using c2
     simp[c1,c2]
    rw[c2];repeat first|refine Xa ?_|refine Zb ?_|refine Za (aj (row:=eK cs t) rfl) ?_|refine Za hN ?_|refine Za hC ?_|refine Za (ld aC rfl) ?_|refine Za (Qf ..) ?_|refine Za (Xg ..) ?_|refine Za rfl ?_
    have c3:(x.op != 7)=false:=by simpa using c1
    rw[c3];repeat first|refine Xa ?_|refine Zb ?_|refine Qb rfl ?_|refine Yc rfl ?_|refine Yd rfl ?_|refine Xd rfl ?_|refine Za (aj (row:=eK cs t) rfl) ?_|refine Za hN ?_|refine Za hC ?_|refine Za (ld aC rfl) ?_|refine Za (Qf ..) ?_|refine Za (Xg ..) ?_|refine Za rfl ?_
    refine Xh ?_;exact hR (by have c2:eQ cs x.name true=true:=(by simpa using c2); simp[c1,c2])
   rw[c1];repeat first|refine Xa ?_|refine Zb ?_|refine Qb rfl ?_|refine Yc rfl ?_|refine Yd rfl ?_|refine Xd rfl ?_|refine Za (aj (row:=eK cs t) rfl) ?_|refine Za hN ?_|refine Za hC ?_|refine Za (ld aC rfl) ?_|refine Za (Qf ..) ?_|refine Za (Xg ..) ?_|refine Za rfl ?_
   have c1:x.op≠7:=by simpa using c1
   have c3:(x.op != 7)=true:=by simpa using c1
   rw[c3];repeat first|refine Xa ?_|refine Zb ?_|refine Za (aj (row:=eK cs t) rfl) ?_|refine Za hN ?_|refine Za hC ?_|refine Za (ld aC rfl) ?_|refine Za (Qf ..) ?_|refine Za (Xg ..) ?_|refine Za rfl ?_
   refine Zc (λc2=>bad ?_) (λc2=>hR ?_)
   ·have c2:(x.name==[])=false:=by simpa using c2
    rw[if_neg c1,c2]; rfl
   ·have c2:(x.name==[])=true:=by simpa using c2
    rw[if_neg c1,c2]
  intro b2;rw[b2,Bool.true_and] at kk bad;repeat first|refine Za hN ?_|refine Za hC ?_|refine Za (ld aC rfl) ?_|refine Za (Qf ..) ?_|refine Za (Xg ..) ?_|refine Za rfl ?_
  have fin:∀s,VV.rd (Xp .not [.bool (f_ t x.op x.aB)] s) λve=>VV.test ve (aa.bool false=aa.bool (eH cs t d l)) (kj [] s):=by
   intro s;refine Za rfl ?_;refine Zc (λc=>bad ?_) (λc=>kk ?_ _)
   ·simpa using c
   ·simpa using c
  rcases aL (decide (x.op=0)) with e1|e1
  ·rw[e1];repeat first|refine Xa ?_|refine Zb ?_|refine Qb rfl ?_|refine Yc rfl ?_|refine Yd rfl ?_|refine Xd rfl ?_|refine Za (aj (row:=eK cs t) rfl) ?_|refine Za hN ?_|refine Za hC ?_|refine Za (ld aC rfl) ?_|refine Za (Qf ..) ?_|refine Za (Xg ..) ?_|refine Za rfl ?_
   have e1:x.op=0:=by simpa using e1
   refine Qk λk1 eN=>?_;have m1:k1 [.bool (ij t x.op x.aB)] base:=by
    rw[eN];repeat first|refine Za hN ?_|refine Za hC ?_|refine Za (ld aC rfl) ?_|refine Za (Qf ..) ?_|refine Za (Xg ..) ?_|refine Za rfl ?_
    rw[show decide (x.op=2)=false by simp[e1]];repeat first|refine Xa ?_|refine Zb ?_|refine Za (aj (row:=eK cs t) rfl) ?_|refine Za hN ?_|refine Za hC ?_|refine Za (ld aC rfl) ?_|refine Za (Qf ..) ?_|refine Za (Xg ..) ?_|refine Za rfl ?_
    rw[show decide (x.op=4)=false by simp[e1]];repeat first|refine Xa ?_|refine Zb ?_|refine Za (aj (row:=eK cs t) rfl) ?_|refine Za hN ?_|refine Za hC ?_|refine Za (ld aC rfl) ?_|refine Za (Qf ..) ?_|refine Za (Xg ..) ?_|refine Za rfl ?_
    rw[show decide (x.op=6)=false by simp[e1]];refine zh (Xh ?_);have:=fin base;rw[show f_ t x.op x.aB=ij t x.op x.aB by simp[f_,e1]] at this;exact this
   clear eN;refine Ye ?_;repeat first|refine Za hN ?_|refine Za hC ?_|refine Za (ld aC rfl) ?_|refine Za (Qf ..) ?_|refine Za (Xg ..) ?_|refine Za rfl ?_
   refine Qc (c121 _) rfl fA.plain rfl ?_;rw[show ij t x.op x.aB=(fi x.aB||(decide (x.aB=2)&&t)) by simp[ij,e1]] at m1;rcases aL (fi x.aB) with e2|e2
   ·rw[e2] at m1 ⊢;repeat first|refine Xa ?_|refine Zb ?_|refine Qb rfl ?_|refine Yc rfl ?_|refine Yd rfl ?_|refine Xd rfl ?_|refine Za (aj (row:=eK cs t) rfl) ?_|refine Za hN ?_|refine Za hC ?_|refine Za (ld aC rfl) ?_|refine Za (Qf ..) ?_|refine Za (Xg ..) ?_|refine Za rfl ?_
    exact m1
   rw[e2] at m1 ⊢;repeat first|refine Xa ?_|refine Zb ?_|refine Za (aj (row:=eK cs t) rfl) ?_|refine Za hN ?_|refine Za hC ?_|refine Za (ld aC rfl) ?_|refine Za (Qf ..) ?_|refine Za (Xg ..) ?_|refine Za rfl ?_
   rcases aL (decide (x.aB=2)) with e3|e3
   ·rw[e3] at m1 ⊢;repeat first|refine Xa ?_|refine Zb ?_|refine Qb rfl ?_|refine Yc rfl ?_|refine Yd rfl ?_|refine Xd rfl ?_|refine Za (aj (row:=eK cs t) rfl) ?_|refine Za hN ?_|refine Za hC ?_|refine Za (ld aC rfl) ?_|refine Za (Qf ..) ?_|refine Za (Xg ..) ?_|refine Za rfl ?_
    exact m1
   rw[e3] at m1 ⊢;repeat first|refine Xa ?_|refine Zb ?_|refine Qb rfl ?_|refine Yc rfl ?_|refine Yd rfl ?_|refine Xd rfl ?_|refine Za (aj (row:=eK cs t) rfl) ?_|refine Za hN ?_|refine Za hC ?_|refine Za (ld aC rfl) ?_|refine Za (Qf ..) ?_|refine Za (Xg ..) ?_|refine Za rfl ?_
   exact m1
  rw[e1];repeat first|refine Xa ?_|refine Zb ?_|refine Za (aj (row:=eK cs t) rfl) ?_|refine Za hN ?_|refine Za hC ?_|refine Za (ld aC rfl) ?_|refine Za (Qf ..) ?_|refine Za (Xg ..) ?_|refine Za rfl ?_
  have e1:x.op≠0:=by simpa using e1
  refine Qk λk1 eN=>?_;have m1:k1 [.bool (ij t x.op x.aB)] base:=by
   rw[eN];repeat first|refine Za hN ?_|refine Za hC ?_|refine Za (ld aC rfl) ?_|refine Za (Qf ..) ?_|refine Za (Xg ..) ?_|refine Za rfl ?_
   rcases aL (decide (x.op=2)) with e3|e3
   ·rw[e3];repeat first|refine Xa ?_|refine Zb ?_|refine Qb rfl ?_|refine Yc rfl ?_|refine Yd rfl ?_|refine Xd rfl ?_|refine Za (aj (row:=eK cs t) rfl) ?_|refine Za hN ?_|refine Za hC ?_|refine Za (ld aC rfl) ?_|refine Za (Qf ..) ?_|refine Za (Xg ..) ?_|refine Za rfl ?_
    have e3:x.op=2:=by simpa using e3
    refine zh (Ye ?_);repeat first|refine Za hN ?_|refine Za hC ?_|refine Za (ld aC rfl) ?_|refine Za (Qf ..) ?_|refine Za (Xg ..) ?_|refine Za rfl ?_
    refine Qc (c121 _) rfl fA.plain rfl ?_;have:=fin base;rw[show f_ t x.op x.aB=fi x.aB by simp[f_,e3]] at this;exact this
   rw[e3];repeat first|refine Xa ?_|refine Zb ?_|refine Za (aj (row:=eK cs t) rfl) ?_|refine Za hN ?_|refine Za hC ?_|refine Za (ld aC rfl) ?_|refine Za (Qf ..) ?_|refine Za (Xg ..) ?_|refine Za rfl ?_
   rcases aL (decide (x.op=4)) with e4|e4
   ·rw[e4];repeat first|refine Xa ?_|refine Zb ?_|refine Qb rfl ?_|refine Yc rfl ?_|refine Yd rfl ?_|refine Xd rfl ?_|refine Za (aj (row:=eK cs t) rfl) ?_|refine Za hN ?_|refine Za hC ?_|refine Za (ld aC rfl) ?_|refine Za (Qf ..) ?_|refine Za (Xg ..) ?_|refine Za rfl ?_
    have e4:x.op=4:=by simpa using e4
    refine zh (Ye ?_);repeat first|refine Za hN ?_|refine Za hC ?_|refine Za (ld aC rfl) ?_|refine Za (Qf ..) ?_|refine Za (Xg ..) ?_|refine Za rfl ?_
    refine Qc (c121 _) rfl fA.plain rfl ?_;have:=fin base;rw[show f_ t x.op x.aB=fi x.aB by simp[f_,e4]] at this;exact this
   rw[e4];repeat first|refine Xa ?_|refine Zb ?_|refine Za (aj (row:=eK cs t) rfl) ?_|refine Za hN ?_|refine Za hC ?_|refine Za (ld aC rfl) ?_|refine Za (Qf ..) ?_|refine Za (Xg ..) ?_|refine Za rfl ?_
   refine zh (Zc (λe5=>?_) (λe5=>?_))
   ·have e5:x.op=6:=by simpa using e5
    repeat first|refine Za hN ?_|refine Za hC ?_|refine Za (ld aC rfl) ?_|refine Za (Qf ..) ?_|refine Za (Xg ..) ?_|refine Za rfl ?_
    refine Qc (c121 _) rfl fA.plain rfl ?_;have:=fin base;rw[show f_ t x.op x.aB=fi x.aB by simp[f_,e5]] at this;exact this
   ·simp at e3 e4 e5;have:=fin base;rw[show f_ t x.op x.aB=ij t x.op x.aB by simp[f_,e3,e4,e5]] at this;exact this
  clear eN;refine Zc (λe2=>?_) (λe2=>?_);rotate_left
  ·have e2:x.op≠1:=by simpa using e2
   rw[show ij t x.op x.aB=decide (x.aB=0) by simp[ij,e1,e2]] at m1;exact m1
  have e2:x.op=1:=by simpa using e2
  repeat first|refine Za hN ?_|refine Za hC ?_|refine Za (ld aC rfl) ?_|refine Za (Qf ..) ?_|refine Za (Xg ..) ?_|refine Za rfl ?_
  refine Qc (c121 _) rfl fA.plain rfl ?_;rw[show ij t x.op x.aB=(fi x.aB||(decide (x.aB=2)&&t)) by simp[ij,e2]] at m1;rcases aL (fi x.aB) with e2|e2
  ·rw[e2] at m1 ⊢;repeat first|refine Xa ?_|refine Zb ?_|refine Qb rfl ?_|refine Yc rfl ?_|refine Yd rfl ?_|refine Xd rfl ?_|refine Za (aj (row:=eK cs t) rfl) ?_|refine Za hN ?_|refine Za hC ?_|refine Za (ld aC rfl) ?_|refine Za (Qf ..) ?_|refine Za (Xg ..) ?_|refine Za rfl ?_
   exact m1
  rw[e2] at m1 ⊢;repeat first|refine Xa ?_|refine Zb ?_|refine Za (aj (row:=eK cs t) rfl) ?_|refine Za hN ?_|refine Za hC ?_|refine Za (ld aC rfl) ?_|refine Za (Qf ..) ?_|refine Za (Xg ..) ?_|refine Za rfl ?_
  rcases aL (decide (x.aB=2)) with e3|e3
  ·rw[e3] at m1 ⊢;repeat first|refine Xa ?_|refine Zb ?_|refine Qb rfl ?_|refine Yc rfl ?_|refine Yd rfl ?_|refine Xd rfl ?_|refine Za (aj (row:=eK cs t) rfl) ?_|refine Za hN ?_|refine Za hC ?_|refine Za (ld aC rfl) ?_|refine Za (Qf ..) ?_|refine Za (Xg ..) ?_|refine Za rfl ?_
   exact m1
  rw[e3] at m1 ⊢;repeat first|refine Xa ?_|refine Zb ?_|refine Qb rfl ?_|refine Yc rfl ?_|refine Yd rfl ?_|refine Xd rfl ?_|refine Za (aj (row:=eK cs t) rfl) ?_|refine Za hN ?_|refine Za hC ?_|refine Za (ld aC rfl) ?_|refine Za (Qf ..) ?_|refine Za (Xg ..) ?_|refine Za rfl ?_
  exact m1
theorem c188(cs:List Cd)(jA:cs.length≤fO)(t:Bool)(l:List Ef)(d:Int)(hf:bA l=true)(hd:0≤d):PC 188 [.ay (eK cs t) 0,ju l,iv d] (.bool (bF cs t d l)):=tN cs jA t _ l d (Nat.le_refl _) hf hd
end Go.Ah.Tz
end
section
namespace Go.Ah.Tz
open Go.Proofs.Tryz (prog)
def isLet(x:Int):Bool:=decide ((97≤x∧x≤122)∨(65≤x∧x≤90)∨(192≤x∧x≤591∧x≠215∧x≠247))
def eT(x:Int):Bool:=decide (48≤x∧x≤57)
def F9(x:Int):Int:=IntKind.i64.wrap (x*2 ^ (min 6 IntKind.i64.bits))
def sq(x:Int)(c:UInt8):Int:=bits .or .i64 (F9 x) (IntKind.i64.wrap (bits .and .u8 (c.toNat:Int) 63))
def qv(c:UInt8):Bool:=(bits .and .u8 (c.toNat:Int) 192 != 128)
def dY(s:Tx)(at_:Nat):Nat→Nat→Int→Option Int
 |0,_,x=>some x
 |m+1,i,x=>match s[at_+i]? with
  |none=>none
  |some c=>if qv c then none else dY s at_ m (i+1) (sq x c)
def du(c:Int):Option (Nat×Int×Int):=
 if 192≤c∧c<224 then some (2,bits .and .i64 c 31,128) else if 224≤c∧c<240 then some (3,bits .and .i64 c 15,2048) else if 240≤c∧c<248 then some (4,bits .and .i64 c 7,65536) else if 128≤c then none else some (1,c,0)
def eW(n:Nat)(least:Int):Option Int→Int×Nat
 |none=>(0,0)
 |some y=>if y<least∨1114111<y∨(55296≤y∧y≤57343) then (0,0) else (y,n)
def cR(s:Tx)(at_:Nat):Int×Nat:=match s[at_]? with
 |none=>(0,0)
 |some c=>match du c.toNat with
  |none=>(0,0)
  |some (n,x,least)=>eW n least (dY s at_ (n-1) 1 x)
def x8(s:Tx)(at_ n:Nat):Prop:=(cR s at_).2=0∨(isLet (cR s at_).1=false∧(n=0∨(eT (cR s at_).1=false∧(cR s at_).1≠39)))
instance (s:Tx) (at_ n:Nat):Decidable (x8 s at_ n):=inferInstanceAs (Decidable (_∨_))
def cZ(s:Tx)(at_ n:Nat):Nat×Nat:=
 if _h:at_<s.length then (if hk:x8 s at_ n then (at_,n) else cZ s (at_+(cR s at_).2) (n+1)) else (at_,n)
termination_by s.length-at_
decreasing_by
 have:(cR s at_).2≠0:=λe=>hk (Or.inl e);omega
def iP:List Tx→Tx→Bool
 |[],_=>false
 |k::l,s=>k==s||iP l s
def il:List Tx:=[[99,97,114,100],
 [117,110,105,116],
 [99,104,97,114,109],
 [102,111,114,109,97,116],
 [112,108,97,121,101,100],
 [100,101,97,100],
 [100,97,119,110],
 [97,117,114,97],
 [115,104,105,101,108,100],
 [104,97,114,109],
 [109,101,110,100],
 [100,114,97,119],
 [103,97,105,110],
 [100,114,111,112],
 [108,111,111,107],
 [115,104,111,119],
 [115,117,109,109,111,110],
 [105,102],
 [101,108,115,101],
 [109,101],
 [102,111,101],
 [116,97,114,103,101,116],
 [108,105,102,101],
 [104,97,110,100],
 [100,101,99,107],
 [117,110,105,116,115],
 [109,97,110,97],
 [99,111,115,116],
 [116,111,112],
 [112,111,119,101,114],
 [109,105,110],
 [109,97,120],
 [110,111,116],
 [97,110,100],
 [111,114],
 [104,111,108,100,115],
 [108,101,97,115,116],
 [109,111,115,116],
 [99,111,112,105,101,115],
 [98,97,110,110,101,100],
 [115,105,110,103,108,101]]
def cP(s:Tx):Bool:=decide (1≤(cZ s 0 0).2)&&(decide ((cZ s 0 0).2≤24)&&(decide ((cZ s 0 0).1=s.length)&&(decide (s.length≤40) && !iP il s)))
attribute [local irreducible] al.rd al.pu al.wr al.dr al.gr al.gw al.gl al.gd al.opt au W
theorem X6{P:Program}{GL:aA}{c d:Bool}{K:aa→Prop}{r1:az}{f2:aa→az}{σ:List ab}{v1:aa}(h1:r1=.ok v1 [] [])(h2:f2 v1=.ok (.bool d) [] [])(hK:K (.bool (c&&d))) :
  (W P GL).gr (.bool c) true (λk=>(W P GL).rd r1 k) λt1=>(W P GL).gr (.bool c) true (λk=>(W P GL).rd (f2 t1) k) λt2=>(W P GL).rd (Xo [.bool c,t2,.bool false] σ) K:=by
 cases c with
 |true=>exact Xa (Za h1 (Xa (Za h2 (Za rfl hK))))
 |false=>exact Qb rfl (Qb rfl (Za rfl hK))
theorem c198(x:Int):PC 198 [iv x] (.bool (eT x)):=by
 refine Qd hP oF rfl rfl ?_;unfold g198;refine Za rfl ?_;rcases aL (decide (x ≥ 48)) with h|h
 rotate_left
 ·rw[h];repeat first|refine Qb rfl ?_|refine Yc rfl ?_|refine Yd rfl ?_|refine Xd rfl ?_|refine Za rfl ?_
  have h:¬48≤x:=by simpa using h
  simp[eT,h]
 rw[h];repeat first|refine Xa ?_|refine Zb ?_|refine Za rfl ?_
 have h:48≤x:=by simpa using h
 exact congrArg aa.bool (by rw[Bool.eq_iff_iff]; simp[eT,h])
theorem c197(x:Int):PC 197 [iv x] (.bool (isLet x)):=by
 refine Qd hP oE rfl rfl ?_;unfold g197;refine Za rfl ?_;apply nW (¬(97≤x∧x≤122))
 ·intro hR;rcases aL (decide (x ≥ 97)) with h|h
  ·rw[h];repeat first|refine Xa ?_|refine Zb ?_|refine Za rfl ?_
   have h:97≤x:=by simpa using h
   rcases aL (decide (x≤122)) with h2|h2
   ·rw[h2];repeat first|refine Xa ?_|refine Zb ?_|refine Qb rfl ?_|refine Yc rfl ?_|refine Yd rfl ?_|refine Xd rfl ?_|refine Za rfl ?_
    have h2:x≤122:=by simpa using h2
    simp[isLet,h,h2]
   rw[h2];have h2:¬x≤122:=by simpa using h2
   repeat first|refine Xa ?_|refine Zb ?_|refine Qb rfl ?_|refine Yc rfl ?_|refine Yd rfl ?_|refine Xd rfl ?_|refine Za rfl ?_
   exact hR (by omega)
  rw[h];have h:¬97≤x:=by simpa using h
  repeat first|refine Xa ?_|refine Zb ?_|refine Qb rfl ?_|refine Yc rfl ?_|refine Yd rfl ?_|refine Xd rfl ?_|refine Za rfl ?_
  exact hR (by omega)
 intro n1;apply nW (¬(65≤x∧x≤90))
 ·intro hR;rcases aL (decide (x ≥ 65)) with h|h
  ·rw[h];repeat first|refine Xa ?_|refine Zb ?_|refine Za rfl ?_
   have h:65≤x:=by simpa using h
   rcases aL (decide (x≤90)) with h2|h2
   ·rw[h2];repeat first|refine Xa ?_|refine Zb ?_|refine Qb rfl ?_|refine Yc rfl ?_|refine Yd rfl ?_|refine Xd rfl ?_|refine Za rfl ?_
    have h2:x≤90:=by simpa using h2
    simp[isLet,h,h2]
   rw[h2];have h2:¬x≤90:=by simpa using h2
   repeat first|refine Xa ?_|refine Zb ?_|refine Qb rfl ?_|refine Yc rfl ?_|refine Yd rfl ?_|refine Xd rfl ?_|refine Za rfl ?_
   exact hR (by omega)
  rw[h];have h:¬65≤x:=by simpa using h
  repeat first|refine Xa ?_|refine Zb ?_|refine Qb rfl ?_|refine Yc rfl ?_|refine Yd rfl ?_|refine Xd rfl ?_|refine Za rfl ?_
  exact hR (by omega)
 intro n2;rcases aL (decide (x ≥ 192)) with h1|h1
 rotate_left
 ·rw[h1];repeat first|refine Xa ?_|refine Zb ?_|refine Qb rfl ?_|refine Yc rfl ?_|refine Yd rfl ?_|refine Xd rfl ?_|refine Za rfl ?_
  exact congrArg aa.bool (by rw[Bool.eq_iff_iff]; simp at h1; simp[isLet]; omega)
 rw[h1];repeat first|refine Xa ?_|refine Zb ?_|refine Za rfl ?_
 rcases aL (decide (x≤591)) with h2|h2
 rotate_left
 ·rw[h2];repeat first|refine Xa ?_|refine Zb ?_|refine Qb rfl ?_|refine Yc rfl ?_|refine Yd rfl ?_|refine Xd rfl ?_|refine Za rfl ?_
  exact congrArg aa.bool (by rw[Bool.eq_iff_iff]; simp at h2; simp[isLet]; omega)
 rw[h2];repeat first|refine Xa ?_|refine Zb ?_|refine Za rfl ?_
 rcases aL (x != 215) with h3|h3
 rotate_left
 ·rw[h3];repeat first|refine Xa ?_|refine Zb ?_|refine Qb rfl ?_|refine Yc rfl ?_|refine Yd rfl ?_|refine Xd rfl ?_|refine Za rfl ?_
  exact congrArg aa.bool (by rw[Bool.eq_iff_iff]; simp at h3; simp[isLet]; omega)
 rw[h3];repeat first|refine Xa ?_|refine Zb ?_|refine Za rfl ?_
 exact congrArg aa.bool (by rw[Bool.eq_iff_iff]; simp at h1 h2 h3; simp[isLet]; omega)
theorem c196(s:Tx)(hs:s.length≤fO)(a:Nat)(ha:a<s.length):PC 196 [.str s,iv a] (.aG [iv (cR s a).1,iv (cR s a).2]):=by
 rw[cM] at hs;refine Qd hP oD rfl rfl ?_;unfold g196;refine Za (OW _ s .i64 a ha) (Za (Ow ..) ?_);have hc:s[a].toNat<256:=s[a].toNat_lt;rw[aY (n:=(s[a].toNat:Int)) (by omega) (by omega)];have hr:cR s a=match du s[a].toNat with
  |none=>(0,0)
  |some (n,x,least)=>eW n least (dY s a (n-1) 1 x):=by
  rw[cR,List.getElem?_eq_getElem ha]
 generalize s[a].toNat=c0 at hr hc ⊢;obtain⟨c,Dg⟩:∃c:Int,c=(c0:Int):=⟨_,rfl⟩;rw[←Dg] at hr ⊢;have jy:0≤c∧c<256:=by omega
 clear Dg hc;refine Za rfl ?_;refine X6 rfl rfl ?_;refine Qk λkj gh=>?_;have zero:∀y:Option Int,y=none→∀n least,aa.aG [iv 0,iv 0]=aa.aG [iv (eW n least y).1,iv (eW n least y).2]:=by
  rintro _ rfl n least; rfl
 have kk:∀(n:Nat) (x least:Int),1≤n→n≤4→du c=some (n,x,least)→kj [iv n,iv x,iv least] []:=by
  intro n x least n1 n4 hh;rw[gh]; clear gh kj;rw[hh] at hr
  replace hr:cR s a=eW n least (dY s a (n-1) 1 x):=hr
  rw[hr];clear hr hh;refine Zl (ι:=Nat) (λi vs σ=>∃y,vs=[iv i,iv y]∧1≤i∧i≤n∧dY s a (n-1) 1 x=dY s a (n-i) i y) (λi=>n-i) 1 ⟨x,rfl,by omega,by omega,rfl⟩ ?_;rintro i vs σ again ⟨y,rfl,i1,i2,hu⟩ aM;refine Za rfl ?_;refine Zc (λh=>?_) (λh=>?_)
  ·have h:i<n:=by simpa using h
   have uu:∀σ,Yj .add false [iv a,iv i] σ=.ok (iv ((a+i:Nat):Int)) [] []:=λσ=>by
    rw[Xk,aY (by omega) (by omega)]; rfl
   have qe:n-i=(n-(i+1))+1:=by omega
   rw[qe,dY] at hu;refine Za (uu _) (Za rfl (Za rfl ?_));rcases aL (decide (((a+i:Nat):Int) ≥ (s.length:Int))) with h1|h1
   ·rw[h1];repeat first|refine Xa ?_|refine Zb ?_|refine Qb rfl ?_|refine Yc rfl ?_|refine Yd rfl ?_|refine Xd rfl ?_|refine Za rfl ?_
    refine Ye ?_;have h1:s.length≤a+i:=by simp at h1; omega
    rw[List.getElem?_eq_none h1] at hu;exact zero _ hu _ _
   rw[h1];have h1:a+i<s.length:=by simp at h1; omega
   have bW:∀σ,Xx [.str s,iv ((a+i:Nat):Int)] σ=.ok (.int .u8 s[a+i].toNat) [] []:=λσ=>OW _ s .i64 (a+i) h1;rw[List.getElem?_eq_getElem h1] at hu;generalize s[a+i]=q at hu bW;repeat first|refine Xa ?_|refine Za (uu _) ?_|refine Za (bW _) ?_|refine Za rfl ?_
   refine Zc (λh2=>?_) (λh2=>?_)
   ·have h2:qv q=true:=h2;simp only[h2,if_true] at hu;exact zero _ hu _ _
   ·have h2:qv q=false:=h2;simp only[h2,Bool.false_eq_true,if_false] at hu;refine Za rfl (Za (uu _) (Za (bW _) (Za rfl (Za (Ow ..) (Za rfl (Za (Xk ..) ?_))))));rw[Zf (n:=i) (by omega)];exact aM (i+1) _ _ (by omega) ⟨_,rfl,by omega,by omega,hu⟩
  ·have h:i=n:=by simp at h; omega
   subst h;rw[Nat.sub_self,dY] at hu;rw[hu];clear hu aM zero;refine Za rfl ?_;have bad:(y<least∨1114111<y∨(55296≤y∧y≤57343))→aa.aG [iv 0,iv 0]=aa.aG [iv (eW i least (some y)).1,iv (eW i least (some y)).2]:=by
    intro hb; rw[eW,if_pos hb]; rfl
   have sL:¬(y<least∨1114111<y∨(55296≤y∧y≤57343))→aa.aG [iv y,iv i]=aa.aG [iv (eW i least (some y)).1,iv (eW i least (some y)).2]:=by
    intro hb; rw[eW,if_neg hb]
   rcases aL (decide (y<least)) with h1|h1
   ·rw[h1];repeat first|refine Xa ?_|refine Zb ?_|refine Qb rfl ?_|refine Yc rfl ?_|refine Yd rfl ?_|refine Xd rfl ?_|refine Za rfl ?_
    exact Ye (bad (by simp at h1; omega))
   rw[h1];repeat first|refine Xa ?_|refine Zb ?_|refine Za rfl ?_
   rcases aL (decide (y>1114111)) with h2|h2
   ·rw[h2];repeat first|refine Xa ?_|refine Zb ?_|refine Qb rfl ?_|refine Yc rfl ?_|refine Yd rfl ?_|refine Xd rfl ?_|refine Za rfl ?_
    exact Ye (bad (by simp at h2; omega))
   rw[h2];repeat first|refine Xa ?_|refine Zb ?_|refine Za rfl ?_
   rcases aL (decide (y ≥ 55296)) with h3|h3
   ·rw[h3];repeat first|refine Xa ?_|refine Zb ?_|refine Za rfl ?_
    refine Zc (λh4=>bad ?_) (λh4=>sL ?_)
    ·simp at h3 h4; omega
    ·simp at h1 h2 h3 h4; omega
   rw[h3];repeat first|refine Xa ?_|refine Zb ?_|refine Qb rfl ?_|refine Yc rfl ?_|refine Yd rfl ?_|refine Xd rfl ?_|refine Za rfl ?_
   exact Xh (sL (by simp at h1 h2 h3; omega))
 clear gh;refine Zc (λh=>?_) (λn1=>?_)
 ·have h:192≤c∧c<224:=by simpa using h
  refine Za rfl (kk 2 _ _ (by omega) (by omega) ?_);rw[du,if_pos h]
 have n1:¬(192≤c∧c<224):=by simp at n1; omega
 refine Za rfl (X6 rfl rfl ?_);refine Zc (λh=>?_) (λn2=>?_)
 ·have h:224≤c∧c<240:=by simpa using h
  refine Za rfl (kk 3 _ _ (by omega) (by omega) ?_);rw[du,if_neg n1,if_pos h]
 have n2:¬(224≤c∧c<240):=by simp at n2; omega
 refine Za rfl (X6 rfl rfl ?_);refine Zc (λh=>?_) (λn3=>?_)
 ·have h:240≤c∧c<248:=by simpa using h
  refine Za rfl (kk 4 _ _ (by omega) (by omega) ?_);rw[du,if_neg n1,if_neg n2,if_pos h]
 have n3:¬(240≤c∧c<248):=by simp at n3; omega
 refine Za rfl ?_;refine Zc (λh=>?_) (λh=>?_)
 ·have h:128≤c:=by simpa using h
  have e:du c=none:=by rw[du,if_neg n1,if_neg n2,if_neg n3,if_pos h]
  rw[hr,e]; rfl
 ·have h:¬128≤c:=by simpa using h
  exact kk 1 _ _ (by omega) (by omega) (by rw[du,if_neg n1,if_neg n2,if_neg n3,if_neg h])
theorem Sy{c:Int}{n:Nat}{x least:Int}(h:du c=some (n,x,least)):n≤4:=by
 unfold du at h;repeat (split at h; first|(cases h; omega)|skip)
 all_goals first|(cases h; omega)|cases h
theorem Mw(s:Tx)(a:Nat):(cR s a).2≤4:=by
 unfold cR;split
 ·simp
 ·split
  ·simp
  ·rename_i n x least h;have:=Sy h;cases dY s a (n-1) 1 x with
   |none=>simp[eW]
   |some y=>rw[eW]; split<;>simp; omega
theorem c193(s:Tx)(hs:s.length≤fO)(a0:Nat)(ha0:a0≤s.length):PC 193 [.str s,iv a0] (.aG [iv (cZ s a0 0).1,iv (cZ s a0 0).2]):=by
 have o_:=hs;rw[cM] at o_;refine Qd hP oA rfl rfl ?_;unfold g193;refine Qk λk0 Rb=>?_;have kk:∀a n:Nat,cZ s a0 0=(a,n)→k0 [iv a,iv n] []:=by
  intro a n e;rw[Rb,e]; exact rfl
 clear Rb;refine Zl (ι:=Nat) (λa vs σ=>∃n:Nat,vs=[iv a,iv n]∧σ=[]∧n≤a∧a≤s.length+4∧cZ s a0 0=cZ s a n) (λa=>s.length+10-a) a0 ⟨0,rfl,rfl,by omega,by omega,rfl⟩ ?_;rintro a vs σ again ⟨n,rfl,rfl,i1,i2,hu⟩ aM;refine Za rfl (Za rfl ?_);refine Zc (λh=>?_) (λh=>?_);rotate_left
 ·have h:¬a<s.length:=by simpa using h
  exact kk a n (by rw[hu,cZ,dif_neg h])
 have h:a<s.length:=by simpa using h
 refine Qc (c196 s hs a h) rfl oD.plain rfl ?_;refine Za rfl (Za rfl ?_);have vy:x8 s a n→k0 [iv a,iv n] []:=λdM=>kk a n (by rw[hu,cZ,dif_pos h,dif_pos dM]);have cont:¬x8 s a n→again [iv ((a+(cR s a).2:Nat):Int),iv ((n+1:Nat):Int)] []:=by
  intro dM;have h1:(cR s a).2≠0:=λe=>dM (Or.inl e);have h4:=Mw s a;exact aM _ _ _ (by omega) ⟨n+1,rfl,rfl,by omega,by omega,by rw[hu,cZ,dif_pos h,dif_neg dM]⟩
 have h4:=Mw s a;unfold x8 at vy cont;clear aM hu kk;generalize (cR s a).1=x at vy cont ⊢;generalize (cR s a).2=k at vy cont h4 ⊢;have go:¬(k=0∨(isLet x=false∧(n=0∨(eT x=false∧x≠39))))→VV.rd (Yj .add false [iv a,iv k] []) λBe=>VV.rd (Yj .add false [iv n,(.int .i64 1)] []) λBh=>again [Be,Bh] []:=by
  intro dM;refine Za (Xk ..) (Za (Xk ..) ?_);rw[Zf (n:=n) (by omega),aY (n:=(a:Int)+(k:Int)) (by omega) (by omega)];exact cont dM
 refine Za rfl ?_;rcases aL ((k:Int)==0) with h1|h1
 ·rw[h1];repeat first|refine Xa ?_|refine Zb ?_|refine Qb rfl ?_|refine Yc rfl ?_|refine Yd rfl ?_|refine Xd rfl ?_|refine Za rfl ?_
  exact Ye (vy (Or.inl (by simpa using h1)))
 rw[h1];have h1:k≠0:=by simpa using h1
 repeat first|refine Xa ?_|refine Zb ?_|refine Za rfl ?_
 refine Qc (c197 _) rfl oE.plain rfl ?_;repeat first|refine Xa ?_|refine Zb ?_|refine Za rfl ?_
 rcases aL (!isLet x) with h2|h2
 rotate_left
 ·rw[h2];repeat first|refine Xa ?_|refine Zb ?_|refine Qb rfl ?_|refine Yc rfl ?_|refine Yd rfl ?_|refine Xd rfl ?_|refine Za rfl ?_
  exact Xh (go (by have h2:isLet x=true:=(by simpa using h2); simp[h1,h2]))
 rw[h2];have h2:isLet x=false:=by simpa using h2
 repeat first|refine Xa ?_|refine Zb ?_|refine Za rfl ?_
 rcases aL ((n:Int)==0) with h3|h3
 ·rw[h3];repeat first|refine Xa ?_|refine Zb ?_|refine Qb rfl ?_|refine Yc rfl ?_|refine Yd rfl ?_|refine Xd rfl ?_|refine Za rfl ?_
  exact Ye (vy (Or.inr ⟨h2,Or.inl (by simpa using h3)⟩))
 rw[h3];have h3:n≠0:=by simpa using h3
 repeat first|refine Xa ?_|refine Zb ?_|refine Za rfl ?_
 refine Qc (c198 _) rfl oF.plain rfl ?_;repeat first|refine Xa ?_|refine Zb ?_|refine Za rfl ?_
 rcases aL (!eT x) with h5|h5
 rotate_left
 ·rw[h5];repeat first|refine Xa ?_|refine Zb ?_|refine Qb rfl ?_|refine Yc rfl ?_|refine Yd rfl ?_|refine Xd rfl ?_|refine Za rfl ?_
  exact Xh (go (by have h5:eT x=true:=(by simpa using h5); simp[h1,h3,h5]))
 rw[h5];have h5:eT x=false:=by simpa using h5
 repeat first|refine Xa ?_|refine Zb ?_|refine Za rfl ?_
 refine Zc (λh6=>vy ?_) (λh6=>go ?_)
 ·exact Or.inr ⟨h2,Or.inr ⟨h5,by simpa using h6⟩⟩
 ·have h6:x=39:=by simpa using h6
  simp[h1,h3,h6]
theorem c229:∃e n,PC 229 [] (.ax e n 1 (il.map s9)):=by
 have hw:∃v bs,g229 VV [] [] (λv' σ=>v'=v∧σ=bs)∧∃e n,zu bs v=some (.ax e n 1 (il.map s9)):=by
  unfold g229;apply Exists.intro;apply Exists.intro;apply And.intro
  ·refine Ze rfl rfl ?_;exact⟨rfl,rfl⟩
  ·exact⟨_,_,rfl⟩
 obtain⟨v,bs,h1,e,n,h2⟩:=hw;exact⟨e,n,Nv hP oH rfl ⟨v,bs,h2,h1⟩⟩
theorem vi(x:Tx):aF false 0 1 (s9 x)=some (.str x):=rfl
theorem c194(s:Tx):PC 194 [.str s] (.bool (iP il s)):=by
 refine Qd hP oB rfl rfl ?_;unfold g194;obtain⟨e,n,hk⟩:=c229;refine Qc hk rfl oH.plain rfl ?_;have hlen:il.length=41:=rfl;generalize il=l at hlen ⊢;refine Zl (ι:=Nat) (λi vs σ=>vs=[iv i]∧i≤l.length∧iP l s=iP (l.drop i) s) (λi=>l.length-i) 0 ⟨rfl,by omega,by simp⟩ ?_;rintro i vs σ again ⟨rfl,hi,hu⟩ aM;refine Za rfl (Za rfl ?_);refine Zc (λh=>?_) (λh=>?_)
 ·have h:i<l.length:=by simpa using h
  have cO:l.drop i=l[i]::l.drop (i+1):=by rw[eD h]
  rw[cO,iP] at hu;refine Za (Zp _ s9 _ _ _ l .i64 i h) (Za (aj (vi _)) (Za (Xg ..) ?_));refine Zc (λh=>?_) (λh=>?_)
  ·rw[hu,h]; rfl
  ·rw[h,Bool.false_or] at hu;refine Za (Xk ..) ?_;rw[Zf (n:=i) (by omega)];exact aM (i+1) _ _ (by omega) ⟨rfl,by omega,hu⟩
 ·have h:i=l.length:=by simp at h; omega
  subst h;rw[List.drop_length] at hu;rw[hu]; rfl
theorem c147(s:Tx)(hs:s.length≤fO):PC 147 [.str s] (.bool (cP s)):=by
 refine Qd hP lG rfl rfl ?_;unfold g147;have:=c193 s hs 0 (by omega);refine Qc this rfl oA.plain rfl ?_;unfold cP;generalize (cZ s 0 0).1=e;generalize (cZ s 0 0).2=n;refine Za rfl (Za rfl (Za rfl ?_));rcases aL (decide ((n:Int) ≥ 1)) with h1|h1
 rotate_left
 ·rw[h1];repeat first|refine Qb rfl ?_|refine Yc rfl ?_|refine Yd rfl ?_|refine Xd rfl ?_|refine Za rfl ?_
  have h1:¬1≤n:=by simp at h1; omega
  simp[h1]
 rw[h1];repeat first|refine Xa ?_|refine Zb ?_|refine Za rfl ?_
 rcases aL (decide ((n:Int)≤24)) with h2|h2
 rotate_left
 ·rw[h2];repeat first|refine Qb rfl ?_|refine Yc rfl ?_|refine Yd rfl ?_|refine Xd rfl ?_|refine Za rfl ?_
  have h2:¬n≤24:=by simp at h2; omega
  simp[h2]
 rw[h2];repeat first|refine Xa ?_|refine Zb ?_|refine Za rfl ?_
 rcases aL ((e:Int)==(s.length:Int)) with h3|h3
 rotate_left
 ·rw[h3];repeat first|refine Qb rfl ?_|refine Yc rfl ?_|refine Yd rfl ?_|refine Xd rfl ?_|refine Za rfl ?_
  have h3:¬e=s.length:=by simp at h3; omega
  simp[h3]
 rw[h3];repeat first|refine Xa ?_|refine Zb ?_|refine Za rfl ?_
 rcases aL (decide ((s.length:Int)≤40)) with h4|h4
 rotate_left
 ·rw[h4];repeat first|refine Qb rfl ?_|refine Yc rfl ?_|refine Yd rfl ?_|refine Xd rfl ?_|refine Za rfl ?_
  have h4:¬s.length≤40:=by simp at h4; omega
  simp[h4]
 rw[h4];repeat first|refine Xa ?_|refine Zb ?_|refine Za rfl ?_
 refine Qc (c194 _) rfl oB.plain rfl ?_;repeat first|refine Xa ?_|refine Zb ?_|refine Za rfl ?_
 have h1:1≤n:=by simp at h1; omega
 have h2:n≤24:=by simp at h2; omega
 have h3:e=s.length:=by simp at h3; omega
 have h4:s.length≤40:=by simp at h4; omega
 simp[h1,h2,h3,h4]
end Go.Ah.Tz
end
section
namespace Go.Ah.Tz
open Go.Proofs.Tryz (prog)
def aQ(n:Int):Bool:=decide (0≤n)&&decide (n≤999)
def eG(c:Cd):Bool:=if c.unit then decide (1≤c.aT) else decide (c.bU+c.aT+c.bC+c.cG+c.dq≤0)&&decide (c.dead.length+c.eh.length=0)
def qF(c:Cd):Int:=min (dU 0 c.bB+dU 0 c.dead+dU 0 c.eh) 1073741824
def eE(cs:List Cd)(c:Cd):Bool:=
 cP c.name&&(aQ c.cost&&(aQ c.bU&&(aQ c.aT&&(aQ c.bC&&(aQ c.cG&&(aQ c.dq&&(eG c&&(decide (qF c≤200)&&(bF cs true 1 c.bB&&(bF cs false 1 c.dead&&bF cs false 1 c.eh))))))))))
def gE(c:Cd):Bool:=decide (c.name.length≤fO)&&(bA c.bB&&(bA c.dead&&bA c.eh))
def YS(l:List Cd):Bool:=decide (l.length≤fO)&&l.all gE
def fk(cs:List Cd):List Cd→List Cd→Int×Int
 |_,[]=>(0,0)
 |pre,c::l=>if pre.any λd=>d.name==c.name then (101,c.pl) else if eE cs c then fk cs (pre++[c]) l else (130,c.pl)
def dF(cs:List Cd):Int×Int:=if 240<cs.length then (3,0) else fk cs [] cs
attribute [local irreducible] al.rd al.pu al.wr al.dr al.gr al.gw al.gl al.gd al.opt au W
set_option maxHeartbeats 1000000
theorem c145(cs:List Cd)(jA:cs.length≤fO)(c:Cd)(hf:gE c=true):PC 145 [gG cs,.agg (cD c)] (.bool (eE cs c)):=by
 simp only[gE,Bool.and_eq_true,decide_eq_true_eq] at hf;obtain⟨f0,f1,f2,f3⟩:=hf;refine Qd hP oq rfl rfl ?_;unfold g145;refine Ze rfl rfl ?_;generalize hB:([]++[ab.box (cD c)]:List ab)=base;have aC:ah base 0=.box (cD c):=by rw[←hB]; rfl
 refine Za rfl (Za (ld aC rfl) ?_);refine Qc (c147 _ f0) rfl lG.plain rfl ?_;refine Za rfl ?_;rcases aL (!cP c.name) with a0|a0
 ·rw[a0];repeat first|refine Xa ?_|refine Zb ?_|refine Qb rfl ?_|refine Yc rfl ?_|refine Yd rfl ?_|refine Xd rfl ?_|refine Za (ld aC rfl) ?_|refine Za rfl ?_
  refine Ye ?_;have a0:cP c.name=false:=by simpa using a0
  simp[eE,a0]
 rw[a0];repeat first|refine Xa ?_|refine Zb ?_|refine Za (ld aC rfl) ?_|refine Za rfl ?_
 refine Qc (c187 _) rfl gf.plain rfl ?_;repeat first|refine Xa ?_|refine Zb ?_|refine Za (ld aC rfl) ?_|refine Za rfl ?_
 rcases aL (!(decide (0≤c.cost)&&decide (c.cost≤999))) with a1|a1
 ·rw[a1];repeat first|refine Xa ?_|refine Zb ?_|refine Qb rfl ?_|refine Yc rfl ?_|refine Yd rfl ?_|refine Xd rfl ?_|refine Za (ld aC rfl) ?_|refine Za rfl ?_
  refine Ye ?_;have a1:aQ c.cost=false:=by unfold aQ; exact(Bool.not_eq_true' _).mp a1
  simp[eE,a1]
 rw[a1];repeat first|refine Xa ?_|refine Zb ?_|refine Za (ld aC rfl) ?_|refine Za rfl ?_
 refine Qc (c187 _) rfl gf.plain rfl ?_;repeat first|refine Xa ?_|refine Zb ?_|refine Za (ld aC rfl) ?_|refine Za rfl ?_
 rcases aL (!(decide (0≤c.bU)&&decide (c.bU≤999))) with a2|a2
 ·rw[a2];repeat first|refine Xa ?_|refine Zb ?_|refine Qb rfl ?_|refine Yc rfl ?_|refine Yd rfl ?_|refine Xd rfl ?_|refine Za (ld aC rfl) ?_|refine Za rfl ?_
  refine Ye ?_;have a2:aQ c.bU=false:=by unfold aQ; exact(Bool.not_eq_true' _).mp a2
  simp[eE,a2]
 rw[a2];repeat first|refine Xa ?_|refine Zb ?_|refine Za (ld aC rfl) ?_|refine Za rfl ?_
 refine Qc (c187 _) rfl gf.plain rfl ?_;repeat first|refine Xa ?_|refine Zb ?_|refine Za (ld aC rfl) ?_|refine Za rfl ?_
 rcases aL (!(decide (0≤c.aT)&&decide (c.aT≤999))) with a3|a3
 ·rw[a3];repeat first|refine Xa ?_|refine Zb ?_|refine Qb rfl ?_|refine Yc rfl ?_|refine Yd rfl ?_|refine Xd rfl ?_|refine Za (ld aC rfl) ?_|refine Za rfl ?_
  refine Ye ?_;have a3:aQ c.aT=false:=by unfold aQ; exact(Bool.not_eq_true' _).mp a3
  simp[eE,a3]
 rw[a3];repeat first|refine Xa ?_|refine Zb ?_|refine Za (ld aC rfl) ?_|refine Za rfl ?_
 refine Qc (c187 _) rfl gf.plain rfl ?_;repeat first|refine Xa ?_|refine Zb ?_|refine Za (ld aC rfl) ?_|refine Za rfl ?_
 rcases aL (!(decide (0≤c.bC)&&decide (c.bC≤999))) with a4|a4
 ·rw[a4];repeat first|refine Xa ?_|refine Zb ?_|refine Qb rfl ?_|refine Yc rfl ?_|refine Yd rfl ?_|refine Xd rfl ?_|refine Za (ld aC rfl) ?_|refine Za rfl ?_
  refine Ye ?_;have a4:aQ c.bC=false:=by unfold aQ; exact(Bool.not_eq_true' _).mp a4
  simp[eE,a4]
 rw[a4];repeat first|refine Xa ?_|refine Zb ?_|refine Za (ld aC rfl) ?_|refine Za rfl ?_
 refine Qc (c187 _) rfl gf.plain rfl ?_;repeat first|refine Xa ?_|refine Zb ?_|refine Za (ld aC rfl) ?_|refine Za rfl ?_
 rcases aL (!(decide (0≤c.cG)&&decide (c.cG≤999))) with a5|a5
 ·rw[a5];repeat first|refine Xa ?_|refine Zb ?_|refine Qb rfl ?_|refine Yc rfl ?_|refine Yd rfl ?_|refine Xd rfl ?_|refine Za (ld aC rfl) ?_|refine Za rfl ?_
  refine Ye ?_;have a5:aQ c.cG=false:=by unfold aQ; exact(Bool.not_eq_true' _).mp a5
  simp[eE,a5]
 rw[a5];repeat first|refine Xa ?_|refine Zb ?_|refine Za (ld aC rfl) ?_|refine Za rfl ?_
 refine Qc (c187 _) rfl gf.plain rfl ?_;repeat first|refine Xa ?_|refine Zb ?_|refine Za (ld aC rfl) ?_|refine Za rfl ?_
 refine Zc (λa6=>?_) (λa6=>?_)
 ·have a6:aQ c.dq=false:=by unfold aQ; exact(Bool.not_eq_true' _).mp a6
  simp[eE,a6]
 have a1:aQ c.cost=true:=by simpa[aQ] using a1
 have a2:aQ c.bU=true:=by simpa[aQ] using a2
 have a3:aQ c.aT=true:=by simpa[aQ] using a3
 have a4:aQ c.bC=true:=by simpa[aQ] using a4
 have a5:aQ c.cG=true:=by simpa[aQ] using a5
 have a6:aQ c.dq=true:=by simpa[aQ] using a6
 have a0:cP c.name=true:=by simpa using a0
 have b1:=a1; have b2:=a2; have b3:=a3; have b4:=a4; have b5:=a5; have b6:=a6;simp only[aQ,Bool.and_eq_true,decide_eq_true_eq] at b1 b2 b3 b4 b5 b6;simp only[eE,a0,a1,a2,a3,a4,a5,a6,Bool.true_and];clear a0 a1 a2 a3 a4 a5 a6;repeat first|refine Xa ?_|refine Zb ?_|refine Za (ld aC rfl) ?_|refine Za rfl ?_
 apply nW (eG c=true)
 ·intro hR;cases hu:c.unit with
  |true=>
   try rw[hu]
   repeat first|refine Xa ?_|refine Zb ?_|refine Za (ld aC rfl) ?_|refine Za rfl ?_
   rcases aL (decide (c.aT<1)) with h|h
   ·rw[h];repeat first|refine Xa ?_|refine Zb ?_|refine Qb rfl ?_|refine Yc rfl ?_|refine Yd rfl ?_|refine Xd rfl ?_|refine Za (ld aC rfl) ?_|refine Za rfl ?_
    refine Ye ?_;have h:¬1≤c.aT:=by simp at h; omega
    simp[eG,hu,h]
   ·rw[h];repeat first|refine Xa ?_|refine Zb ?_|refine Qb rfl ?_|refine Yc rfl ?_|refine Yd rfl ?_|refine Xd rfl ?_|refine Za (ld aC rfl) ?_|refine Za rfl ?_
    try rw[hu]
    repeat first|refine Xa ?_|refine Zb ?_|refine Qb rfl ?_|refine Yc rfl ?_|refine Yd rfl ?_|refine Xd rfl ?_|refine Za (ld aC rfl) ?_|refine Za rfl ?_
    refine Xh (hR ?_);have h:1≤c.aT:=by simp at h; omega
    simp[eG,hu,h]
  |false=>
   try rw[hu]
   repeat first|refine Xa ?_|refine Zb ?_|refine Qb rfl ?_|refine Yc rfl ?_|refine Yd rfl ?_|refine Xd rfl ?_|refine Za (ld aC rfl) ?_|refine Za rfl ?_
   try rw[hu]
   repeat first|refine Xa ?_|refine Zb ?_|refine Qb rfl ?_|refine Yc rfl ?_|refine Yd rfl ?_|refine Xd rfl ?_|refine Za (ld aC rfl) ?_|refine Za rfl ?_
   rw[aY (n:=c.bU+c.aT) (by omega) (by omega),aY (n:=c.bU+c.aT+c.bC) (by omega) (by omega),aY (n:=c.bU+c.aT+c.bC+c.cG) (by omega) (by omega),aY (n:=c.bU+c.aT+c.bC+c.cG+c.dq) (by omega) (by omega)];rcases aL (decide (c.bU+c.aT+c.bC+c.cG+c.dq>0)) with h|h
   ·rw[h];repeat first|refine Xa ?_|refine Zb ?_|refine Qb rfl ?_|refine Yc rfl ?_|refine Yd rfl ?_|refine Xd rfl ?_|refine Za (ld aC rfl) ?_|refine Za rfl ?_
    refine Ye ?_;have h:¬(c.bU+c.aT+c.bC+c.cG+c.dq≤0):=by simp at h; omega
    simp[eG,hu,h]
   rw[h];repeat first|refine Xa ?_|refine Zb ?_|refine Za (ld aC rfl) ?_|refine Za rfl ?_
   have h:(c.bU+c.aT+c.bC+c.cG+c.dq≤0):=by simp at h; omega
   have l1:=ZC f2;have l2:=ZC f3;rw[cM] at l1 l2;rw[List.length_map,List.length_map,aY (n:=(c.dead.length:Int)+(c.eh.length:Int)) (by omega) (by omega)];refine Zc (λh2=>?_) (λh2=>hR ?_)
   ·have h2:¬(c.dead.length+c.eh.length=0):=by simp at h2; omega
    have:eG c=false:=by rw[eG,hu,decide_eq_false h2]; simp
    simp[this]
   ·have h2:(c.dead.length+c.eh.length=0):=by simp at h2; omega
    rw[eG,hu,decide_eq_true h2,decide_eq_true h]; rfl
 intro b7;rw[b7,Bool.true_and];refine Za (ld aC rfl) ?_;refine Qc (c110 c f1 f2 f3) rfl od.plain rfl ?_;refine Za rfl ?_;refine Zc (λh=>?_) (λh=>?_)
 ·have h:¬(qF c≤200):=by simp at h; unfold qF; omega
  simp[h]
 have h:qF c≤200:=by simp at h; unfold qF; omega
 simp only[h,decide_true,Bool.true_and];subst hB;refine Za rfl (Ze rfl rfl (Za rfl (Ze rfl rfl ?_)));refine Za rfl (Za rfl ?_);refine YB (c188 cs jA true c.bB 1 f1 (by omega)) rfl gU.plain rfl rfl ?_;rcases aL (bF cs true 1 c.bB) with p1|p1
 rotate_left
 ·rw[p1];repeat first|refine Xa ?_|refine Zb ?_|refine Qb rfl ?_|refine Yc rfl ?_|refine Yd rfl ?_|refine Xd rfl ?_|refine Za (ld aC rfl) ?_|refine Za rfl ?_
  simp[p1]
 rw[p1];repeat first|refine Xa ?_|refine Zb ?_|refine Za rfl ?_
 refine YB (c188 cs jA false c.dead 1 f2 (by omega)) rfl gU.plain rfl rfl ?_;repeat first|refine Xa ?_|refine Zb ?_|refine Za rfl ?_
 rcases aL (bF cs false 1 c.dead) with p2|p2
 rotate_left
 ·rw[p2];repeat first|refine Xa ?_|refine Zb ?_|refine Qb rfl ?_|refine Yc rfl ?_|refine Yd rfl ?_|refine Xd rfl ?_|refine Za rfl ?_
  simp[p1,p2]
 rw[p2];repeat first|refine Xa ?_|refine Zb ?_|refine Za rfl ?_
 refine YB (c188 cs jA false c.eh 1 f3 (by omega)) rfl gU.plain rfl rfl ?_;repeat first|refine Xa ?_|refine Zb ?_|refine Za rfl ?_
 simp[p1,p2]
theorem pJ(x:Cd):aF true 0 12 (cD x)=some (.agg (cD x)):=rfl
theorem HG(x:Cd):aF false 11 1 (cD x)=some (iv x.pl):=rfl
theorem c113(cs:List Cd)(hf:YS cs=true):PC 113 [gG cs] (.agg [iv (dF cs).1,iv (dF cs).2]):=by
 simp only[YS,Bool.and_eq_true,decide_eq_true_eq] at hf;obtain⟨f0,f1⟩:=hf;have f02:=f0;rw[cM] at f02;refine Qd hP oe rfl rfl ?_;unfold g113;refine Ze rfl rfl (Za rfl (Za rfl ?_));refine Zc (λh=>?_) (λh=>?_)
 ·have h:240<cs.length:=by simp at h; omega
  refine Za rfl (Ze rfl rfl (Ql rfl ?_));rw[dF,if_pos h]
 have h:¬240<cs.length:=by simp at h; omega
 rw[dF,if_neg h];refine Zl (ι:=Nat) (λi vs σ=>vs=[iv i]∧σ=[.box [iv 0,iv 0]]∧i≤cs.length∧fk cs [] cs=fk cs (cs.take i) (cs.drop i)) (λi=>cs.length-i) 0 ⟨rfl,rfl,by omega,by simp⟩ ?_;rintro i vs σ again ⟨rfl,rfl,hi,hu⟩ aM;refine Za rfl (Za rfl ?_);refine Zc (λh=>?_) (λh=>?_);rotate_left
 ·have h:i=cs.length:=by simp at h; omega
  subst h;rw[List.drop_length,fk] at hu;refine Za rfl (Ze rfl rfl (Ql rfl ?_));rw[hu]
 have hi:i<cs.length:=by simpa using h
 have cO:cs.drop i=cs[i]::cs.drop (i+1):=by rw[eD hi]
 have bW:=λ(s:List ab)=>Zp s cD false false 12 cs .i64 i hi;have vv:=List.all_eq_true.1 f1 _ (List.getElem_mem hi);have hJ:cs.take (i+1)=cs.take i++[cs[i]]:=Yy cs i hi;generalize cs[i]=c at cO bW vv hJ;rw[cO,fk] at hu;refine Zl (ι:=Nat) (λj vs σ=>vs=[iv j]∧σ=[.box [iv 0,iv 0]]∧j≤i∧(cs.take i).any (λd=>d.name==c.name)=((cs.take i).drop j).any (λd=>d.name==c.name)) (λj=>i-j) 0 ⟨rfl,rfl,by omega,by simp⟩ ?_;rintro j vs σ mH ⟨rfl,rfl,hj,hv⟩ lu;refine Za rfl ?_;refine Zc (λh=>?_) (λh=>?_)
 ·have h:j<i:=by simpa using h
  have KW:j<(cs.take i).length:=by rw[List.length_take]; omega
  have pT:(cs.take i).drop j=(cs.take i)[j]::(cs.take i).drop (j+1):=by rw[eD KW]
  rw[List.getElem_take] at pT;rw[pT,List.any_cons] at hv;refine Za (Zp _ cD false false 12 cs .i64 j (by omega)) (Za rfl (Za (aj (nL _)) (Za (bW _) (Za rfl (Za (aj (nL _)) (Za (Xg ..) ?_))))));refine Zc (λh=>?_) (λh=>?_)
  ·rw[h,Bool.true_or] at hv;rw[hv,if_pos rfl] at hu;refine Za (bW _) (Za rfl (Za (aj (HG _)) (Za rfl (Ze rfl rfl (Ql rfl ?_)))));rw[hu]
  ·rw[h,Bool.false_or] at hv;refine Za (Xk ..) ?_;rw[Zf (n:=j) (by omega)];exact lu (j+1) _ _ (by omega) ⟨rfl,rfl,by omega,hv⟩
 have h:j=i:=by simp at h; omega
 subst h;rw[List.drop_eq_nil_of_le (by rw[List.length_take]; omega),List.any_nil] at hv;rw[hv] at hu
 replace hu:fk cs [] cs=if eE cs c then fk cs (cs.take j++[c]) (cs.drop (j+1)) else (130,c.pl):=hu
 rw[←hJ] at hu;refine Za (bW _) (Za (aj (pJ _)) ?_);refine Qc (c145 cs f0 c vv) rfl oq.plain rfl ?_;refine Za rfl ?_;refine Zc (λh=>?_) (λh=>?_)
 ·have h:eE cs c=false:=by simpa using h
  rw[h] at hu
  replace hu:fk cs [] cs=(130,c.pl):=hu
  refine Za (bW _) (Za rfl (Za (aj (HG _)) (Za rfl (Ze rfl rfl (Ql rfl ?_)))));rw[hu]
 ·have h:eE cs c=true:=by simpa using h
  rw[h,if_pos rfl] at hu;refine Za (Xk ..) ?_;rw[Zf (n:=j) (by omega)];exact aM (j+1) _ _ (by omega) ⟨rfl,rfl,by omega,hu⟩
end Go.Ah.Tz
end
section
namespace Go.Ah.Tz
open Go.Proofs.Tryz (prog)
def kJ(a:Int):Int:=if a<0∨3<a then 3 else a
def bP(a b:Int):Int:=if kJ a=kJ b∨kJ b=0 then kJ a else if kJ a=0 then kJ b else 3
def CZ(a b:Int):Bool:=decide (bP a b=bP b b)
mutual
def rr:Nm→Int
 |.mk op _ _ kids=>if 8≤op∧op≤12 then fT (if op=6 then 3 else 0) kids else if op=6 then 3 else 0
def fT:Int→List Nm→Int
 |n,[]=>n
 |n,x::l=>fT (bP n (rr x)) l
end
theorem NG(x:Nm):rr x=if 8≤x.op∧x.op≤12 then fT (if x.op=6 then 3 else 0) x.kids else if x.op=6 then 3 else 0:=by cases x; rfl
mutual
def nM:Cn→Int
 |.mk op aB _ aw kids=>if op=6 then (if aB=0 then 1 else if aB=1 then 2 else 3) else mO (fT 0 aw) kids
def mO:Int→List Cn→Int
 |n,[]=>n
 |n,x::l=>mO (bP n (nM x)) l
end
theorem Pl(x:Cn):nM x=if x.op=6 then (if x.aB=0 then 1 else if x.aB=1 then 2 else 3) else mO (fT 0 x.aw) x.kids:=by cases x; rfl
mutual
def pO (u:Int):Ef→Bool
 |.mk op _ n _ c bk br=>if op=5 then CZ (bP u (rr n)) 1 else if op=8 then cq (bP u (nM c)) bk&&cq (bP u (nM c)) br else if op=0∨op=1∨op=2∨op=3 then decide (bP u (rr n)=0) else decide (bP u u=0)
def cq (u:Int):List Ef→Bool
 |[]=>true
 |x::l=>pO u x&&cq u l
end
theorem D3(u:Int)(x:Ef):pO u x=if x.op=5 then CZ (bP u (rr x.n)) 1 else if x.op=8 then cq (bP u (nM x.c)) x.bk&&cq (bP u (nM x.c)) x.br else if x.op=0∨x.op=1∨x.op=2∨x.op=3 then decide (bP u (rr x.n)=0) else decide (bP u u=0):=by cases x; rfl
attribute [local irreducible] al.rd al.pu al.wr al.dr al.gr al.gw al.gl al.gd al.opt au W
set_option maxHeartbeats 1000000
theorem QD{P:Program}{GL:aA}{c d:Bool}{K:aa→Prop}{r1:az}{f2:aa→az}{σ:List ab}{v1:aa}(h1:r1=.ok v1 [] [])(h2:f2 v1=.ok (.bool d) [] [])(hK:K (.bool (c||d))) :
  (W P GL).gr (.bool c) false (λk=>(W P GL).rd r1 k) λt1=>(W P GL).gr (.bool c) false (λk=>(W P GL).rd (f2 t1) k) λt2=>(W P GL).rd (Xo [.bool c,.bool true,t2] σ) K:=by
 cases c with
 |false=>exact Xa (Za h1 (Xa (Za h2 (Za rfl hK))))
 |true=>exact Qb rfl (Qb rfl (Za rfl hK))
theorem C'{P:Program}{GL:aA}{c d:Bool}{K:aa→Prop}{r1:az}{f2 f3:aa→az}{σ:List ab}{v1 v2:aa}{q1 q2 q3:List Nat}(h1:r1=.ok v1 q1 [])(h2:f2 v1=.ok v2 q2 [])(h3:f3 v2=.ok (.bool d) q3 [])(hK:K (.bool (c&&d))) :
  (W P GL).gr (.bool c) true (λk=>(W P GL).rd r1 k) λt1=>(W P GL).gr (.bool c) true (λk=>(W P GL).rd (f2 t1) k) λt2=>(W P GL).gr (.bool c) true (λk=>(W P GL).rd (f3 t2) k) λt3=>(W P GL).rd (Xo [.bool c,t3,.bool false] σ) K:=by
 cases c with
 |true=>exact Xa (Za h1 (Xa (Za h2 (Xa (Za h3 (Za rfl hK))))))
 |false=>exact Qb rfl (Qb rfl (Qb rfl (Za rfl hK)))
theorem c190(a b:Int):PC 190 [ar a,ar b] (ar (bP a b)):=by
 refine Qd hP et rfl rfl ?_;unfold g190;refine Za rfl (QD rfl rfl ?_);refine Qk λk1 eN=>?_;have kk:k1 [ar (kJ a)] []:=by
  rw[eN]; clear eN k1;refine Za rfl (QD rfl rfl ?_);refine Qk λk1 eN=>?_;have kk:k1 [ar (kJ b)] []:=by
   rw[eN]; clear eN k1;unfold bP;generalize kJ a=a;generalize kJ b=b;refine Za (Qf ..) ?_;have hp:∀K:aa→Prop,K (.bool (decide (a=b)||decide (b=0)))→VV.gr (.bool (decide (a=b))) false (λk=>VV.rd (Qi [ar b] []) k) λt22=>VV.gr (.bool (decide (a=b))) false (λk=>VV.rd (Yj .eql false [t22,(.int .i8 0)] []) k) λt23=>VV.rd (Xo [.bool (decide (a=b)),(.bool true),t23] []) K:=λK hK=>QD rfl (Qf ..) hK;refine hp _ ?_;refine Zc (λh=>?_) (λh=>?_)
   ·rw[if_pos (by simpa using h)]; rfl
   have h:¬(a=b∨b=0):=by simpa using h
   rw[if_neg h];refine Za (Qf ..) ?_;refine Zc (λh=>?_) (λh=>?_)
   ·rw[if_pos (by simpa using h)]; rfl
   ·rw[if_neg (by simpa using h)]
  refine Zc (λh=>?_) (λh=>?_)
  ·rw[kJ,if_pos (by simpa using h)] at kk; exact kk
  ·rw[kJ,if_neg (by simpa using h)] at kk; exact kk
 refine Zc (λh=>?_) (λh=>?_)
 ·rw[kJ,if_pos (by simpa using h)] at kk; exact kk
 ·rw[kJ,if_neg (by simpa using h)] at kk; exact kk
theorem c189(a b:Int):PC 189 [ar a,ar b] (.bool (CZ a b)):=by
 refine Qd hP oz rfl rfl ?_;unfold g189;refine Qc (c190 a b) rfl et.plain rfl ?_;refine Qc (c190 b b) rfl et.plain rfl ?_;refine Za (Qf ..) ?_;rfl
theorem yb:∀(k:Nat) (x:Nm),SizeOf.sizeOf x≤k→cQ x=true→PC 191 [.agg (aP x)] (ar (rr x))
 |0,x,h,_=>by cases x; simp at h
 |k+1,x,hk,hf=>by
  rw[QA];refine Qd hP jb rfl rfl ?_;unfold g191;refine Ze rfl rfl ?_;rw[NG];have hlen:=Q2 hf;rw[cM] at hlen;generalize hB:([]++[ab.box [ar x.op,iv x.n,ar x.aB,.ax false false 4 (x.kids.map aP)]]:List ab)=base;have aC:ah base 0=.box [ar x.op,iv x.n,ar x.aB,.ax false false 4 (x.kids.map aP)]:=by rw[←hB]; rfl
  clear hB;refine Za rfl (Za (ld aC rfl) (Za (Qf ..) ?_));refine Qk λk1 eN=>?_;have kk:k1 [ar (if x.op=6 then 3 else 0)] base:=by
   rw[eN]; clear eN k1;generalize (if x.op=6 then (3:Int) else 0)=n0;refine Za rfl (Za (ld aC rfl) (Za rfl ?_));refine C' rfl (ld aC rfl) rfl ?_;rw[show (decide (x.op ≥ 8)&&decide (x.op≤12))=decide (8≤x.op∧x.op≤12) by simp];refine Zc (λh=>?_) (λh=>?_);rotate_left
   ·rw[if_neg (by simpa using h)]; rfl
   rw[if_pos (by simpa using h)];refine Zl (ι:=Nat) (λi vs σ=>∃n,vs=[iv i,ar n]∧σ=base∧i≤x.kids.length∧fT n0 x.kids=fT n (x.kids.drop i)) (λi=>x.kids.length-i) 0 ⟨n0,rfl,rfl,by omega,by simp⟩ ?_;rintro i vs σ again ⟨n,rfl,rfl,hi,hu⟩ aM;repeat first|refine Za (ld aC rfl) ?_|refine Za rfl ?_
   refine Zc (λh=>?_) (λh=>?_)
   ·have h:i<x.kids.length:=by simpa using h
    have cO:x.kids.drop i=x.kids[i]::x.kids.drop (i+1):=by rw[eD h]
    rw[cO,fT] at hu;have hm:x.kids[i]∈x.kids:=List.getElem_mem h;refine Za rfl (Za (ld aC rfl) (Za (Zp _ aP _ _ _ x.kids _ i h) (Za (aj (qp _)) ?_)));refine Qc (yb k _ (by have:=zg hm; omega) (XU hf hm)) rfl jb.plain (kT _) ?_;refine Qc (c190 _ _) rfl et.plain rfl ?_;refine Za (Xk ..) ?_;rw[Zf (n:=i) (by omega)];exact aM (i+1) _ _ (by omega) ⟨_,rfl,rfl,by omega,hu⟩
   ·have h:i=x.kids.length:=by simp at h; omega
    subst h;rw[List.drop_length,fT] at hu;rw[hu]; rfl
  refine Zc (λh=>?_) (λh=>?_)
  ·have e:x.op=6:=by simpa using h
   rw[if_pos e] at kk; exact kk
  ·have e:x.op≠6:=by simpa using h
   rw[if_neg e] at kk; exact kk
theorem c191(x:Nm)(hf:cQ x=true):PC 191 [.agg (aP x)] (ar (rr x)):=yb _ x (Nat.le_refl _) hf
theorem yc:∀(k:Nat) (x:Cn),SizeOf.sizeOf x≤k→cy x=true→PC 192 [.agg (b_ x)] (ar (nM x))
 |0,x,h,_=>by cases x; simp at h
 |k+1,x,hk,hf=>by
  rw[XH];refine Qd hP lR rfl rfl ?_;unfold g192;refine Ze rfl rfl ?_;rw[Pl];have ik:=YL hf;have eR:=ZL hf;rw[cM] at ik eR;generalize hB:([]++[ab.box [ar x.op,ar x.aB,.str x.name,.ax false false 4 (x.aw.map aP),.ax false false 5 (x.kids.map b_)]]:List ab)=base;have aC:ah base 0=.box [ar x.op,ar x.aB,.str x.name,.ax false false 4 (x.aw.map aP),.ax false false 5 (x.kids.map b_)]:=by rw[←hB]; rfl
  clear hB;refine Za rfl (Za (ld aC rfl) (Za (Qf ..) ?_));refine Zc (λh=>?_) (λh=>?_)
  ·rw[if_pos (by simpa using h)];refine Za rfl (Za (ld aC rfl) (Za (Qf ..) ?_));refine Zc (λh=>?_) (λh=>?_)
   ·rw[if_pos (by simpa using h)]
   rw[if_neg (by simpa using h)];refine Za (Qf ..) ?_;refine Zc (λh=>?_) (λh=>?_)
   ·rw[if_pos (by simpa using h)]
   ·rw[if_neg (by simpa using h)]
  rw[if_neg (by simpa using h)];refine Zl (ι:=Nat) (λi vs σ=>∃n,vs=[iv i,ar n]∧σ=base∧i≤x.aw.length∧fT 0 x.aw=fT n (x.aw.drop i)) (λi=>x.aw.length-i) 0 ⟨0,rfl,rfl,by omega,by simp⟩ ?_;rintro i vs σ again ⟨n,rfl,rfl,hi,hu⟩ aM;repeat first|refine Za (ld aC rfl) ?_|refine Za rfl ?_
  refine Zc (λh=>?_) (λh=>?_)
  ·have h:i<x.aw.length:=by simpa using h
   have cO:x.aw.drop i=x.aw[i]::x.aw.drop (i+1):=by rw[eD h]
   rw[cO,fT] at hu;have hm:x.aw[i]∈x.aw:=List.getElem_mem h;refine Za rfl (Za (ld aC rfl) (Za (Zp _ aP _ _ _ x.aw _ i h) (Za (aj (qp _)) ?_)));refine Qc (c191 _ (ZT hf hm)) rfl jb.plain (kT _) ?_;refine Qc (c190 _ _) rfl et.plain rfl ?_;refine Za (Xk ..) ?_;rw[Zf (n:=i) (by omega)];exact aM (i+1) _ _ (by omega) ⟨_,rfl,rfl,by omega,hu⟩
  have h:i=x.aw.length:=by simp at h; omega
  subst h;rw[List.drop_length,fT] at hu;rw[hu];clear aM hu hi;refine Zl (ι:=Nat) (λi vs s=>∃m,vs=[iv i,ar m]∧s=σ∧i≤x.kids.length∧mO n x.kids=mO m (x.kids.drop i)) (λi=>x.kids.length-i) 0 ⟨n,rfl,rfl,by omega,by simp⟩ ?_;rintro i vs s again ⟨m,rfl,rfl,hi,hu⟩ aM;repeat first|refine Za (ld aC rfl) ?_|refine Za rfl ?_
  refine Zc (λh=>?_) (λh=>?_)
  ·have h:i<x.kids.length:=by simpa using h
   have cO:x.kids.drop i=x.kids[i]::x.kids.drop (i+1):=by rw[eD h]
   rw[cO,mO] at hu;have hm:x.kids[i]∈x.kids:=List.getElem_mem h;refine Za rfl (Za (ld aC rfl) (Za (Zp _ b_ _ _ _ x.kids _ i h) (Za (aj (vM _)) ?_)));refine Qc (yc k _ (by have:=zj hm; omega) (QS hf hm)) rfl lR.plain (pK _) ?_;refine Qc (c190 _ _) rfl et.plain rfl ?_;refine Za (Xk ..) ?_;rw[Zf (n:=i) (by omega)];exact aM (i+1) _ _ (by omega) ⟨_,rfl,rfl,by omega,hu⟩
  ·have h:i=x.kids.length:=by simp at h; omega
   subst h;rw[List.drop_length,mO] at hu;rw[hu]; rfl
theorem c192(x:Cn)(hf:cy x=true):PC 192 [.agg (b_ x)] (ar (nM x)):=yc _ x (Nat.le_refl _) hf
end Go.Ah.Tz
end
section
namespace Go.Ah.Tz
open Go.Proofs.Tryz (prog)
def rK(c:Cd):Bool:=cq 0 c.bB&&(cq 0 c.dead&&cq 0 c.eh)
def gH:List Cd→Int×Int
 |[]=>(0,0)
 |c::l=>if rK c then gH l else (140,c.pl)
attribute [local irreducible] al.rd al.pu al.wr al.dr al.gr al.gw al.gl al.gd al.opt au W
set_option maxHeartbeats 1000000
theorem YI{σ:List ab}{b j n:Nat}{row:List aa}{v:aa}(hb:b<σ.length)(hv:aF true j n row=some v):av true n (.an b j) (σ.set b (.box row))=some v:=by
 have:ah (σ.set b (.box row)) b=.box row:=ZN (by simp[hb]);simp only[av,this,hv]
theorem tL:∀(k:Nat) (l:List Ef) (u:Int),SizeOf.sizeOf l≤k→bA l=true→PC 146 [ar u,ju l] (.bool (cq u l))
 |0,l,_,h,_=>by cases l<;>simp at h
 |k+1,l,u,hk,hf=>by
  refine Qd hP gS rfl rfl ?_;unfold g146;have hlen:=ZC hf;rw[cM] at hlen;refine Zl (ι:=Nat) (λi vs σ=>vs=[iv i]∧i≤l.length∧cq u l=cq u (l.drop i)) (λi=>l.length-i) 0 ⟨rfl,by omega,by simp⟩ ?_;rintro i vs σ again ⟨rfl,hi,hu⟩ aM;refine Za rfl (Za rfl ?_);refine Zc (λh=>?_) (λh=>?_);rotate_left
  ·have h:i=l.length:=by simp at h; omega
   subst h;rw[List.drop_length,cq] at hu;rw[hu]
  have h:i<l.length:=by simpa using h
  have cO:l.drop i=l[i]::l.drop (i+1):=by rw[eD h]
  rw[cO,cq] at hu;have hm:l[i]∈l:=List.getElem_mem h;have ei:=List.sizeOf_lt_of_mem hm;have jg:=QN hf hm;have ix:=λ(s:List ab)=>Zp s aX false false 14 l .i64 i h;generalize l[i]=x at hu ei jg ix;refine Qk λkj gh=>?_;have kk:pO u x=true→∀s,kj [] s:=by
   intro he s;rw[gh];refine Za (Xk ..) ?_;rw[Zf (n:=i) (by omega)];exact aM (i+1) _ _ (by omega) ⟨rfl,by omega,by rw[hu,he,Bool.true_and]⟩
  have bad:pO u x=false→aa.bool false=aa.bool (cq u l):=by
   intro he; rw[hu,he]; rfl
  clear gh aM;refine Za (ix _) (Za (aj (vP x)) ?_);refine Yt (row:=[ar x.op,ar x.aB,ar x.n.op,iv x.n.n,ar x.n.aB,.ax false false 4 (x.n.kids.map aP),.str x.name,ar x.c.op,ar x.c.aB,.str x.c.name,.ax false false 4 (x.c.aw.map aP),.ax false false 5 (x.c.kids.map b_),.ax false false 14 (x.bk.map aX),.ax false false 14 (x.br.map aX)]) (row':=[ar x.op,ar x.aB,ar x.n.op,iv x.n.n,ar x.n.aB,.ax false false 4 (x.n.kids.map aP),.str x.name,ar x.c.op,ar x.c.aB,.str x.c.name,.ax false false 4 (x.c.aw.map aP),.ax false false 5 (x.c.kids.map b_),.ax false false 14 (x.bk.map aX),.ax false false 14 (x.br.map aX)]) (by rw[QH]; rfl) rfl rfl ?_;have aC:=Zi σ (ab.box [ar x.op,ar x.aB,ar x.n.op,iv x.n.n,ar x.n.aB,.ax false false 4 (x.n.kids.map aP),.str x.name,ar x.c.op,ar x.c.aB,.str x.c.name,.ax false false 4 (x.c.aw.map aP),.ax false false 5 (x.c.kids.map b_),.ax false false 14 (x.bk.map aX),.ax false false 14 (x.br.map aX)]);generalize σ++[ab.box [ar x.op,ar x.aB,ar x.n.op,iv x.n.n,ar x.n.aB,.ax false false 4 (x.n.kids.map aP),.str x.name,ar x.c.op,ar x.c.aB,.str x.c.name,.ax false false 4 (x.c.aw.map aP),.ax false false 5 (x.c.kids.map b_),.ax false false 14 (x.bk.map aX),.ax false false 14 (x.br.map aX)]]=base at aC ⊢;generalize σ.length=b at aC ⊢;have hN:Zd true 4 [.an b 2] base=.ok (.agg (aP x.n)) [b] []:=ld aC (by rw[QA]; rfl);have hC:Zd true 5 [.an b 7] base=.ok (.agg (b_ x.c)) [b] []:=ld aC (by rw[XH]; rfl);rw[D3] at kk bad;repeat first|refine Za hN ?_|refine Za hC ?_|refine Za (ld aC rfl) ?_|refine Za (Qf ..) ?_|refine Za rfl ?_
  refine Zc (λa1=>?_) (λa1=>?_)
  ·have a1:x.op=5:=by simpa using a1
   rw[if_pos a1] at kk bad;repeat first|refine Za hN ?_|refine Za hC ?_|refine Za (ld aC rfl) ?_|refine Za (Qf ..) ?_|refine Za rfl ?_
   refine Qc (c191 _ (Y4 jg)) rfl jb.plain (kT _) ?_;refine Qc (c190 _ _) rfl et.plain rfl ?_;refine Qc (c189 _ _) rfl oz.plain rfl ?_;refine Za rfl ?_;exact Zc (λh=>bad (by simpa using h)) (λh=>kk (by simpa using h) _)
  have a1:x.op≠5:=by simpa using a1
  rw[if_neg a1] at kk bad;repeat first|refine Za hN ?_|refine Za hC ?_|refine Za (ld aC rfl) ?_|refine Za (Qf ..) ?_|refine Za rfl ?_
  refine Zc (λa2=>?_) (λa2=>?_)
  ·have a2:x.op=8:=by simpa using a2
   rw[if_pos a2] at kk bad;have o_:=ZX x;repeat first|refine Za hN ?_|refine Za hC ?_|refine Za (ld aC rfl) ?_|refine Za (Qf ..) ?_|refine Za rfl ?_
   refine Qc (c192 _ (YZ jg)) rfl lR.plain (pK _) ?_;refine Qc (c190 _ _) rfl et.plain rfl ?_;repeat first|refine Za hN ?_|refine Za hC ?_|refine Za (ld aC rfl) ?_|refine Za (Qf ..) ?_|refine Za rfl ?_
   refine Qc (tL k x.bk _ (by omega) (QI jg)) rfl gS.plain rfl ?_;repeat first|refine Za hN ?_|refine Za hC ?_|refine Za (ld aC rfl) ?_|refine Za (Qf ..) ?_|refine Za rfl ?_
   rcases aL (!cq (bP u (nM x.c)) x.bk) with a3|a3
   ·rw[a3];repeat first|refine Xa ?_|refine Zb ?_|refine Qb rfl ?_|refine Yc rfl ?_|refine Yd rfl ?_|refine Xd rfl ?_|refine Za (ld aC rfl) ?_|refine Za rfl ?_
    refine Ye (bad ?_);have a3:cq (bP u (nM x.c)) x.bk=false:=by simpa using a3
    simp[a3]
   rw[a3];repeat first|refine Xa ?_|refine Zb ?_|refine Za (ld aC rfl) ?_|refine Za rfl ?_
   have a3:cq (bP u (nM x.c)) x.bk=true:=by simpa using a3
   refine Qc (tL k x.br _ (by omega) (XI jg)) rfl gS.plain rfl ?_;repeat first|refine Xa ?_|refine Zb ?_|refine Za (ld aC rfl) ?_|refine Za rfl ?_
   refine Zc (λh=>bad ?_) (λh=>kk ?_ _)
   ·have h:cq (bP u (nM x.c)) x.br=false:=by simpa using h
    simp[h]
   ·have h:cq (bP u (nM x.c)) x.br=true:=by simpa using h
    simp[a3,h]
  have a2:x.op≠8:=by simpa using a2
  rw[if_neg a2] at kk bad;repeat first|refine Za hN ?_|refine Za hC ?_|refine Za (ld aC rfl) ?_|refine Za (Qf ..) ?_|refine Za rfl ?_
  refine Qk λk1 eN=>?_;have m1:∀c:Bool,c=decide (x.op=0∨x.op=1∨x.op=2∨x.op=3)→k1 [.bool c] base:=by
   rintro c hc;rw[eN];refine Zc (λh=>?_) (λh=>?_)
   ·rw[h] at hc;rw[if_pos (by simpa using hc.symm)] at kk bad;repeat first|refine Za hN ?_|refine Za hC ?_|refine Za (ld aC rfl) ?_|refine Za (Qf ..) ?_|refine Za rfl ?_
    refine Qc (c191 _ (Y4 jg)) rfl jb.plain (kT _) ?_;refine Qc (c190 _ _) rfl et.plain rfl ?_;refine Za rfl ?_;exact Zc (λh=>bad (by simpa using h)) (λh=>kk (by simpa using h) _)
   ·rw[h] at hc;rw[if_neg (by simpa using hc.symm)] at kk bad;refine Qc (c190 _ _) rfl et.plain rfl ?_;refine Za rfl ?_;exact Zc (λh=>bad (by simpa using h)) (λh=>kk (by simpa using h) _)
  clear eN;refine Zc (λh=>m1 _ ?_) (λh=>?_)
  ·simp at h; simp[h]
  refine Za (Qf ..) (Zc (λh2=>m1 _ ?_) (λh2=>?_))
  ·simp at h2; simp[h2]
  refine Za (Qf ..) (Zc (λh3=>m1 _ ?_) (λh3=>?_))
  ·simp at h3; simp[h3]
  refine Za (Qf ..) (m1 _ ?_);simp at h h2 h3; simp[h,h2,h3]
theorem c146(l:List Ef)(u:Int)(hf:bA l=true):PC 146 [ar u,ju l] (.bool (cq u l)):=tL _ l u (Nat.le_refl _) hf
theorem c114(cs:List Cd)(hf:YS cs=true):PC 114 [gG cs] (.agg [iv (gH cs).1,iv (gH cs).2]):=by
 simp only[YS,Bool.and_eq_true,decide_eq_true_eq] at hf;obtain⟨f0,f1⟩:=hf;rw[cM] at f0;refine Qd hP og rfl rfl ?_;unfold g114;refine Ze rfl rfl ?_;refine Zl (ι:=Nat) (λi vs σ=>vs=[iv i]∧ah σ 0=.box [iv 0,iv 0]∧0<σ.length∧i≤cs.length∧gH cs=gH (cs.drop i)) (λi=>cs.length-i) 0 ⟨rfl,rfl,by simp,by omega,by simp⟩ ?_;rintro i vs σ again ⟨rfl,hz,uR,hi,hu⟩ aM;refine Za rfl (Za rfl ?_);refine Zc (λh=>?_) (λh=>?_);rotate_left
 ·have h:i=cs.length:=by simp at h; omega
  subst h;rw[List.drop_length,gH] at hu;refine Za rfl (Ze (iy hz rfl rfl rfl) (Xn _ uR) (Ql (YI uR rfl) ?_));rw[hu]
 have hi:i<cs.length:=by simpa using h
 have cO:cs.drop i=cs[i]::cs.drop (i+1):=by rw[eD hi]
 have bW:=λ(s:List ab)=>Zp s cD false false 12 cs .i64 i hi;have vv:=List.all_eq_true.1 f1 _ (List.getElem_mem hi);generalize cs[i]=c at cO bW vv;rw[cO,gH] at hu;simp only[gE,Bool.and_eq_true,decide_eq_true_eq] at vv;obtain⟨g0,g1,g2,g3⟩:=vv;refine Za (bW _) (Za (aj (pJ _)) (Yt (row:=cD c) (row':=cD c) rfl rfl rfl ?_));have aC:=Zi σ (ab.box (cD c));have rl:ah (σ++[ab.box (cD c)]) 0=.box [iv 0,iv 0]:=Zg _ hz (by simp);have pe:0<(σ++[ab.box (cD c)]).length:=by simp
 generalize σ++[ab.box (cD c)]=base at aC rl pe ⊢;generalize σ.length=b at aC ⊢;clear hz uR;repeat first|refine Za (ld aC rfl) ?_|refine Za rfl ?_
 refine Qc (c146 _ 0 g1) rfl gS.plain rfl ?_;repeat first|refine Za (ld aC rfl) ?_|refine Za rfl ?_
 have bad:rK c=false→VV.rd (Ya 11 [.an b 0] base) λvh=>True:=λ_=>Za rfl trivial;clear bad;apply nW (rK c=false)
 ·intro hR;have sL:rK c=true→VV.rd (Yj .add false [iv i,(.int .i64 1)] base) λrA=>again [rA] base:=by
   intro hc;rw[hc,if_pos rfl] at hu;refine Za (Xk ..) ?_;rw[Zf (n:=i) (by omega)];exact aM (i+1) _ _ (by omega) ⟨rfl,rl,pe,by omega,hu⟩
  rcases aL (!cq 0 c.bB) with a1|a1
  ·rw[a1];repeat first|refine Xa ?_|refine Zb ?_|refine Qb rfl ?_|refine Yc rfl ?_|refine Yd rfl ?_|refine Xd rfl ?_|refine Za (ld aC rfl) ?_|refine Za rfl ?_
   refine Ye (hR ?_);have a1:cq 0 c.bB=false:=by simpa using a1
   simp[rK,a1]
  rw[a1];repeat first|refine Xa ?_|refine Zb ?_|refine Za (ld aC rfl) ?_|refine Za rfl ?_
  have a1:cq 0 c.bB=true:=by simpa using a1
  refine Qc (c146 _ 0 g2) rfl gS.plain rfl ?_;repeat first|refine Xa ?_|refine Zb ?_|refine Za (ld aC rfl) ?_|refine Za rfl ?_
  rcases aL (!cq 0 c.dead) with a2|a2
  ·rw[a2];repeat first|refine Xa ?_|refine Zb ?_|refine Qb rfl ?_|refine Yc rfl ?_|refine Yd rfl ?_|refine Xd rfl ?_|refine Za (ld aC rfl) ?_|refine Za rfl ?_
   refine Ye (hR ?_);have a2:cq 0 c.dead=false:=by simpa using a2
   simp[rK,a2]
  rw[a2];repeat first|refine Xa ?_|refine Zb ?_|refine Za (ld aC rfl) ?_|refine Za rfl ?_
  have a2:cq 0 c.dead=true:=by simpa using a2
  refine Qc (c146 _ 0 g3) rfl gS.plain rfl ?_;repeat first|refine Xa ?_|refine Zb ?_|refine Za (ld aC rfl) ?_|refine Za rfl ?_
  refine Zc (λa3=>hR ?_) (λa3=>sL ?_)
  ·have a3:cq 0 c.eh=false:=by simpa using a3
   simp[rK,a3]
  ·have a3:cq 0 c.eh=true:=by simpa using a3
   simp[rK,a1,a2,a3]
 intro hc;rw[hc] at hu
 replace hu:gH cs=(140,c.pl):=hu
 refine Za rfl (Za (ld aC rfl) (Za rfl (Ze (iy rl rfl rfl rfl) (Xn _ pe) (Ql (YI pe rfl) ?_))));rw[hu]
end Go.Ah.Tz
end
section
namespace Go.Ah.Tz
open Go.Proofs.Tryz (prog)
def fJ:Nat→List Cd→Tx→Nat×Bool
 |_,[],_=>(0,false)
 |i,c::l,t=>if c.name==t then (i,true) else fJ (i+1) l t
def ft(cs:List Cd):List Tx→List Tx→Bool
 |_,[]=>true
 |pre,t::l=>((fJ 0 cs t).2&&pre.all λp=>!(p==t))&&ft cs (pre++[t]) l
def jY(b:Bk)(pre:List Fo)(f:Fo):Bool:=
 !(pre.any λg=>g.name==f.name)&&(decide (pre.length<240)&&(cP f.name&&(decide (0≤f.least)&&(decide (f.least≤f.most)&&(decide (f.most≤60)&&(decide (0≤f.fH)&&(decide (f.fH≤999)&&(ft b.ai [] f.gp&&ft b.ai [] f.single))))))))
def eI(b:Bk):List Fo→List Fo→Int×Int
 |_,[]=>(0,0)
 |pre,f::l=>if jY b pre f then eI b (pre++[f]) l else (151,f.pl)
def ej(b:Bk):Int×Int:=if (dF b.ai).1≠0 then dF b.ai else if (gH b.ai).1≠0 then gH b.ai else eI b [] b.ao
def mT(f:Fo):Bool:=decide (f.name.length≤fO)&&(decide (f.gp.length≤fO)&&decide (f.single.length≤fO))
def bE(b:Bk):Bool:=YS b.ai&&(decide (b.ao.length≤fO)&&b.ao.all mT)
attribute [local irreducible] al.rd al.pu al.wr al.dr al.gr al.gw al.gl al.gd al.opt au W
set_option maxHeartbeats 1000000
theorem c195(b:Bk)(hc:b.ai.length≤fO)(t:Tx):PC 195 [eY b,.str t] (.aG [iv (fJ 0 b.ai t).1,.bool (fJ 0 b.ai t).2]):=by
 rw[cM] at hc;refine Qd hP oC rfl rfl ?_;unfold g195;refine Ze rfl rfl ?_;generalize hB:([]++[ab.box [gG b.ai,jZ b.ao]]:List ab)=base;have aC:ah base 0=.box [gG b.ai,jZ b.ao]:=by rw[←hB]; rfl
 clear hB;generalize b.ai=cs at hc aC ⊢;refine Zl (ι:=Nat) (λi vs σ=>vs=[iv i]∧σ=base∧i≤cs.length∧fJ 0 cs t=fJ i (cs.drop i) t) (λi=>cs.length-i) 0 ⟨rfl,rfl,by omega,by simp⟩ ?_;rintro i vs σ again ⟨rfl,rfl,hi,hu⟩ aM;repeat first|refine Za (ld aC rfl) ?_|refine Za rfl ?_
 refine Zc (λh=>?_) (λh=>?_)
 ·have h:i<cs.length:=by simpa using h
  have cO:cs.drop i=cs[i]::cs.drop (i+1):=by rw[eD h]
  rw[cO,fJ] at hu;refine Za rfl (Za (ld aC rfl) (Za (Zp _ cD false false 12 cs .i64 i h) (Za rfl (Za (aj (nL _)) (Za (Xg ..) ?_)))));refine Zc (λh=>?_) (λh=>?_)
  ·rw[if_pos h] at hu;rw[hu]; rfl
  ·rw[if_neg (by simpa using h)] at hu;refine Za (Xk ..) ?_;rw[Zf (n:=i) (by omega)];exact aM (i+1) _ _ (by omega) ⟨rfl,rfl,by omega,hu⟩
 ·have h:i=cs.length:=by simp at h; omega
  subst h;rw[List.drop_length,fJ] at hu;rw[hu]; rfl
theorem c148(b:Bk)(hc:b.ai.length≤fO)(l:List Tx)(hl:l.length≤fO):PC 148 [eY b,Dr l] (.bool (ft b.ai [] l)):=by
 rw[cM] at hl;refine Qd hP lH rfl rfl ?_;unfold g148;refine Ze rfl rfl ?_;refine Zl (ι:=Nat) (λi vs σ=>vs=[iv i]∧σ=[]++[ab.box [gG b.ai,jZ b.ao]]∧i≤l.length∧ft b.ai [] l=ft b.ai (l.take i) (l.drop i)) (λi=>l.length-i) 0 ⟨rfl,rfl,by omega,by simp⟩ ?_;rintro i vs σ again ⟨rfl,rfl,hi,hu⟩ aM;refine Za rfl (Za rfl ?_);refine Zc (λh=>?_) (λh=>?_);rotate_left
 ·have h:i=l.length:=by simp at h; omega
  subst h;rw[List.drop_length,ft] at hu;rw[hu]
 have h:i<l.length:=by simpa using h
 have cO:l.drop i=l[i]::l.drop (i+1):=by rw[eD h]
 have bW:=λ(s:List ab)=>Zp s s9 false false 1 l .i64 i h;have hJ:l.take (i+1)=l.take i++[l[i]]:=Yy l i h;generalize l[i]=t at cO bW hJ;rw[cO,ft,←hJ] at hu;refine Yk rfl rfl (Yk (bW _) rfl (Yk (aj (vi _)) rfl ?_));refine Qn (c195 b hc t) rfl oC.plain rfl ?_;refine Zk rfl (Zk rfl (XJ (by kernel_rfl) ?_));refine Zl (ι:=Nat) (λk vs σ=>∃ok,vs=[iv k,.bool ok]∧σ=[]++[ab.box [gG b.ai,jZ b.ao]]∧k≤i∧((fJ 0 b.ai t).2&&(l.take i).all λp=>!(p==t))=(ok&&((l.take i).drop k).all λp=>!(p==t))) (λk=>i-k) 0 ⟨_,rfl,rfl,by omega,by simp⟩ ?_;rintro k vs σ mH ⟨ok,rfl,rfl,hk,hv⟩ lu;refine Za rfl ?_;refine Zc (λh2=>?_) (λh2=>?_)
 ·have h2:k<i:=by simpa using h2
  have hkx:k<(l.take i).length:=by rw[List.length_take]; omega
  have pT:(l.take i).drop k=(l.take i)[k]::(l.take i).drop (k+1):=by rw[eD hkx]
  rw[List.getElem_take] at pT;rw[pT,List.all_cons,←Bool.and_assoc] at hv;cases ok with
  |true=>
   have KU:=λ(s:List ab)=>Zp s s9 false false 1 l .i64 k (by omega);repeat first|refine Xa ?_|refine Za (KU _) ?_|refine Za (bW _) ?_|refine Za (aj (vi _)) ?_|refine Za rfl ?_
   rw[Zf (n:=k) (by omega)];exact lu (k+1) _ _ (by omega) ⟨_,rfl,rfl,by omega,by rw[hv,Bool.true_and]⟩
  |false=>
   repeat first|refine Qb rfl ?_|refine Yd rfl ?_
   refine Za rfl (Za (Xk ..) ?_);rw[Zf (n:=k) (by omega)];exact lu (k+1) _ _ (by omega) ⟨_,rfl,rfl,by omega,by rw[hv]; simp⟩
 have h2:k=i:=by simp at h2; omega
 subst h2;rw[List.drop_eq_nil_of_le (by rw[List.length_take]; omega),List.all_nil,Bool.and_true] at hv;rw[hv] at hu;refine Za rfl ?_;refine Zc (λh3=>?_) (λh3=>?_)
 ·have h3:ok=false:=by simpa using h3
  subst h3;rw[hu]; rfl
 ·have h3:ok=true:=by simpa using h3
  subst h3;rw[Bool.true_and] at hu;refine Za (Xk ..) ?_;rw[Zf (n:=k) (by omega)];exact aM (k+1) _ _ (by omega) ⟨rfl,rfl,by omega,hu⟩
theorem EB(x:Fo):aF true 0 7 (mS x)=some (.agg (mS x)):=rfl
theorem EC(x:Fo):aF false 0 1 (mS x)=some (.str x.name):=rfl
theorem ED(x:Fo):aF false 6 1 (mS x)=some (iv x.pl):=rfl
theorem c115(b:Bk)(hc:b.ai.length≤fO)(sP:b.ao.length≤fO)(k:Nat)(hk:k<b.ao.length)(hf:mT b.ao[k]=true):PC 115 [eY b,iv k] (.bool (jY b (b.ao.take k) b.ao[k])):=by
 rw[cM] at sP;refine Qd hP oh rfl rfl ?_;unfold g115;refine Ze rfl rfl ?_;have bW:=λ(s:List ab)=>Zp s mS false false 7 b.ao .i64 k hk;generalize b.ao[k]=f at hf bW ⊢;simp only[mT,Bool.and_eq_true,decide_eq_true_eq] at hf;obtain⟨f0,f1,f2⟩:=hf;refine Za rfl (Za rfl (Za (bW _) (Za (aj (EB f)) (Yt (row:=mS f) (row':=mS f) rfl rfl rfl ?_))));generalize hB:([]++[ab.box [gG b.ai,jZ b.ao]]++[ab.box (mS f)]:List ab)=base;have aC:ah base 0=.box [gG b.ai,jZ b.ao]:=by rw[←hB]; rfl
 have cK:ah base 1=.box (mS f):=by rw[←hB]; rfl
 clear hB;have htl:(b.ao.take k).length=k:=by rw[List.length_take]; omega
 refine Zl (ι:=Nat) (λj vs σ=>vs=[iv j]∧σ=base∧j≤k∧((b.ao.take k).any λg=>g.name==f.name)=(((b.ao.take k).drop j).any λg=>g.name==f.name)) (λj=>k-j) 0 ⟨rfl,rfl,by omega,by simp⟩ ?_;rintro j vs σ again ⟨rfl,rfl,hj,hv⟩ aM;refine Za rfl ?_;refine Zc (λh=>?_) (λh=>?_)
 ·have h:j<k:=by simpa using h
  have KW:j<(b.ao.take k).length:=by omega
  have pT:(b.ao.take k).drop j=(b.ao.take k)[j]::(b.ao.take k).drop (j+1):=by rw[eD KW]
  rw[List.getElem_take] at pT;rw[pT,List.any_cons] at hv;refine Za rfl (Za (ld aC rfl) (Za (Zp _ mS false false 7 b.ao .i64 j (by omega)) (Za rfl (Za (aj (EC _)) (Za rfl (Za (ld cK rfl) (Za (Xg ..) ?_)))))));refine Zc (λh=>?_) (λh=>?_)
  ·rw[h,Bool.true_or] at hv;simp[jY,hv]
  ·rw[h,Bool.false_or] at hv;refine Za (Xk ..) ?_;rw[Zf (n:=j) (by omega)];exact aM (j+1) _ _ (by omega) ⟨rfl,rfl,by omega,hv⟩
 have h:j=k:=by simp at h; omega
 subst h;rw[List.drop_eq_nil_of_le (by omega),List.any_nil] at hv;unfold jY;rw[hv,htl,Bool.not_false,Bool.true_and];clear hv aM bW;refine Za rfl ?_;rcases aL (decide ((j:Int) ≥ 240)) with a1|a1
 ·rw[a1];repeat first|refine Xa ?_|refine Zb ?_|refine Qb rfl ?_|refine Yc rfl ?_|refine Yd rfl ?_|refine Xd rfl ?_|refine Za (ld aC rfl) ?_|refine Za (ld cK rfl) ?_|refine Za rfl ?_
  refine Ye ?_;have a1:¬j<240:=by simp at a1; omega
  simp[a1]
 rw[a1];repeat first|refine Xa ?_|refine Zb ?_|refine Za (ld aC rfl) ?_|refine Za (ld cK rfl) ?_|refine Za rfl ?_
 have a1:j<240:=by simp at a1; omega
 refine Qc (c147 _ f0) rfl lG.plain rfl ?_;repeat first|refine Xa ?_|refine Zb ?_|refine Za (ld aC rfl) ?_|refine Za (ld cK rfl) ?_|refine Za rfl ?_
 refine Zc (λa2=>?_) (λa2=>?_)
 ·have a2:cP f.name=false:=by simpa using a2
  simp[a2]
 have a2:cP f.name=true:=by simpa using a2
 rw[decide_eq_true a1,a2,Bool.true_and,Bool.true_and];clear a1 a2;repeat first|refine Xa ?_|refine Zb ?_|refine Za (ld aC rfl) ?_|refine Za (ld cK rfl) ?_|refine Za rfl ?_
 rcases aL (decide (f.least ≥ 0)) with b1|b1
 rotate_left
 ·rw[b1];repeat first|refine Xa ?_|refine Zb ?_|refine Qb rfl ?_|refine Yc rfl ?_|refine Yd rfl ?_|refine Xd rfl ?_|refine Za (ld aC rfl) ?_|refine Za (ld cK rfl) ?_|refine Za rfl ?_
  have b1:¬0≤f.least:=by simpa using b1
  simp[b1]
 rw[b1];repeat first|refine Xa ?_|refine Zb ?_|refine Za (ld aC rfl) ?_|refine Za (ld cK rfl) ?_|refine Za rfl ?_
 have b1:0≤f.least:=by simpa using b1
 rcases aL (decide (f.least≤f.most)) with b2|b2
 rotate_left
 ·rw[b2];repeat first|refine Xa ?_|refine Zb ?_|refine Qb rfl ?_|refine Yc rfl ?_|refine Yd rfl ?_|refine Xd rfl ?_|refine Za (ld aC rfl) ?_|refine Za (ld cK rfl) ?_|refine Za rfl ?_
  have b2:¬f.least≤f.most:=by simpa using b2
  simp[b2]
 rw[b2];repeat first|refine Xa ?_|refine Zb ?_|refine Za (ld aC rfl) ?_|refine Za (ld cK rfl) ?_|refine Za rfl ?_
 have b2:f.least≤f.most:=by simpa using b2
 rcases aL (decide (f.most≤60)) with b3|b3
 rotate_left
 ·rw[b3];repeat first|refine Xa ?_|refine Zb ?_|refine Qb rfl ?_|refine Yc rfl ?_|refine Yd rfl ?_|refine Xd rfl ?_|refine Za (ld aC rfl) ?_|refine Za (ld cK rfl) ?_|refine Za rfl ?_
  have b3:¬f.most≤60:=by simpa using b3
  simp[b3]
 rw[b3];repeat first|refine Xa ?_|refine Zb ?_|refine Za (ld aC rfl) ?_|refine Za (ld cK rfl) ?_|refine Za rfl ?_
 have b3:f.most≤60:=by simpa using b3
 rcases aL (decide (f.fH ≥ 0)) with b4|b4
 rotate_left
 ·rw[b4];repeat first|refine Xa ?_|refine Zb ?_|refine Qb rfl ?_|refine Yc rfl ?_|refine Yd rfl ?_|refine Xd rfl ?_|refine Za (ld aC rfl) ?_|refine Za (ld cK rfl) ?_|refine Za rfl ?_
  have b4:¬0≤f.fH:=by simpa using b4
  simp[b4]
 rw[b4];repeat first|refine Xa ?_|refine Zb ?_|refine Za (ld aC rfl) ?_|refine Za (ld cK rfl) ?_|refine Za rfl ?_
 have b4:0≤f.fH:=by simpa using b4
 rcases aL (decide (f.fH≤999)) with b5|b5
 rotate_left
 ·rw[b5];repeat first|refine Xa ?_|refine Zb ?_|refine Qb rfl ?_|refine Yc rfl ?_|refine Yd rfl ?_|refine Xd rfl ?_|refine Za (ld aC rfl) ?_|refine Za (ld cK rfl) ?_|refine Za rfl ?_
  have b5:¬f.fH≤999:=by simpa using b5
  simp[b5]
 rw[b5];repeat first|refine Xa ?_|refine Zb ?_|refine Za (ld aC rfl) ?_|refine Za (ld cK rfl) ?_|refine Za rfl ?_
 have b5:f.fH≤999:=by simpa using b5
 simp only[b1,b2,b3,b4,b5,decide_true,Bool.true_and];refine Qc (c148 b hc _ f1) rfl lH.plain rfl ?_;repeat first|refine Xa ?_|refine Zb ?_|refine Za (ld aC rfl) ?_|refine Za (ld cK rfl) ?_|refine Za rfl ?_
 rcases aL (ft b.ai [] f.gp) with c1|c1
 rotate_left
 ·rw[c1];repeat first|refine Xa ?_|refine Zb ?_|refine Qb rfl ?_|refine Yc rfl ?_|refine Yd rfl ?_|refine Xd rfl ?_|refine Za (ld aC rfl) ?_|refine Za (ld cK rfl) ?_|refine Za rfl ?_
  simp[c1]
 rw[c1];repeat first|refine Xa ?_|refine Zb ?_|refine Za (ld aC rfl) ?_|refine Za (ld cK rfl) ?_|refine Za rfl ?_
 refine Qc (c148 b hc _ f2) rfl lH.plain rfl ?_;repeat first|refine Xa ?_|refine Zb ?_|refine Za (ld aC rfl) ?_|refine Za (ld cK rfl) ?_|refine Za rfl ?_
 simp[c1]
theorem c67(b:Bk)(hf:bE b=true):PC 67 [eY b] (.agg [iv (ej b).1,iv (ej b).2]):=by
 simp only[bE,Bool.and_eq_true,decide_eq_true_eq] at hf;obtain⟨f0,f1,f2⟩:=hf;have f12:=f1;rw[cM] at f12;have fc:b.ai.length≤fO:=by simp only[YS,Bool.and_eq_true,decide_eq_true_eq] at f0; exact f0.1
 refine Qd hP qP rfl rfl ?_;unfold g67;refine Ze rfl rfl (Ze rfl rfl (Za rfl (Za rfl ?_)));refine Qc (c113 _ f0) rfl oe.plain rfl ?_;refine Yt rfl rfl rfl (Za rfl (Za rfl (Za rfl ?_)));unfold ej;refine Zc (λh=>?_) (λh=>?_)
 ·rw[if_pos (by simpa using h)];refine Za rfl (Ze rfl rfl (Ql rfl rfl))
 rw[if_neg (by simpa using h)];refine Za rfl (Za rfl ?_);refine Qc (c114 _ f0) rfl og.plain rfl ?_;refine Yt rfl rfl rfl (Za rfl (Za rfl (Za rfl ?_)));refine Zc (λh=>?_) (λh=>?_)
 ·rw[if_pos (by simpa using h)];refine Za rfl (Ze rfl rfl (Ql rfl rfl))
 rw[if_neg (by simpa using h)];generalize dF b.ai=p1;generalize gH b.ai=p2;refine Zl (ι:=Nat) (λi vs σ=>vs=[iv i]∧σ=[]++[ab.box [gG b.ai,jZ b.ao]]++[.box [iv 0,iv 0]]++[.box [iv p1.1,iv p1.2]]++[.box [iv p2.1,iv p2.2]]∧i≤b.ao.length∧eI b [] b.ao=eI b (b.ao.take i) (b.ao.drop i)) (λi=>b.ao.length-i) 0 ⟨rfl,rfl,by omega,by simp⟩ ?_;rintro i vs σ again ⟨rfl,rfl,hi,hu⟩ aM;refine Za rfl (Za rfl (Za rfl (Za rfl ?_)));refine Zc (λh=>?_) (λh=>?_);rotate_left
 ·have h:i=b.ao.length:=by simp at h; omega
  subst h;rw[List.drop_length,eI] at hu;refine Za rfl (Ze rfl rfl (Ql rfl ?_));rw[hu]
 have h:i<b.ao.length:=by simpa using h
 have cO:b.ao.drop i=b.ao[i]::b.ao.drop (i+1):=by rw[eD h]
 have bW:=λ(s:List ab)=>Zp s mS false false 7 b.ao .i64 i h;have hJ:b.ao.take (i+1)=b.ao.take i++[b.ao[i]]:=Yy b.ao i h;have Fi:=c115 b fc f1 i h (List.all_eq_true.1 f2 _ (List.getElem_mem h));generalize b.ao[i]=f at cO bW hJ Fi;rw[cO,eI,←hJ] at hu;refine Za rfl ?_;refine Qc Fi rfl oh.plain rfl ?_;refine Za rfl ?_;refine Zc (λh3=>?_) (λh3=>?_)
 ·rw[if_neg (by simpa using h3)] at hu;refine Za rfl (Za rfl (Za (bW _) (Za rfl (Za (aj (ED _)) (Za rfl (Ze rfl rfl (Ql rfl ?_)))))));rw[hu]
 ·rw[if_pos (by simpa using h3)] at hu;refine Za (Xk ..) ?_;rw[Zf (n:=i) (by omega)];exact aM (i+1) _ _ (by omega) ⟨rfl,rfl,by omega,hu⟩
end Go.Ah.Tz
end
section
namespace Go.Ah.Tz
open Go.Proofs.Tryz (prog)
structure sD (row:List aa) (j:Nat) (x:Nm):Prop where
 h0:aF false (j+0) 1 row=some (ar x.op)
 h1:aF false (j+1) 1 row=some (iv x.n)
 h2:aF false (j+2) 1 row=some (ar x.aB)
 h3:aF false (j+3) 1 row=some (.ax false false 4 (x.kids.map aP))
theorem Aw(x:Nm):sD (aP x) 0 x:=by rw[QA]; exact⟨rfl,rfl,rfl,rfl⟩
theorem yR(x:Ef):sD (aX x) 2 x.n:=by rw[QH]; exact⟨rfl,rfl,rfl,rfl⟩
attribute [local irreducible] al.rd al.pu al.wr al.dr al.gr al.gw al.gl al.gd al.opt au W
set_option maxHeartbeats 1000000
theorem c210(w:Int):PC 210 [ar w] (.bool (aU w)):=by
 refine Qd hP jc rfl rfl ?_;unfold g210;refine Za (Qf ..) ?_;refine Qk λk1 eN=>?_;have kk:∀c,c=aU w→k1 [.bool c] []:=by
  rintro c hc;rw[eN];refine Zc (λh=>?_) (λh=>?_)
  ·rw[←hc,h]
  ·rw[←hc,h]
 clear eN;refine Zc (λa0=>kk _ ?_) (λa0=>?_)
 ·simp at a0; simp[aU,a0]
 refine Za (Qf ..) (Zc (λa1=>kk _ ?_) (λa1=>?_))
 ·simp at a1; simp[aU,a1]
 refine Za (Qf ..) (Zc (λa2=>kk _ ?_) (λa2=>?_))
 ·simp at a2; simp[aU,a2]
 refine Za (Qf ..) (Zc (λa3=>kk _ ?_) (λa3=>?_))
 ·simp at a3; simp[aU,a3]
 refine Za (Qf ..) (kk _ ?_);simp at a0 a1 a2 a3;simp[aU,a0,a1,a2,a3]
theorem c212(w:Int):PC 212 [ar w] (.bool (fi w)):=by
 refine Qd hP gV rfl rfl ?_;unfold g212;refine Za (Qf ..) ?_;rcases aL (decide (w=0)) with h1|h1
 ·rw[h1];repeat first|refine Xa ?_|refine Zb ?_|refine Qb rfl ?_|refine Yc rfl ?_|refine Yd rfl ?_|refine Xd rfl ?_|refine Za rfl ?_
  simp at h1; simp[fi,h1]
 rw[h1];repeat first|refine Xa ?_|refine Zb ?_|refine Za rfl ?_
 have h1:w≠0:=by simpa using h1
 exact congrArg aa.bool (by rw[Bool.eq_iff_iff]; simp[fi,h1])
theorem yd(u:aa)(t:Bool):∀(k:Nat) (x:Nm) (row:List aa) (j:Nat),sD row j x→SizeOf.sizeOf x≤k→cQ x=true→PC 211 [.ay [u,.bool t] 0,.ay row j] (.bool (fC t x))
 |0,x,_,_,_,h,_=>by cases x; simp at h
 |k+1,x,row,j,hx,hk,hf=>by
  refine Qd hP jd rfl rfl ?_;unfold g211;rw[Pv];have hlen:=Q2 hf;rw[cM] at hlen;repeat first|refine Za (aj hx.h0) ?_|refine Za (aj hx.h1) ?_|refine Za (aj hx.h2) ?_|refine Za (aj hx.h3) ?_|refine Za (Qf ..) ?_|refine Za (aj (row:=[u,.bool t]) rfl) ?_|refine Za rfl ?_
  refine Qk λk11 jB=>?_;have bad:∀b1 b2 b3:Bool,(b1&&(b2&&b3))=false→aa.bool false=aa.bool (b1&&(b2&&b3)):=by
   intro b1 b2 b3 h; rw[h]
  have kk:∀(p o:Bool) (kd:Nat),kd=rq x.op→(0≤x.op∧x.op≤12)→(p&&o)=eV t x.op x.n x.aB→k11 [.bool p,.bool o,iv kd] []:=by
   rintro p o kd rfl qy Fv;rw[jB]; clear jB k11;repeat first|refine Za (aj hx.h0) ?_|refine Za (aj hx.h1) ?_|refine Za (aj hx.h2) ?_|refine Za (aj hx.h3) ?_|refine Za (Qf ..) ?_|refine Za (aj (row:=[u,.bool t]) rfl) ?_|refine Za rfl ?_
   cases p with
   |false=>
    repeat first|refine Xa ?_|refine Zb ?_|refine Qb rfl ?_|refine Yc rfl ?_|refine Yd rfl ?_|refine Xd rfl ?_|refine Za (aj hx.h0) ?_|refine Za (aj hx.h1) ?_|refine Za (aj hx.h2) ?_|refine Za (aj hx.h3) ?_|refine Za (Qf ..) ?_|refine Za (aj (row:=[u,.bool t]) rfl) ?_|refine Za rfl ?_
    refine Ye (bad _ _ _ ?_);rw[←Fv]; simp
   |true=>
    repeat first|refine Xa ?_|refine Zb ?_|refine Za (aj hx.h0) ?_|refine Za (aj hx.h1) ?_|refine Za (aj hx.h2) ?_|refine Za (aj hx.h3) ?_|refine Za (Qf ..) ?_|refine Za (aj (row:=[u,.bool t]) rfl) ?_|refine Za rfl ?_
    cases o with
    |false=>
     repeat first|refine Xa ?_|refine Zb ?_|refine Qb rfl ?_|refine Yc rfl ?_|refine Yd rfl ?_|refine Xd rfl ?_|refine Za (aj hx.h0) ?_|refine Za (aj hx.h1) ?_|refine Za (aj hx.h2) ?_|refine Za (aj hx.h3) ?_|refine Za (Qf ..) ?_|refine Za (aj (row:=[u,.bool t]) rfl) ?_|refine Za rfl ?_
     refine Ye (bad _ _ _ ?_);rw[←Fv]; simp
    |true=>
     repeat first|refine Xa ?_|refine Zb ?_|refine Za (aj hx.h0) ?_|refine Za (aj hx.h1) ?_|refine Za (aj hx.h2) ?_|refine Za (aj hx.h3) ?_|refine Za (Qf ..) ?_|refine Za (aj (row:=[u,.bool t]) rfl) ?_|refine Za rfl ?_
     refine Zc (λh=>bad _ _ _ ?_) (λh=>?_)
     ·have:gN t x.op x.n x.aB x.kids.length=false:=by
       rw[Bool.eq_false_iff]; intro hh; simp[gN] at hh; simp at h; omega
      rw[this]; rfl
     have ht:gN t x.op x.n x.aB x.kids.length=true:=by simp at h; simp[gN]; omega
     rw[ht,←Fv,Bool.true_and,Bool.and_self,Bool.and_true];repeat first|refine Za (aj hx.h0) ?_|refine Za (aj hx.h1) ?_|refine Za (aj hx.h2) ?_|refine Za (aj hx.h3) ?_|refine Za (Qf ..) ?_|refine Za (aj (row:=[u,.bool t]) rfl) ?_|refine Za rfl ?_
     refine Zl (ι:=Nat) (λi vs σ=>vs=[iv i]∧σ=[]∧i≤x.kids.length∧dt t x.kids=dt t (x.kids.drop i)) (λi=>x.kids.length-i) 0 ⟨rfl,rfl,by omega,by simp⟩ ?_;rintro i vs σ again ⟨rfl,rfl,hi,hu⟩ aM;refine Za rfl ?_;refine Zc (λh=>?_) (λh=>?_)
     ·have h:i<x.kids.length:=by simpa using h
      have cO:x.kids.drop i=x.kids[i]::x.kids.drop (i+1):=by rw[eD h]
      rw[cO,dt] at hu;have hm:x.kids[i]∈x.kids:=List.getElem_mem h;refine Za rfl (Za rfl (Za (aj hx.h3) (Za (Zp _ aP _ _ _ x.kids _ i h) ?_)));refine Qc (yd u t k _ _ 0 (Aw _) (by have:=zg hm; omega) (XU hf hm)) rfl jd.plain rfl ?_;refine Za rfl ?_;refine Zc (λh4=>?_) (λh4=>?_)
      ·have h4:fC t x.kids[i]=false:=by simpa using h4
       rw[hu,h4]; rfl
      ·have h4:fC t x.kids[i]=true:=by simpa using h4
       rw[h4,Bool.true_and] at hu;refine Za (Xk ..) ?_;rw[Zf (n:=i) (by omega)];exact aM (i+1) _ _ (by omega) ⟨rfl,rfl,by omega,hu⟩
     have h:i=x.kids.length:=by simp at h; omega
     subst h;rw[List.drop_length,dt] at hu;rw[hu]
  clear jB;repeat first|refine Za (aj hx.h0) ?_|refine Za (aj hx.h1) ?_|refine Za (aj hx.h2) ?_|refine Za (aj hx.h3) ?_|refine Za (Qf ..) ?_|refine Za (aj (row:=[u,.bool t]) rfl) ?_|refine Za rfl ?_
  refine Zc (λa0=>?_) (λa0=>?_)
  ·have a0:x.op=0:=by simpa using a0
   repeat first|refine Za (aj hx.h0) ?_|refine Za (aj hx.h1) ?_|refine Za (aj hx.h2) ?_|refine Za (aj hx.h3) ?_|refine Za (Qf ..) ?_|refine Za (aj (row:=[u,.bool t]) rfl) ?_|refine Za rfl ?_
   have e:eV t x.op x.n x.aB=((decide (0≤x.n)&&decide (x.n≤999))&&decide (x.aB=0)):=by simp[eV,a0,Bool.and_assoc]
   rcases aL (decide (x.n ≥ 0)) with h|h
   ·rw[h];repeat first|refine Xa ?_|refine Zb ?_|refine Za (aj hx.h0) ?_|refine Za (aj hx.h1) ?_|refine Za (aj hx.h2) ?_|refine Za (aj hx.h3) ?_|refine Za (Qf ..) ?_|refine Za (aj (row:=[u,.bool t]) rfl) ?_|refine Za rfl ?_
    refine kk _ _ 0 (by simp[rq,a0]) (by omega) ?_;simp at h; rw[e]; simp[h]
   ·rw[h];repeat first|refine Xa ?_|refine Zb ?_|refine Qb rfl ?_|refine Yc rfl ?_|refine Yd rfl ?_|refine Xd rfl ?_|refine Za (aj hx.h0) ?_|refine Za (aj hx.h1) ?_|refine Za (aj hx.h2) ?_|refine Za (aj hx.h3) ?_|refine Za (Qf ..) ?_|refine Za (aj (row:=[u,.bool t]) rfl) ?_|refine Za rfl ?_
    refine kk _ _ 0 (by simp[rq,a0]) (by omega) ?_;simp at h; rw[e]; simp; intro h1; omega
  have a0:x.op≠0:=by simpa using a0
  repeat first|refine Za (aj hx.h0) ?_|refine Za (aj hx.h1) ?_|refine Za (aj hx.h2) ?_|refine Za (aj hx.h3) ?_|refine Za (Qf ..) ?_|refine Za (aj (row:=[u,.bool t]) rfl) ?_|refine Za rfl ?_
  refine Qk λk25 zW=>?_;have m1:∀c,c=decide (x.op=1∨x.op=2∨x.op=3∨x.op=4)→k25 [.bool c] []:=by
   rintro c hc;rw[zW]; clear zW k25;refine Zc (λh=>?_) (λh=>?_)
   ·rw[h] at hc;have a1:x.op=1∨x.op=2∨x.op=3∨x.op=4:=by simpa using hc.symm
    repeat first|refine Za (aj hx.h0) ?_|refine Za (aj hx.h1) ?_|refine Za (aj hx.h2) ?_|refine Za (aj hx.h3) ?_|refine Za (Qf ..) ?_|refine Za (aj (row:=[u,.bool t]) rfl) ?_|refine Za rfl ?_
    refine Qc (c212 _) rfl gV.plain rfl ?_;refine kk _ _ 0 (by simp[rq]; omega) (by omega) ?_;rw[eV,if_neg a0,if_pos (by omega)]
   rw[h] at hc;have a1:¬(x.op=1∨x.op=2∨x.op=3∨x.op=4):=by simpa using hc.symm
   have e:eV t x.op x.n x.aB=(decide (x.n=0)&&(decide (x.aB=0)&&(decide (x.op≠7)||t)))∨¬(0≤x.op∧x.op≤12):=by
    by_cases hr:0≤x.op∧x.op≤12
    ·left; rw[eV,if_neg a0,if_neg (by omega)]
    ·right; exact hr
   repeat first|refine Za (aj hx.h0) ?_|refine Za (aj hx.h1) ?_|refine Za (aj hx.h2) ?_|refine Za (aj hx.h3) ?_|refine Za (Qf ..) ?_|refine Za (aj (row:=[u,.bool t]) rfl) ?_|refine Za rfl ?_
   refine Qk λk35 zX=>?_;have m2:∀c,c=decide (x.op=5∨x.op=6)→k35 [.bool c] []:=by
    rintro c hc;rw[zX]; clear zX k35;refine Zc (λh=>?_) (λh=>?_)
    ·rw[h] at hc;have a2:x.op=5∨x.op=6:=by simpa using hc.symm
     refine kk _ _ 0 (by simp[rq]; omega) (by omega) ?_;rcases e with e|e
     ·rw[e]; simp[show x.op≠7 by omega]
     ·omega
    rw[h] at hc;have a2:¬(x.op=5∨x.op=6):=by simpa using hc.symm
    repeat first|refine Za (aj hx.h0) ?_|refine Za (aj hx.h1) ?_|refine Za (aj hx.h2) ?_|refine Za (aj hx.h3) ?_|refine Za (Qf ..) ?_|refine Za (aj (row:=[u,.bool t]) rfl) ?_|refine Za rfl ?_
    refine Zc (λa3=>?_) (λa3=>?_)
    ·have a3:x.op=7:=by simpa using a3
     rcases e with e|e
     ·rcases aL (decide (x.aB=0)) with h|h
      ·rw[h];repeat first|refine Xa ?_|refine Zb ?_|refine Za (aj hx.h0) ?_|refine Za (aj hx.h1) ?_|refine Za (aj hx.h2) ?_|refine Za (aj hx.h3) ?_|refine Za (Qf ..) ?_|refine Za (aj (row:=[u,.bool t]) rfl) ?_|refine Za rfl ?_
       refine kk _ _ 0 (by simp[rq,a3]) (by omega) ?_;rw[e,h]; simp[a3]
      ·rw[h];repeat first|refine Xa ?_|refine Zb ?_|refine Qb rfl ?_|refine Yc rfl ?_|refine Yd rfl ?_|refine Xd rfl ?_|refine Za (aj hx.h0) ?_|refine Za (aj hx.h1) ?_|refine Za (aj hx.h2) ?_|refine Za (aj hx.h3) ?_|refine Za (Qf ..) ?_|refine Za (aj (row:=[u,.bool t]) rfl) ?_|refine Za rfl ?_
       refine kk _ _ 0 (by simp[rq,a3]) (by omega) ?_;rw[e,h]; simp
     ·omega
    have a3:x.op≠7:=by simpa using a3
    repeat first|refine Za (aj hx.h0) ?_|refine Za (aj hx.h1) ?_|refine Za (aj hx.h2) ?_|refine Za (aj hx.h3) ?_|refine Za (Qf ..) ?_|refine Za (aj (row:=[u,.bool t]) rfl) ?_|refine Za rfl ?_
    refine Qk λk45 zZ=>?_;have m3:∀c,c=decide (x.op=8∨x.op=9∨x.op=10∨x.op=11∨x.op=12)→k45 [.bool c] []:=by
     rintro c hc;rw[zZ]; clear zZ k45;refine Zc (λh=>?_) (λh=>?_)
     ·rw[h] at hc;have a4:x.op=8∨x.op=9∨x.op=10∨x.op=11∨x.op=12:=by simpa using hc.symm
      refine kk _ _ 2 (by simp[rq]; omega) (by omega) ?_;rcases e with e|e
      ·rw[e]; simp[a3]
      ·omega
     ·rw[h] at hc;have a4:¬(x.op=8∨x.op=9∨x.op=10∨x.op=11∨x.op=12):=by simpa using hc.symm
      refine bad _ _ _ ?_;have:gN t x.op x.n x.aB x.kids.length=false:=by
       rw[Bool.eq_false_iff]; intro hh; simp[gN] at hh; omega
      rw[this]; rfl
    clear zZ;refine Zc (λc1=>m3 _ ?_) (λc1=>?_)
    ·simp at c1; simp[c1]
    refine Za (Qf ..) (Zc (λc2=>m3 _ ?_) (λc2=>?_))
    ·simp at c2; simp[c2]
    refine Za (Qf ..) (Zc (λc3=>m3 _ ?_) (λc3=>?_))
    ·simp at c3; simp[c3]
    refine Za (Qf ..) (Zc (λc4=>m3 _ ?_) (λc4=>?_))
    ·simp at c4; simp[c4]
    refine Za (Qf ..) (m3 _ ?_);simp at c1 c2 c3 c4; simp[c1,c2,c3,c4]
   clear zX;refine Zc (λc1=>m2 _ ?_) (λc1=>?_)
   ·simp at c1; simp[c1]
   refine Za (Qf ..) (m2 _ ?_);simp at c1; simp[c1]
  clear zW;refine Zc (λc1=>m1 _ ?_) (λc1=>?_)
  ·simp at c1; simp[c1]
  refine Za (Qf ..) (Zc (λc2=>m1 _ ?_) (λc2=>?_))
  ·simp at c2; simp[c2]
  refine Za (Qf ..) (Zc (λc3=>m1 _ ?_) (λc3=>?_))
  ·simp at c3; simp[c3]
  refine Za (Qf ..) (m1 _ ?_);simp at c1 c2 c3; simp[c1,c2,c3]
theorem c211(u:aa)(t:Bool)(x:Nm)(row:List aa)(j:Nat)(hx:sD row j x)(hf:cQ x=true):PC 211 [.ay [u,.bool t] 0,.ay row j] (.bool (fC t x)):=yd u t _ x row j hx (Nat.le_refl _) hf
end Go.Ah.Tz
end
section
namespace Go.Ah.Tz
open Go.Proofs.Tryz (prog)
def bg(t:Tx):List (Tx×Bool)→Option Bool
 |[]=>none
 |p::l=>if t==p.1 then some p.2 else bg t l
def hO(l:List (Tx×Bool)):List (aa×aa):=l.map λp=>(aa.str p.1,aa.bool p.2)
theorem X7(t:Tx):∀l,gD (.str t) (hO l)=some ((bg t l).map aa.bool)
 |[]=>rfl
 |p::l=>by
  simp only[hO,List.map_cons,gD,gL,bg];cases h:t==p.1 with
  |true=>rfl
  |false=>exact X7 t l
def bI(l:List (Tx×Bool))(t:Bool):List aa:=[.dZ (hO l),.bool t]
theorem ZU(l:List (Tx×Bool))(t:Tx)(σ:List ab):Qr true true (.bool false) [.dZ (hO l),.str t] σ=.ok (.aG [.bool ((bg t l).getD false),.bool (bg t l).isSome]) [] []:=by
 show (match gD (.str t) (hO l) with
  |some r=>az.ok (jo true (.bool false) r) [] []
  | none=>.stop)=_
 rw[X7];cases bg t l<;>rfl
theorem Yn(l:List (Tx×Bool))(t:Tx)(σ:List ab):Qr true false (.bool false) [.dZ (hO l),.str t] σ=.ok (.bool ((bg t l).getD false)) [] []:=by
 show (match gD (.str t) (hO l) with
  |some r=>az.ok (jo false (.bool false) r) [] []
  | none=>.stop)=_
 rw[X7];cases bg t l<;>rfl
def mE(l:List (Tx×Bool))(cs:List Cd):Prop:=∀t u,eQ cs t u=match bg t l with
 |none=>false
 |some b=>b || !u
structure sB (row:List aa) (j:Nat) (x:Cn):Prop where
 h0:aF false (j+0) 1 row=some (ar x.op)
 h1:aF false (j+1) 1 row=some (ar x.aB)
 h2:aF false (j+2) 1 row=some (.str x.name)
 h3:aF false (j+3) 1 row=some (.ax false false 4 (x.aw.map aP))
 h4:aF false (j+4) 1 row=some (.ax false false 5 (x.kids.map b_))
theorem Es(x:Cn):sB (b_ x) 0 x:=by rw[XH]; exact⟨rfl,rfl,rfl,rfl,rfl⟩
theorem yl(x:Ef):sB (aX x) 7 x.c:=by rw[QH]; exact⟨rfl,rfl,rfl,rfl,rfl⟩
attribute [local irreducible] al.rd al.pu al.wr al.dr al.gr al.gw al.gl al.gd al.opt au W
set_option maxHeartbeats 1000000
theorem SD{P:Program}{GL:aA}{c d:Bool}{K:aa→Prop}{r1:az}{f2 f3 f4 f5:aa→az}{σ:List ab}{v1 v2 v3 v4:aa}{q1 q2 q3 q4 q5:List Nat}(h1:r1=.ok v1 q1 [])(h2:f2 v1=.ok v2 q2 [])(h3:f3 v2=.ok v3 q3 [])(h4:f4 v3=.ok v4 q4 [])(h5:f5 v4=.ok (.bool d) q5 [])(hK:K (.bool (c&&d))) :
  (W P GL).gr (.bool c) true (λk=>(W P GL).rd r1 k) λt1=>(W P GL).gr (.bool c) true (λk=>(W P GL).rd (f2 t1) k) λt2=>(W P GL).gr (.bool c) true (λk=>(W P GL).rd (f3 t2) k) λt3=>(W P GL).gr (.bool c) true (λk=>(W P GL).rd (f4 t3) k) λt4=>(W P GL).gr (.bool c) true (λk=>(W P GL).rd (f5 t4) k) λt5=>(W P GL).rd (Xo [.bool c,t5,.bool false] σ) K:=by
 cases c with
 |true=>exact Xa (Za h1 (Xa (Za h2 (Xa (Za h3 (Xa (Za h4 (Xa (Za h5 (Za rfl hK))))))))))
 |false=>exact Qb rfl (Qb rfl (Qb rfl (Qb rfl (Qb rfl (Za rfl hK)))))
theorem ye(l:List (Tx×Bool))(cs:List Cd)(hU:mE l cs)(t:Bool):∀(k:Nat) (x:Cn) (row:List aa) (j:Nat),sB row j x→SizeOf.sizeOf x≤k→cy x=true→PC 213 [.ay (bI l t) 0,.ay row j] (.bool (iq cs t x))
 |0,x,_,_,_,h,_=>by cases x; simp at h
 |k+1,x,row,j,hx,hk,hf=>by
  refine Qd hP kl rfl rfl ?_;unfold g213;rw[O7];have ik:=YL hf;have eR:=ZL hf;rw[cM] at ik eR;refine Za rfl (Za rfl (Za (aj hx.h1) (Za (Qf ..) ?_)));refine SD rfl rfl rfl (aj hx.h2) (Xg ..) ?_;refine Za rfl (Za rfl (Za (aj hx.h0) ?_));have bad:∀b1 b2 b3 b4:Bool,(b1&&(b2&&(b3&&b4)))=false→aa.bool false=aa.bool (b1&&(b2&&(b3&&b4))):=by
   intro b1 b2 b3 b4 h; rw[h]
  have zm:¬(0≤x.op∧x.op≤6∧x.aw.length=jf x.op∧x.kids.length=jU x.op)→aa.bool false=aa.bool (ic x.op x.aw.length x.kids.length&&(dt t x.aw&&(gJ cs t x.kids&&gI cs x.op x.aB x.name))):=by
   intro hn;have:ic x.op x.aw.length x.kids.length=false:=by
    rw[Bool.eq_false_iff]; intro hh; simp[ic] at hh; exact hn hh
   rw[this]; rfl
  refine Qk λk13 zU=>?_;have kk:∀(ok:Bool) (k3 k4:Nat),k3=jf x.op→k4=jU x.op→(0≤x.op∧x.op≤6)→ok=gI cs x.op x.aB x.name→k13 [.bool ok,iv k3,iv k4] []:=by
   rintro ok k3 k4 rfl rfl qy de;rw[zU]; clear zU k13;repeat first|refine Za (aj hx.h0) ?_|refine Za (aj hx.h1) ?_|refine Za (aj hx.h2) ?_|refine Za (aj hx.h3) ?_|refine Za (aj hx.h4) ?_|refine Za (Qf ..) ?_|refine Za (Xg ..) ?_|refine Za (aj (row:=bI l t) rfl) ?_|refine Za (ZU ..) ?_|refine Za rfl ?_
   cases ok with
   |false=>
    repeat first|refine Xa ?_|refine Zb ?_|refine Qb rfl ?_|refine Yc rfl ?_|refine Yd rfl ?_|refine Xd rfl ?_|refine Za (aj hx.h0) ?_|refine Za (aj hx.h1) ?_|refine Za (aj hx.h2) ?_|refine Za (aj hx.h3) ?_|refine Za (aj hx.h4) ?_|refine Za (Qf ..) ?_|refine Za (Xg ..) ?_|refine Za (aj (row:=bI l t) rfl) ?_|refine Za (ZU ..) ?_|refine Za rfl ?_
    refine Ye (bad _ _ _ _ ?_);rw[←de]; simp
   |true=>
    repeat first|refine Xa ?_|refine Zb ?_|refine Za (aj hx.h0) ?_|refine Za (aj hx.h1) ?_|refine Za (aj hx.h2) ?_|refine Za (aj hx.h3) ?_|refine Za (aj hx.h4) ?_|refine Za (Qf ..) ?_|refine Za (Xg ..) ?_|refine Za (aj (row:=bI l t) rfl) ?_|refine Za (ZU ..) ?_|refine Za rfl ?_
    rcases aL (((x.aw.map aP).length:Int) != (jf x.op:Int)) with h3|h3
    ·rw[h3];repeat first|refine Xa ?_|refine Zb ?_|refine Qb rfl ?_|refine Yc rfl ?_|refine Yd rfl ?_|refine Xd rfl ?_|refine Za (aj hx.h0) ?_|refine Za (aj hx.h1) ?_|refine Za (aj hx.h2) ?_|refine Za (aj hx.h3) ?_|refine Za (aj hx.h4) ?_|refine Za (Qf ..) ?_|refine Za (Xg ..) ?_|refine Za (aj (row:=bI l t) rfl) ?_|refine Za (ZU ..) ?_|refine Za rfl ?_
     refine Ye (zm ?_);simp at h3; omega
    rw[h3];repeat first|refine Xa ?_|refine Zb ?_|refine Za (aj hx.h0) ?_|refine Za (aj hx.h1) ?_|refine Za (aj hx.h2) ?_|refine Za (aj hx.h3) ?_|refine Za (aj hx.h4) ?_|refine Za (Qf ..) ?_|refine Za (Xg ..) ?_|refine Za (aj (row:=bI l t) rfl) ?_|refine Za (ZU ..) ?_|refine Za rfl ?_
    refine Zc (λh4=>zm ?_) (λh4=>?_)
    ·simp at h4; omega
    simp at h3 h4;have ht:ic x.op x.aw.length x.kids.length=true:=by simp[ic]; omega
    rw[ht,←de,Bool.true_and,Bool.and_true];repeat first|refine Za (aj hx.h0) ?_|refine Za (aj hx.h1) ?_|refine Za (aj hx.h2) ?_|refine Za (aj hx.h3) ?_|refine Za (aj hx.h4) ?_|refine Za (Qf ..) ?_|refine Za (Xg ..) ?_|refine Za (aj (row:=bI l t) rfl) ?_|refine Za (ZU ..) ?_|refine Za rfl ?_
    refine Zl (ι:=Nat) (λi vs σ=>vs=[iv i]∧σ=[]∧i≤x.aw.length∧dt t x.aw=dt t (x.aw.drop i)) (λi=>x.aw.length-i) 0 ⟨rfl,rfl,by omega,by simp⟩ ?_;rintro i vs σ again ⟨rfl,rfl,hi,hu⟩ aM;refine Za rfl ?_;refine Zc (λh=>?_) (λh=>?_)
    ·have h:i<x.aw.length:=by simpa using h
     have cO:x.aw.drop i=x.aw[i]::x.aw.drop (i+1):=by rw[eD h]
     rw[cO,dt] at hu;have hm:x.aw[i]∈x.aw:=List.getElem_mem h;refine Za rfl (Za rfl (Za (aj hx.h3) (Za (Zp _ aP _ _ _ x.aw _ i h) ?_)));refine Qc (c211 _ t _ _ 0 (Aw _) (ZT hf hm)) rfl jd.plain rfl ?_;refine Za rfl ?_;refine Zc (λh4=>?_) (λh4=>?_)
     ·have h4:fC t x.aw[i]=false:=by simpa using h4
      rw[hu,h4]; rfl
     ·have h4:fC t x.aw[i]=true:=by simpa using h4
      rw[h4,Bool.true_and] at hu;refine Za (Xk ..) ?_;rw[Zf (n:=i) (by omega)];exact aM (i+1) _ _ (by omega) ⟨rfl,rfl,by omega,hu⟩
    have h:i=x.aw.length:=by simp at h; omega
    subst h;rw[List.drop_length,dt] at hu;rw[hu,Bool.true_and];clear aM hu hi;repeat first|refine Za (aj hx.h0) ?_|refine Za (aj hx.h1) ?_|refine Za (aj hx.h2) ?_|refine Za (aj hx.h3) ?_|refine Za (aj hx.h4) ?_|refine Za (Qf ..) ?_|refine Za (Xg ..) ?_|refine Za (aj (row:=bI l t) rfl) ?_|refine Za (ZU ..) ?_|refine Za rfl ?_
    refine Zl (ι:=Nat) (λi vs s=>vs=[iv i]∧s=[]∧i≤x.kids.length∧gJ cs t x.kids=gJ cs t (x.kids.drop i)) (λi=>x.kids.length-i) 0 ⟨rfl,rfl,by omega,by simp⟩ ?_;rintro i vs s again ⟨rfl,rfl,hi,hu⟩ aM;refine Za rfl ?_;refine Zc (λh=>?_) (λh=>?_)
    ·have h:i<x.kids.length:=by simpa using h
     have cO:x.kids.drop i=x.kids[i]::x.kids.drop (i+1):=by rw[eD h]
     rw[cO,gJ] at hu;have hm:x.kids[i]∈x.kids:=List.getElem_mem h;refine Za rfl (Za rfl (Za (aj hx.h4) (Za (Zp _ b_ _ _ _ x.kids _ i h) ?_)));refine Qc (ye l cs hU t k _ _ 0 (Es _) (by have:=zj hm; omega) (QS hf hm)) rfl kl.plain rfl ?_;refine Za rfl ?_;refine Zc (λh4=>?_) (λh4=>?_)
     ·have h4:iq cs t x.kids[i]=false:=by simpa using h4
      rw[hu,h4]; rfl
     ·have h4:iq cs t x.kids[i]=true:=by simpa using h4
      rw[h4,Bool.true_and] at hu;refine Za (Xk ..) ?_;rw[Zf (n:=i) (by omega)];exact aM (i+1) _ _ (by omega) ⟨rfl,rfl,by omega,hu⟩
    have h:i=x.kids.length:=by simp at h; omega
    subst h;rw[List.drop_length,gJ] at hu;rw[hu]
  clear zU;have e6:x.op≠6→(decide (x.aB=0)&&(x.name==[]))=gI cs x.op x.aB x.name:=by
   intro h; rw[gI,if_neg h]
  refine Za (Qf ..) ?_;refine Qk λk1 eN=>?_;have m1:∀c,c=decide (x.op=0∨x.op=1∨x.op=2)→k1 [.bool c] []:=by
   rintro c hc;rw[eN]; clear eN k1;refine Zc (λh=>?_) (λh=>?_)
   ·rw[h] at hc;have a1:x.op=0∨x.op=1∨x.op=2:=by simpa using hc.symm
    exact kk _ 2 0 (by simp[jf]; omega) (by unfold jU; split<;>(try split)<;>omega) (by omega) (e6 (by omega))
   rw[h] at hc;have a1:¬(x.op=0∨x.op=1∨x.op=2):=by simpa using hc.symm
   refine Za (Qf ..) (Zc (λa3=>?_) (λa3=>?_))
   ·have a3:x.op=3:=by simpa using a3
    exact kk _ 0 1 (by simp[jf]; omega) (by unfold jU; split<;>(try split)<;>omega) (by omega) (e6 (by omega))
   have a3:x.op≠3:=by simpa using a3
   refine Za (Qf ..) ?_;refine Qk λk1 eN=>?_;have m2:∀c,c=decide (x.op=4∨x.op=5)→k1 [.bool c] []:=by
    rintro c hc;rw[eN]; clear eN k1;refine Zc (λh=>?_) (λh=>?_)
    ·rw[h] at hc;have a1:x.op=4∨x.op=5:=by simpa using hc.symm
     exact kk _ 0 2 (by simp[jf]; omega) (by unfold jU; split<;>(try split)<;>omega) (by omega) (e6 (by omega))
    rw[h] at hc;have a4:¬(x.op=4∨x.op=5):=by simpa using hc.symm
    refine Za (Qf ..) (Zc (λa6=>?_) (λa6=>?_))
    ·have a6:x.op=6:=by simpa using a6
     repeat first|refine Za (aj hx.h0) ?_|refine Za (aj hx.h1) ?_|refine Za (aj hx.h2) ?_|refine Za (aj hx.h3) ?_|refine Za (aj hx.h4) ?_|refine Za (Qf ..) ?_|refine Za (Xg ..) ?_|refine Za (aj (row:=bI l t) rfl) ?_|refine Za (ZU ..) ?_|refine Za rfl ?_
     have E0:=hU x.name false;have e:gI cs x.op x.aB x.name=((bg x.name l).isSome&&fi x.aB):=by
      rw[gI,if_pos a6,E0];cases bg x.name l<;>simp
     rcases aL (bg x.name l).isSome with h|h
     ·rw[h];repeat first|refine Xa ?_|refine Zb ?_|refine Za (aj hx.h0) ?_|refine Za (aj hx.h1) ?_|refine Za (aj hx.h2) ?_|refine Za (aj hx.h3) ?_|refine Za (aj hx.h4) ?_|refine Za (Qf ..) ?_|refine Za (Xg ..) ?_|refine Za (aj (row:=bI l t) rfl) ?_|refine Za (ZU ..) ?_|refine Za rfl ?_
      refine Qc (c212 _) rfl gV.plain rfl ?_;repeat first|refine Xa ?_|refine Zb ?_|refine Za (aj hx.h0) ?_|refine Za (aj hx.h1) ?_|refine Za (aj hx.h2) ?_|refine Za (aj hx.h3) ?_|refine Za (aj hx.h4) ?_|refine Za (Qf ..) ?_|refine Za (Xg ..) ?_|refine Za (aj (row:=bI l t) rfl) ?_|refine Za (ZU ..) ?_|refine Za rfl ?_
      exact kk _ 0 0 (by simp[jf]; omega) (by unfold jU; split<;>(try split)<;>omega) (by omega) (by rw[e,h,Bool.true_and])
     ·rw[h];repeat first|refine Xa ?_|refine Zb ?_|refine Qb rfl ?_|refine Yc rfl ?_|refine Yd rfl ?_|refine Xd rfl ?_|refine Za (aj hx.h0) ?_|refine Za (aj hx.h1) ?_|refine Za (aj hx.h2) ?_|refine Za (aj hx.h3) ?_|refine Za (aj hx.h4) ?_|refine Za (Qf ..) ?_|refine Za (Xg ..) ?_|refine Za (aj (row:=bI l t) rfl) ?_|refine Za (ZU ..) ?_|refine Za rfl ?_
      exact kk _ 0 0 (by simp[jf]; omega) (by unfold jU; split<;>(try split)<;>omega) (by omega) (by rw[e,h,Bool.false_and])
    ·have a6:x.op≠6:=by simpa using a6
     exact zm (by omega)
   clear eN;refine Zc (λc1=>m2 _ ?_) (λc1=>?_)
   ·simp at c1; simp[c1]
   refine Za (Qf ..) (m2 _ ?_);simp at c1; simp[c1]
  clear eN;refine Zc (λc1=>m1 _ ?_) (λc1=>?_)
  ·simp at c1; simp[c1]
  refine Za (Qf ..) (Zc (λc2=>m1 _ ?_) (λc2=>?_))
  ·simp at c2; simp[c2]
  refine Za (Qf ..) (m1 _ ?_);simp at c1 c2; simp[c1,c2]
theorem c213(l:List (Tx×Bool))(cs:List Cd)(hU:mE l cs)(t:Bool)(x:Cn)(row:List aa)(j:Nat)(hx:sB row j x)(hf:cy x=true):PC 213 [.ay (bI l t) 0,.ay row j] (.bool (iq cs t x)):=ye l cs hU t _ x row j hx (Nat.le_refl _) hf
end Go.Ah.Tz
end
section
namespace Go.Ah.Tz
open Go.Proofs.Tryz (prog)
def fx(x:Ef):Bool:=((aU x.op||c_ x.n)&&(decide (x.op=7)||x.name==[]))&&(decide (x.op=8)||(decide (x.c.op=0)&&(decide (x.c.aB=0)&&(x.c.name==[]&&decide (x.c.aw.length+x.c.kids.length+x.bk.length+x.br.length=0)))))
attribute [local irreducible] al.rd al.pu al.wr al.dr al.gr al.gw al.gl al.gd al.opt au W
set_option maxHeartbeats 2000000
theorem c209(x:Ef)(hf:cX x=true):PC 209 [.ay (aX x) 0] (.bool (fx x)):=by
 have l1:=YL (YZ hf);have l2:=ZL (YZ hf);have l3:=ZC (QI hf);have l4:=ZC (XI hf);rw[cM] at l1 l2 l3 l4;rw[QH];refine Qd hP lT rfl rfl ?_;unfold g209;repeat first|refine Za (Qf ..) ?_|refine Za (Xg ..) ?_|refine Za (aj (row:=[ar x.op,ar x.aB,ar x.n.op,iv x.n.n,ar x.n.aB,.ax false false 4 (x.n.kids.map aP),.str x.name,ar x.c.op,ar x.c.aB,.str x.c.name,.ax false false 4 (x.c.aw.map aP),.ax false false 5 (x.c.kids.map b_),.ax false false 14 (x.bk.map aX),.ax false false 14 (x.br.map aX)]) rfl) ?_|refine Za rfl ?_
 refine Qc (c210 _) rfl jc.plain rfl ?_;have r1:∀K:aa→Prop,K (.bool (aU x.op||c_ x.n))→VV.gr (aa.bool (aU x.op)) false (λk=>VV.rd (Qi [(aa.ay [ar x.op,ar x.aB,ar x.n.op,iv x.n.n,ar x.n.aB,.ax false false 4 (x.n.kids.map aP),.str x.name,ar x.c.op,ar x.c.aB,.str x.c.name,.ax false false 4 (x.c.aw.map aP),.ax false false 5 (x.c.kids.map b_),.ax false false 14 (x.bk.map aX),.ax false false 14 (x.br.map aX)] 0)] ([]:List ab)) k) λu9=>VV.gr (aa.bool (aU x.op)) false (λk=>VV.rd (Qa [u9] ([]:List ab)) k) λu_=>VV.gr (aa.bool (aU x.op)) false (λk=>VV.rd (Ya 2 [u_] ([]:List ab)) k) λvb=>VV.gr (aa.bool (aU x.op)) false (λk=>VV.rd (Ya 0 [vb] ([]:List ab)) k) λGf=>VV.gr (aa.bool (aU x.op)) false (λk=>VV.rd (Zd false 1 [Gf] ([]:List ab)) k) λGh=>VV.gr (aa.bool (aU x.op)) false (λk=>VV.rd (Yj .eql false [Gh,(.int .i8 0)] ([]:List ab)) k) λGj=>VV.gr (aa.bool (aU x.op)) false (λk=>VV.rd (Qi [Gj] ([]:List ab)) k) λjK=>VV.gr jK true (λk=>VV.rd (Qi [(aa.ay [ar x.op,ar x.aB,ar x.n.op,iv x.n.n,ar x.n.aB,.ax false false 4 (x.n.kids.map aP),.str x.name,ar x.c.op,ar x.c.aB,.str x.c.name,.ax false false 4 (x.c.aw.map aP),.ax false false 5 (x.c.kids.map b_),.ax false false 14 (x.bk.map aX),.ax false false 14 (x.br.map aX)] 0)] ([]:List ab)) k) λAA=>VV.gr jK true (λk=>VV.rd (Qa [AA] ([]:List ab)) k) λAB=>VV.gr jK true (λk=>VV.rd (Ya 2 [AB] ([]:List ab)) k) λAD=>VV.gr jK true (λk=>VV.rd (Ya 1 [AD] ([]:List ab)) k) λAE=>VV.gr jK true (λk=>VV.rd (Zd false 1 [AE] ([]:List ab)) k) λAF=>VV.gr jK true (λk=>VV.rd (Yj .eql false [AF,(.int .i64 0)] ([]:List ab)) k) λAH=>VV.gr (aa.bool (aU x.op)) false (λk=>VV.rd (Xo [jK,AH,(.bool false)] ([]:List ab)) k) λrC=>VV.gr (aa.bool (aU x.op)) false (λk=>VV.rd (Qi [rC] ([]:List ab)) k) λjL=>VV.gr jL true (λk=>VV.rd (Qi [(aa.ay [ar x.op,ar x.aB,ar x.n.op,iv x.n.n,ar x.n.aB,.ax false false 4 (x.n.kids.map aP),.str x.name,ar x.c.op,ar x.c.aB,.str x.c.name,.ax false false 4 (x.c.aw.map aP),.ax false false 5 (x.c.kids.map b_),.ax false false 14 (x.bk.map aX),.ax false false 14 (x.br.map aX)] 0)] ([]:List ab)) k) λAM=>VV.gr jL true (λk=>VV.rd (Qa [AM] ([]:List ab)) k) λAO=>VV.gr jL true (λk=>VV.rd (Ya 2 [AO] ([]:List ab)) k) λAR=>VV.gr jL true (λk=>VV.rd (Ya 2 [AR] ([]:List ab)) k) λvh=>VV.gr jL true (λk=>VV.rd (Zd false 1 [vh] ([]:List ab)) k) λAY=>VV.gr jL true (λk=>VV.rd (Yj .eql false [AY,(.int .i8 0)] ([]:List ab)) k) λA0=>VV.gr (aa.bool (aU x.op)) false (λk=>VV.rd (Xo [jL,A0,(.bool false)] ([]:List ab)) k) λA2=>VV.gr (aa.bool (aU x.op)) false (λk=>VV.rd (Qi [A2] ([]:List ab)) k) λiT=>VV.gr iT true (λk=>VV.rd (Qi [(aa.ay [ar x.op,ar x.aB,ar x.n.op,iv x.n.n,ar x.n.aB,.ax false false 4 (x.n.kids.map aP),.str x.name,ar x.c.op,ar x.c.aB,.str x.c.name,.ax false false 4 (x.c.aw.map aP),.ax false false 5 (x.c.kids.map b_),.ax false false 14 (x.bk.map aX),.ax false false 14 (x.br.map aX)] 0)] ([]:List ab)) k) λA7=>VV.gr iT true (λk=>VV.rd (Qa [A7] ([]:List ab)) k) λA9=>VV.gr iT true (λk=>VV.rd (Ya 2 [A9] ([]:List ab)) k) λA'=>VV.gr iT true (λk=>VV.rd (Ya 3 [A'] ([]:List ab)) k) λBb=>VV.gr iT true (λk=>VV.rd (Zd false 1 [Bb] ([]:List ab)) k) λBd=>VV.gr iT true (λk=>VV.rd (Yf [Bd] ([]:List ab)) k) λBf=>VV.gr iT true (λk=>VV.rd (Yj .eql false [Bf,(.int .i64 0)] ([]:List ab)) k) λBg=>VV.gr (aa.bool (aU x.op)) false (λk=>VV.rd (Xo [iT,Bg,(.bool false)] ([]:List ab)) k) λBi=>VV.rd (Xo [(aa.bool (aU x.op)),(.bool true),Bi] ([]:List ab)) K:=by
  intro K hK;rcases aL (aU x.op) with h0|h0
  ·rw[h0] at hK ⊢;repeat first|refine Xa ?_|refine Zb ?_|refine Qb rfl ?_|refine Yc rfl ?_|refine Yd rfl ?_|refine Xd rfl ?_|refine Za (Qf ..) ?_|refine Za (Xg ..) ?_|refine Za (aj (row:=[ar x.op,ar x.aB,ar x.n.op,iv x.n.n,ar x.n.aB,.ax false false 4 (x.n.kids.map aP),.str x.name,ar x.c.op,ar x.c.aB,.str x.c.name,.ax false false 4 (x.c.aw.map aP),.ax false false 5 (x.c.kids.map b_),.ax false false 14 (x.bk.map aX),.ax false false 14 (x.br.map aX)]) rfl) ?_|refine Za rfl ?_
   exact hK
  rw[h0,Bool.false_or] at hK;rw[h0];repeat first|refine Xa ?_|refine Zb ?_|refine Za (Qf ..) ?_|refine Za (Xg ..) ?_|refine Za (aj (row:=[ar x.op,ar x.aB,ar x.n.op,iv x.n.n,ar x.n.aB,.ax false false 4 (x.n.kids.map aP),.str x.name,ar x.c.op,ar x.c.aB,.str x.c.name,.ax false false 4 (x.c.aw.map aP),.ax false false 5 (x.c.kids.map b_),.ax false false 14 (x.bk.map aX),.ax false false 14 (x.br.map aX)]) rfl) ?_|refine Za rfl ?_
  rcases aL (decide (x.n.op=0)) with h1|h1
  rotate_left
  ·rw[h1];repeat first|refine Xa ?_|refine Zb ?_|refine Qb rfl ?_|refine Yc rfl ?_|refine Yd rfl ?_|refine Xd rfl ?_|refine Za (Qf ..) ?_|refine Za (Xg ..) ?_|refine Za (aj (row:=[ar x.op,ar x.aB,ar x.n.op,iv x.n.n,ar x.n.aB,.ax false false 4 (x.n.kids.map aP),.str x.name,ar x.c.op,ar x.c.aB,.str x.c.name,.ax false false 4 (x.c.aw.map aP),.ax false false 5 (x.c.kids.map b_),.ax false false 14 (x.bk.map aX),.ax false false 14 (x.br.map aX)]) rfl) ?_|refine Za rfl ?_
   rw[show c_ x.n=false by simp at h1; simp[c_,h1]] at hK;exact hK
  rw[h1];repeat first|refine Xa ?_|refine Zb ?_|refine Za (Qf ..) ?_|refine Za (Xg ..) ?_|refine Za (aj (row:=[ar x.op,ar x.aB,ar x.n.op,iv x.n.n,ar x.n.aB,.ax false false 4 (x.n.kids.map aP),.str x.name,ar x.c.op,ar x.c.aB,.str x.c.name,.ax false false 4 (x.c.aw.map aP),.ax false false 5 (x.c.kids.map b_),.ax false false 14 (x.bk.map aX),.ax false false 14 (x.br.map aX)]) rfl) ?_|refine Za rfl ?_
  rcases aL (decide (x.n.n=0)) with h2|h2
  rotate_left
  ·rw[h2];repeat first|refine Xa ?_|refine Zb ?_|refine Qb rfl ?_|refine Yc rfl ?_|refine Yd rfl ?_|refine Xd rfl ?_|refine Za (Qf ..) ?_|refine Za (Xg ..) ?_|refine Za (aj (row:=[ar x.op,ar x.aB,ar x.n.op,iv x.n.n,ar x.n.aB,.ax false false 4 (x.n.kids.map aP),.str x.name,ar x.c.op,ar x.c.aB,.str x.c.name,.ax false false 4 (x.c.aw.map aP),.ax false false 5 (x.c.kids.map b_),.ax false false 14 (x.bk.map aX),.ax false false 14 (x.br.map aX)]) rfl) ?_|refine Za rfl ?_
   rw[show c_ x.n=false by simp at h2; simp[c_,h2]] at hK;exact hK
  rw[h2];repeat first|refine Xa ?_|refine Zb ?_|refine Za (Qf ..) ?_|refine Za (Xg ..) ?_|refine Za (aj (row:=[ar x.op,ar x.aB,ar x.n.op,iv x.n.n,ar x.n.aB,.ax false false 4 (x.n.kids.map aP),.str x.name,ar x.c.op,ar x.c.aB,.str x.c.name,.ax false false 4 (x.c.aw.map aP),.ax false false 5 (x.c.kids.map b_),.ax false false 14 (x.bk.map aX),.ax false false 14 (x.br.map aX)]) rfl) ?_|refine Za rfl ?_
  rcases aL (decide (x.n.aB=0)) with h3|h3
  rotate_left
  ·rw[h3];repeat first|refine Xa ?_|refine Zb ?_|refine Qb rfl ?_|refine Yc rfl ?_|refine Yd rfl ?_|refine Xd rfl ?_|refine Za (Qf ..) ?_|refine Za (Xg ..) ?_|refine Za (aj (row:=[ar x.op,ar x.aB,ar x.n.op,iv x.n.n,ar x.n.aB,.ax false false 4 (x.n.kids.map aP),.str x.name,ar x.c.op,ar x.c.aB,.str x.c.name,.ax false false 4 (x.c.aw.map aP),.ax false false 5 (x.c.kids.map b_),.ax false false 14 (x.bk.map aX),.ax false false 14 (x.br.map aX)]) rfl) ?_|refine Za rfl ?_
   rw[show c_ x.n=false by simp at h3; simp[c_,h3]] at hK;exact hK
  rw[h3];repeat first|refine Xa ?_|refine Zb ?_|refine Za (Qf ..) ?_|refine Za (Xg ..) ?_|refine Za (aj (row:=[ar x.op,ar x.aB,ar x.n.op,iv x.n.n,ar x.n.aB,.ax false false 4 (x.n.kids.map aP),.str x.name,ar x.c.op,ar x.c.aB,.str x.c.name,.ax false false 4 (x.c.aw.map aP),.ax false false 5 (x.c.kids.map b_),.ax false false 14 (x.bk.map aX),.ax false false 14 (x.br.map aX)]) rfl) ?_|refine Za rfl ?_
  have e:c_ x.n=decide (((x.n.kids.map aP).length:Int)=0):=by
   rw[Bool.eq_iff_iff]; simp at h1 h2 h3; simp[c_,h1,h2,h3]
  rw[e] at hK;exact hK
 refine r1 _ ?_;clear r1;repeat first|refine Za (Qf ..) ?_|refine Za (Xg ..) ?_|refine Za (aj (row:=[ar x.op,ar x.aB,ar x.n.op,iv x.n.n,ar x.n.aB,.ax false false 4 (x.n.kids.map aP),.str x.name,ar x.c.op,ar x.c.aB,.str x.c.name,.ax false false 4 (x.c.aw.map aP),.ax false false 5 (x.c.kids.map b_),.ax false false 14 (x.bk.map aX),.ax false false 14 (x.br.map aX)]) rfl) ?_|refine Za rfl ?_
 have r2:∀K:aa→Prop,K (.bool (decide (x.op=7)||x.name==[]))→VV.gr (aa.bool (decide (x.op=7))) false (λk=>VV.rd (Qi [(aa.ay [ar x.op,ar x.aB,ar x.n.op,iv x.n.n,ar x.n.aB,.ax false false 4 (x.n.kids.map aP),.str x.name,ar x.c.op,ar x.c.aB,.str x.c.name,.ax false false 4 (x.c.aw.map aP),.ax false false 5 (x.c.kids.map b_),.ax false false 14 (x.bk.map aX),.ax false false 14 (x.br.map aX)] 0)] ([]:List ab)) k) λBm=>VV.gr (aa.bool (decide (x.op=7))) false (λk=>VV.rd (Qa [Bm] ([]:List ab)) k) λBn=>VV.gr (aa.bool (decide (x.op=7))) false (λk=>VV.rd (Ya 6 [Bn] ([]:List ab)) k) λBp=>VV.gr (aa.bool (decide (x.op=7))) false (λk=>VV.rd (Zd false 1 [Bp] ([]:List ab)) k) λBr=>VV.gr (aa.bool (decide (x.op=7))) false (λk=>VV.rd (Yj .eql false [Br,(.str [])] ([]:List ab)) k) λBu=>VV.rd (Xo [(aa.bool (decide (x.op=7))),(.bool true),Bu] ([]:List ab)) K:=by
  intro K hK;rcases aL (decide (x.op=7)) with h0|h0
  ·rw[h0] at hK ⊢;repeat first|refine Xa ?_|refine Zb ?_|refine Qb rfl ?_|refine Yc rfl ?_|refine Yd rfl ?_|refine Xd rfl ?_|refine Za (Qf ..) ?_|refine Za (Xg ..) ?_|refine Za (aj (row:=[ar x.op,ar x.aB,ar x.n.op,iv x.n.n,ar x.n.aB,.ax false false 4 (x.n.kids.map aP),.str x.name,ar x.c.op,ar x.c.aB,.str x.c.name,.ax false false 4 (x.c.aw.map aP),.ax false false 5 (x.c.kids.map b_),.ax false false 14 (x.bk.map aX),.ax false false 14 (x.br.map aX)]) rfl) ?_|refine Za rfl ?_
   exact hK
  rw[h0,Bool.false_or] at hK;rw[h0];repeat first|refine Xa ?_|refine Zb ?_|refine Za (Qf ..) ?_|refine Za (Xg ..) ?_|refine Za (aj (row:=[ar x.op,ar x.aB,ar x.n.op,iv x.n.n,ar x.n.aB,.ax false false 4 (x.n.kids.map aP),.str x.name,ar x.c.op,ar x.c.aB,.str x.c.name,.ax false false 4 (x.c.aw.map aP),.ax false false 5 (x.c.kids.map b_),.ax false false 14 (x.bk.map aX),.ax false false 14 (x.br.map aX)]) rfl) ?_|refine Za rfl ?_
  exact hK
 refine r2 _ ?_;clear r2;repeat first|refine Za (Qf ..) ?_|refine Za (Xg ..) ?_|refine Za (aj (row:=[ar x.op,ar x.aB,ar x.n.op,iv x.n.n,ar x.n.aB,.ax false false 4 (x.n.kids.map aP),.str x.name,ar x.c.op,ar x.c.aB,.str x.c.name,.ax false false 4 (x.c.aw.map aP),.ax false false 5 (x.c.kids.map b_),.ax false false 14 (x.bk.map aX),.ax false false 14 (x.br.map aX)]) rfl) ?_|refine Za rfl ?_
 have r3:∀K:aa→Prop,K (.bool (decide (x.op=8)||(decide (x.c.op=0)&&(decide (x.c.aB=0)&&(x.c.name==[]&&decide (x.c.aw.length+x.c.kids.length+x.bk.length+x.br.length=0))))))→VV.gr (aa.bool (decide (x.op=8))) false (λk=>VV.rd (Qi [(aa.ay [ar x.op,ar x.aB,ar x.n.op,iv x.n.n,ar x.n.aB,.ax false false 4 (x.n.kids.map aP),.str x.name,ar x.c.op,ar x.c.aB,.str x.c.name,.ax false false 4 (x.c.aw.map aP),.ax false false 5 (x.c.kids.map b_),.ax false false 14 (x.bk.map aX),.ax false false 14 (x.br.map aX)] 7)] ([]:List ab)) k) λBD=>VV.gr (aa.bool (decide (x.op=8))) false (λk=>VV.rd (Qa [BD] ([]:List ab)) k) λBF=>VV.gr (aa.bool (decide (x.op=8))) false (λk=>VV.rd (Ya 0 [BF] ([]:List ab)) k) λBG=>VV.gr (aa.bool (decide (x.op=8))) false (λk=>VV.rd (Zd false 1 [BG] ([]:List ab)) k) λBI=>VV.gr (aa.bool (decide (x.op=8))) false (λk=>VV.rd (Yj .eql false [BI,(.int .i8 0)] ([]:List ab)) k) λBK=>VV.gr (aa.bool (decide (x.op=8))) false (λk=>VV.rd (Qi [BK] ([]:List ab)) k) λkV=>VV.gr kV true (λk=>VV.rd (Qi [(aa.ay [ar x.op,ar x.aB,ar x.n.op,iv x.n.n,ar x.n.aB,.ax false false 4 (x.n.kids.map aP),.str x.name,ar x.c.op,ar x.c.aB,.str x.c.name,.ax false false 4 (x.c.aw.map aP),.ax false false 5 (x.c.kids.map b_),.ax false false 14 (x.bk.map aX),.ax false false 14 (x.br.map aX)] 7)] ([]:List ab)) k) λBM=>VV.gr kV true (λk=>VV.rd (Qa [BM] ([]:List ab)) k) λBN=>VV.gr kV true (λk=>VV.rd (Ya 1 [BN] ([]:List ab)) k) λBO=>VV.gr kV true (λk=>VV.rd (Zd false 1 [BO] ([]:List ab)) k) λBP=>VV.gr kV true (λk=>VV.rd (Yj .eql false [BP,(.int .i8 0)] ([]:List ab)) k) λBR=>VV.gr (aa.bool (decide (x.op=8))) false (λk=>VV.rd (Xo [kV,BR,(.bool false)] ([]:List ab)) k) λBU=>VV.gr (aa.bool (decide (x.op=8))) false (λk=>VV.rd (Qi [BU] ([]:List ab)) k) λkW=>VV.gr kW true (λk=>VV.rd (Qi [(aa.ay [ar x.op,ar x.aB,ar x.n.op,iv x.n.n,ar x.n.aB,.ax false false 4 (x.n.kids.map aP),.str x.name,ar x.c.op,ar x.c.aB,.str x.c.name,.ax false false 4 (x.c.aw.map aP),.ax false false 5 (x.c.kids.map b_),.ax false false 14 (x.bk.map aX),.ax false false 14 (x.br.map aX)] 7)] ([]:List ab)) k) λBZ=>VV.gr kW true (λk=>VV.rd (Qa [BZ] ([]:List ab)) k) λB3=>VV.gr kW true (λk=>VV.rd (Ya 2 [B3] ([]:List ab)) k) λB6=>VV.gr kW true (λk=>VV.rd (Zd false 1 [B6] ([]:List ab)) k) λB7=>VV.gr kW true (λk=>VV.rd (Yj .eql false [B7,(.str [])] ([]:List ab)) k) λB8=>VV.gr (aa.bool (decide (x.op=8))) false (λk=>VV.rd (Xo [kW,B8,(.bool false)] ([]:List ab)) k) λB'=>VV.gr (aa.bool (decide (x.op=8))) false (λk=>VV.rd (Qi [B'] ([]:List ab)) k) λbV=>VV.gr bV true (λk=>VV.rd (Qi [(aa.ay [ar x.op,ar x.aB,ar x.n.op,iv x.n.n,ar x.n.aB,.ax false false 4 (x.n.kids.map aP),.str x.name,ar x.c.op,ar x.c.aB,.str x.c.name,.ax false false 4 (x.c.aw.map aP),.ax false false 5 (x.c.kids.map b_),.ax false false 14 (x.bk.map aX),.ax false false 14 (x.br.map aX)] 7)] ([]:List ab)) k) λCc=>VV.gr bV true (λk=>VV.rd (Qa [Cc] ([]:List ab)) k) λCf=>VV.gr bV true (λk=>VV.rd (Ya 3 [Cf] ([]:List ab)) k) λCh=>VV.gr bV true (λk=>VV.rd (Zd false 1 [Ch] ([]:List ab)) k) λCk=>VV.gr bV true (λk=>VV.rd (Yf [Ck] ([]:List ab)) k) λCq=>VV.gr bV true (λk=>VV.rd (Qi [(aa.ay [ar x.op,ar x.aB,ar x.n.op,iv x.n.n,ar x.n.aB,.ax false false 4 (x.n.kids.map aP),.str x.name,ar x.c.op,ar x.c.aB,.str x.c.name,.ax false false 4 (x.c.aw.map aP),.ax false false 5 (x.c.kids.map b_),.ax false false 14 (x.bk.map aX),.ax false false 14 (x.br.map aX)] 7)] ([]:List ab)) k) λCu=>VV.gr bV true (λk=>VV.rd (Qa [Cu] ([]:List ab)) k) λCy=>VV.gr bV true (λk=>VV.rd (Ya 4 [Cy] ([]:List ab)) k) λCC=>VV.gr bV true (λk=>VV.rd (Zd false 1 [CC] ([]:List ab)) k) λCE=>VV.gr bV true (λk=>VV.rd (Yf [CE] ([]:List ab)) k) λCH=>VV.gr bV true (λk=>VV.rd (Yj .add false [Cq,CH] ([]:List ab)) k) λCK=>VV.gr bV true (λk=>VV.rd (Qi [(aa.ay [ar x.op,ar x.aB,ar x.n.op,iv x.n.n,ar x.n.aB,.ax false false 4 (x.n.kids.map aP),.str x.name,ar x.c.op,ar x.c.aB,.str x.c.name,.ax false false 4 (x.c.aw.map aP),.ax false false 5 (x.c.kids.map b_),.ax false false 14 (x.bk.map aX),.ax false false 14 (x.br.map aX)] 0)] ([]:List ab)) k) λCO=>VV.gr bV true (λk=>VV.rd (Qa [CO] ([]:List ab)) k) λCQ=>VV.gr bV true (λk=>VV.rd (Ya 12 [CQ] ([]:List ab)) k) λCT=>VV.gr bV true (λk=>VV.rd (Zd false 1 [CT] ([]:List ab)) k) λxr=>VV.gr bV true (λk=>VV.rd (Yf [xr] ([]:List ab)) k) λxt=>VV.gr bV true (λk=>VV.rd (Yj .add false [CK,xt] ([]:List ab)) k) λxu=>VV.gr bV true (λk=>VV.rd (Qi [(aa.ay [ar x.op,ar x.aB,ar x.n.op,iv x.n.n,ar x.n.aB,.ax false false 4 (x.n.kids.map aP),.str x.name,ar x.c.op,ar x.c.aB,.str x.c.name,.ax false false 4 (x.c.aw.map aP),.ax false false 5 (x.c.kids.map b_),.ax false false 14 (x.bk.map aX),.ax false false 14 (x.br.map aX)] 0)] ([]:List ab)) k) λxw=>VV.gr bV true (λk=>VV.rd (Qa [xw] ([]:List ab)) k) λxy=>VV.gr bV true (λk=>VV.rd (Ya 13 [xy] ([]:List ab)) k) λxz=>VV.gr bV true (λk=>VV.rd (Zd false 1 [xz] ([]:List ab)) k) λxB=>VV.gr bV true (λk=>VV.rd (Yf [xB] ([]:List ab)) k) λxC=>VV.gr bV true (λk=>VV.rd (Yj .add false [xu,xC] ([]:List ab)) k) λxE=>VV.gr bV true (λk=>VV.rd (Yj .eql false [xE,(.int .i64 0)] ([]:List ab)) k) λxG=>VV.gr (aa.bool (decide (x.op=8))) false (λk=>VV.rd (Xo [bV,xG,(.bool false)] ([]:List ab)) k) λxI=>VV.rd (Xo [(aa.bool (decide (x.op=8))),(.bool true),xI] ([]:List ab)) K:=by
  intro K hK;rcases aL (decide (x.op=8)) with h0|h0
  ·rw[h0] at hK ⊢;repeat first|refine Xa ?_|refine Zb ?_|refine Qb rfl ?_|refine Yc rfl ?_|refine Yd rfl ?_|refine Xd rfl ?_|refine Za (Qf ..) ?_|refine Za (Xg ..) ?_|refine Za (aj (row:=[ar x.op,ar x.aB,ar x.n.op,iv x.n.n,ar x.n.aB,.ax false false 4 (x.n.kids.map aP),.str x.name,ar x.c.op,ar x.c.aB,.str x.c.name,.ax false false 4 (x.c.aw.map aP),.ax false false 5 (x.c.kids.map b_),.ax false false 14 (x.bk.map aX),.ax false false 14 (x.br.map aX)]) rfl) ?_|refine Za rfl ?_
   exact hK
  rw[h0,Bool.false_or] at hK;rw[h0];repeat first|refine Xa ?_|refine Zb ?_|refine Za (Qf ..) ?_|refine Za (Xg ..) ?_|refine Za (aj (row:=[ar x.op,ar x.aB,ar x.n.op,iv x.n.n,ar x.n.aB,.ax false false 4 (x.n.kids.map aP),.str x.name,ar x.c.op,ar x.c.aB,.str x.c.name,.ax false false 4 (x.c.aw.map aP),.ax false false 5 (x.c.kids.map b_),.ax false false 14 (x.bk.map aX),.ax false false 14 (x.br.map aX)]) rfl) ?_|refine Za rfl ?_
  rcases aL (decide (x.c.op=0)) with h1|h1
  rotate_left
  ·rw[h1];repeat first|refine Xa ?_|refine Zb ?_|refine Qb rfl ?_|refine Yc rfl ?_|refine Yd rfl ?_|refine Xd rfl ?_|refine Za (Qf ..) ?_|refine Za (Xg ..) ?_|refine Za (aj (row:=[ar x.op,ar x.aB,ar x.n.op,iv x.n.n,ar x.n.aB,.ax false false 4 (x.n.kids.map aP),.str x.name,ar x.c.op,ar x.c.aB,.str x.c.name,.ax false false 4 (x.c.aw.map aP),.ax false false 5 (x.c.kids.map b_),.ax false false 14 (x.bk.map aX),.ax false false 14 (x.br.map aX)]) rfl) ?_|refine Za rfl ?_
   rw[h1] at hK;exact hK
  rw[h1];repeat first|refine Xa ?_|refine Zb ?_|refine Za (Qf ..) ?_|refine Za (Xg ..) ?_|refine Za (aj (row:=[ar x.op,ar x.aB,ar x.n.op,iv x.n.n,ar x.n.aB,.ax false false 4 (x.n.kids.map aP),.str x.name,ar x.c.op,ar x.c.aB,.str x.c.name,.ax false false 4 (x.c.aw.map aP),.ax false false 5 (x.c.kids.map b_),.ax false false 14 (x.bk.map aX),.ax false false 14 (x.br.map aX)]) rfl) ?_|refine Za rfl ?_
  rcases aL (decide (x.c.aB=0)) with h2|h2
  rotate_left
  ·rw[h2];repeat first|refine Xa ?_|refine Zb ?_|refine Qb rfl ?_|refine Yc rfl ?_|refine Yd rfl ?_|refine Xd rfl ?_|refine Za (Qf ..) ?_|refine Za (Xg ..) ?_|refine Za (aj (row:=[ar x.op,ar x.aB,ar x.n.op,iv x.n.n,ar x.n.aB,.ax false false 4 (x.n.kids.map aP),.str x.name,ar x.c.op,ar x.c.aB,.str x.c.name,.ax false false 4 (x.c.aw.map aP),.ax false false 5 (x.c.kids.map b_),.ax false false 14 (x.bk.map aX),.ax false false 14 (x.br.map aX)]) rfl) ?_|refine Za rfl ?_
   rw[h1,h2] at hK;exact hK
  rw[h2];repeat first|refine Xa ?_|refine Zb ?_|refine Za (Qf ..) ?_|refine Za (Xg ..) ?_|refine Za (aj (row:=[ar x.op,ar x.aB,ar x.n.op,iv x.n.n,ar x.n.aB,.ax false false 4 (x.n.kids.map aP),.str x.name,ar x.c.op,ar x.c.aB,.str x.c.name,.ax false false 4 (x.c.aw.map aP),.ax false false 5 (x.c.kids.map b_),.ax false false 14 (x.bk.map aX),.ax false false 14 (x.br.map aX)]) rfl) ?_|refine Za rfl ?_
  rcases aL (x.c.name==[]) with h3|h3
  rotate_left
  ·rw[h3];repeat first|refine Xa ?_|refine Zb ?_|refine Qb rfl ?_|refine Yc rfl ?_|refine Yd rfl ?_|refine Xd rfl ?_|refine Za (Qf ..) ?_|refine Za (Xg ..) ?_|refine Za (aj (row:=[ar x.op,ar x.aB,ar x.n.op,iv x.n.n,ar x.n.aB,.ax false false 4 (x.n.kids.map aP),.str x.name,ar x.c.op,ar x.c.aB,.str x.c.name,.ax false false 4 (x.c.aw.map aP),.ax false false 5 (x.c.kids.map b_),.ax false false 14 (x.bk.map aX),.ax false false 14 (x.br.map aX)]) rfl) ?_|refine Za rfl ?_
   rw[h1,h2,h3] at hK;exact hK
  rw[h3];repeat first|refine Xa ?_|refine Zb ?_|refine Za (Qf ..) ?_|refine Za (Xg ..) ?_|refine Za (aj (row:=[ar x.op,ar x.aB,ar x.n.op,iv x.n.n,ar x.n.aB,.ax false false 4 (x.n.kids.map aP),.str x.name,ar x.c.op,ar x.c.aB,.str x.c.name,.ax false false 4 (x.c.aw.map aP),.ax false false 5 (x.c.kids.map b_),.ax false false 14 (x.bk.map aX),.ax false false 14 (x.br.map aX)]) rfl) ?_|refine Za rfl ?_
  rw[h1,h2,h3,Bool.true_and,Bool.true_and,Bool.true_and] at hK;rw[List.length_map,List.length_map,List.length_map,List.length_map,aY (n:=(x.c.aw.length:Int)+x.c.kids.length) (by omega) (by omega),aY (n:=(x.c.aw.length:Int)+x.c.kids.length+x.bk.length) (by omega) (by omega),aY (n:=(x.c.aw.length:Int)+x.c.kids.length+x.bk.length+x.br.length) (by omega) (by omega)];rw[show decide ((x.c.aw.length:Int)+x.c.kids.length+x.bk.length+x.br.length=0)=decide (x.c.aw.length+x.c.kids.length+x.bk.length+x.br.length=0) by rw[Bool.eq_iff_iff,decide_eq_true_eq,decide_eq_true_eq]; omega];exact hK
 refine r3 _ ?_;clear r3;unfold fx;generalize (aU x.op||c_ x.n)=b1;generalize (decide (x.op=7)||x.name==[])=b2;generalize (decide (x.op=8)||(decide (x.c.op=0)&&(decide (x.c.aB=0)&&(x.c.name==[]&&decide (x.c.aw.length+x.c.kids.length+x.bk.length+x.br.length=0)))))=b3;cases b1<;>cases b2
 all_goals (repeat (first|refine Xa ?_|refine Zb ?_|refine Qb rfl ?_|refine Yc rfl ?_|refine Yd rfl ?_|refine Xd rfl ?_|refine Za (Qf ..) ?_|refine Za (Xg ..) ?_|refine Za (aj (row:=[ar x.op,ar x.aB,ar x.n.op,iv x.n.n,ar x.n.aB,.ax false false 4 (x.n.kids.map aP),.str x.name,ar x.c.op,ar x.c.aB,.str x.c.name,.ax false false 4 (x.c.aw.map aP),.ax false false 5 (x.c.kids.map b_),.ax false false 14 (x.bk.map aX),.ax false false 14 (x.br.map aX)]) rfl) ?_|refine Za rfl ?_))
 all_goals rfl
end Go.Ah.Tz
end
section
namespace Go.Ah.Tz
open Go.Proofs.Tryz (prog)
def fq(cs:List Cd)(t:Bool)(d:Int)(x:Ef):Bool:=
 if x.op=0∨x.op=1 then fi x.aB||(decide (x.aB=2)&&t)
 else if x.op=2∨x.op=4∨x.op=6 then fi x.aB
 else if x.op=3∨x.op=5 then decide (x.aB=0)
 else if x.op=7 then decide (x.aB=0)&&eQ cs x.name true
 else if x.op=8 then decide (x.aB=0)&&(iq cs t x.c&&(bF cs t (d+1) x.bk&&bF cs t (d+1) x.br))
 else false
theorem SS(x:Ef):(decide (x.c.op=0)&&(decide (x.c.aB=0)&&(x.c.name==[]&&decide (x.c.aw.length+x.c.kids.length+x.bk.length+x.br.length=0))))=(ez x.c&&(decide (x.bk.length=0)&&decide (x.br.length=0))):=by
 have e:decide (x.c.aw.length+x.c.kids.length+x.bk.length+x.br.length=0)=(decide (x.c.aw.length=0)&&(decide (x.c.kids.length=0)&&(decide (x.bk.length=0)&&decide (x.br.length=0)))):=by
  rw[Bool.eq_iff_iff];simp only[Bool.and_eq_true,decide_eq_true_eq]; omega
 rw[e,ez];simp only[Bool.and_assoc]
theorem UX(cs:List Cd)(t:Bool)(d:Int)(x:Ef):qG cs t d x=((fx x&&(!aU x.op||fC t x.n))&&fq cs t d x):=by
 rw[OX,fx,SS];by_cases hr:0≤x.op∧x.op≤8;rotate_left
 ·have:fq cs t d x=false:=by
   rw[fq,if_neg (by omega),if_neg (by omega),if_neg (by omega),if_neg (by omega),if_neg (by omega)]
  rw[this,Bool.and_false,Bool.eq_false_iff];intro h; simp only[Bool.and_eq_true,decide_eq_true_eq] at h; exact hr ⟨h.1,h.2.1⟩
 obtain⟨r1,r2⟩:=hr;rw[decide_eq_true r1,decide_eq_true r2,Bool.true_and,Bool.true_and];generalize ez x.c=b1;generalize decide (x.bk.length=0)=b2;generalize decide (x.br.length=0)=b3;generalize c_ x.n=b4;generalize fC t x.n=b5;generalize (x.name==[])=b6;unfold fq f_ ij;generalize bF cs t (d+1) x.bk=b7;generalize bF cs t (d+1) x.br=b8;generalize iq cs t x.c=b9;generalize eQ cs x.name true=b10;generalize fi x.aB=b11;generalize decide (x.aB=0)=b12;generalize decide (x.aB=2)=b13;have h:x.op=0∨x.op=1∨x.op=2∨x.op=3∨x.op=4∨x.op=5∨x.op=6∨x.op=7∨x.op=8:=by omega
 generalize x.op=op at h;clear r1 r2;rcases h with h|h|h|h|h|h|h|h|h<;>subst h<;>simp[aU]<;>cases b1<;>cases b2<;>cases b3<;>cases b4<;>cases b5<;>cases b6<;>simp<;>cases b12<;>simp
attribute [local irreducible] al.rd al.pu al.wr al.dr al.gr al.gw al.gl al.gd al.opt au W
set_option maxHeartbeats 4000000
theorem V1(x:Ef):sD (aX x) (0+2) x.n:=yR x
theorem Sr(x:Ef):sB (aX x) (0+7) x.c:=yl x
theorem tM(m:List (Tx×Bool))(cs:List Cd)(hU:mE m cs)(t:Bool):∀(k:Nat) (l:List Ef) (d:Int),SizeOf.sizeOf l≤k→bA l=true→0≤d→PC 157 [.ay (bI m t) 0,ju l,iv d] (.bool (bF cs t d l))
 |0,l,_,h,_,_=>by cases l<;>simp at h
 |k+1,l,d,hk,hf,hd=>by
  refine Qd hP gb rfl rfl ?_;unfold g157;have hlen:=ZC hf;rw[cM] at hlen;refine Za rfl (Za rfl ?_);refine QD rfl rfl ?_;refine Zc (λh=>?_) (λh=>?_)
  ·have h:¬(l.length≤16∧d≤8):=by simp at h; omega
   rw[bF];rcases Decidable.not_and_iff_or_not.1 h with h|h<;>simp[h]
  have h:l.length≤16∧d≤8:=by simp at h; omega
  have hl:bF cs t d l=eH cs t d l:=by simp[bF,h]
  rw[hl];clear hl;refine Za rfl ?_;refine Zl (ι:=Nat) (λi vs σ=>vs=[iv i]∧σ=[]∧i≤l.length∧eH cs t d l=eH cs t d (l.drop i)) (λi=>l.length-i) 0 ⟨rfl,rfl,by omega,by simp⟩ ?_;rintro i vs σ again ⟨rfl,rfl,hi,hu⟩ aM;refine Za rfl ?_;refine Zc (λh=>?_) (λh=>?_);rotate_left
  ·have h:i=l.length:=by simp at h; omega
   subst h;rw[List.drop_length,eH] at hu;rw[hu]
  have pV:i<l.length:=by simpa using h
  have cO:l.drop i=l[i]::l.drop (i+1):=by rw[eD pV]
  rw[cO,eH] at hu;have hm:l[i]∈l:=List.getElem_mem pV;have ei:=List.sizeOf_lt_of_mem hm;have jg:=QN hf hm;have ix:=λ(s:List ab)=>Zp s aX false false 14 l .i64 i pV;generalize l[i]=x at hu ei jg ix;have o_:=ZX x;rename_i W4;obtain⟨h16,h8⟩:=W4;have go:∀c,c=qG cs t d x→VV.rd (Xp .not [.bool c] []) λt152=>VV.test t152 (aa.bool false=aa.bool (eH cs t d l)) (VV.rd (Yj .add false [iv i,(.int .i64 1)] []) λt153=>again [t153] []):=by
   rintro c hc;refine Za rfl ?_;rw[←hc] at hu;refine Zc (λh=>?_) (λh=>?_)
   ·have h:c=false:=by simpa using h
    rw[hu,h]; rfl
   ·have h:c=true:=by simpa using h
    rw[h,Bool.true_and] at hu;refine Za (Xk ..) ?_;rw[Zf (n:=i) (by omega)];exact aM (i+1) _ _ (by omega) ⟨rfl,rfl,by omega,hu⟩
  have stop:qG cs t d x=false→aa.bool false=aa.bool (eH cs t d l):=by
   intro he; rw[hu,he]; rfl
  clear aM hu;rw[UX] at stop go;refine Za (ix _) ?_;refine Qc (c209 x jg) rfl lT.plain rfl ?_;have r1:∀K:aa→List ab→Prop,K (.bool (fx x&&(!aU x.op||fC t x.n))) []→VV.gr (aa.bool (fx x)) true (λk=>VV.rd (Qi [(aa.ay (aX x) 0)] []) k) λAL=>VV.gr (aa.bool (fx x)) true (λk=>VV.rd (Qa [AL] []) k) λAN=>VV.gr (aa.bool (fx x)) true (λk=>VV.rd (Ya 0 [AN] []) k) λAP=>VV.gr (aa.bool (fx x)) true (λk=>VV.rd (Zd false 1 [AP] []) k) λAU=>VV.gw (aa.bool (fx x)) true (λk=>VV.call (.call 210) [AU] [] k) ([]:List ab) λAW σ=>VV.gr (aa.bool (fx x)) true (λk=>VV.rd (Xp .not [AW] σ) k) λAZ=>VV.gr (aa.bool (fx x)) true (λk=>VV.rd (Qi [AZ] σ) k) λkU=>VV.gr kU false (λk=>VV.rd (Qi [(aa.ay (bI m t) 0)] σ) k) λA3=>VV.gr kU false (λk=>VV.rd (Qi [(aa.ay (aX x) 0)] σ) k) λA5=>VV.gr kU false (λk=>VV.rd (Qa [A5] σ) k) λA8=>VV.gr kU false (λk=>VV.rd (Ya 2 [A8] σ) k) λA_=>VV.gw kU false (λk=>VV.call (.call 211) [A3,A_] σ k) σ λBa σ=>VV.gr (aa.bool (fx x)) true (λk=>VV.rd (Xo [kU,(.bool true),Ba] σ) k) λBc=>VV.rd (Xo [(aa.bool (fx x)),Bc,(.bool false)] σ) (λv=>K v σ):=by
   intro K hK;rcases aL (fx x) with h|h
   rotate_left
   ·rw[h] at hK ⊢;repeat first|refine Xa ?_|refine Zb ?_|refine Qb rfl ?_|refine Yc rfl ?_|refine Yd rfl ?_|refine Xd rfl ?_|refine Za (aj (ba x)) ?_|refine Za (aj (bu x)) ?_|refine Za (aj (bw x)) ?_|refine Za (aj (Zr x)) ?_|refine Za (aj (Yr x)) ?_|refine Za (Qf ..) ?_|refine Za (Xg ..) ?_|refine Za (aj (row:=bI m t) rfl) ?_|refine Za (Yn ..) ?_|refine Za rfl ?_
    exact hK
   rw[h,Bool.true_and] at hK;rw[h];repeat first|refine Xa ?_|refine Zb ?_|refine Za (aj (ba x)) ?_|refine Za (aj (bu x)) ?_|refine Za (aj (bw x)) ?_|refine Za (aj (Zr x)) ?_|refine Za (aj (Yr x)) ?_|refine Za (Qf ..) ?_|refine Za (Xg ..) ?_|refine Za (aj (row:=bI m t) rfl) ?_|refine Za (Yn ..) ?_|refine Za rfl ?_
   refine Qc (c210 _) rfl jc.plain rfl ?_;repeat first|refine Xa ?_|refine Zb ?_|refine Za (aj (ba x)) ?_|refine Za (aj (bu x)) ?_|refine Za (aj (bw x)) ?_|refine Za (aj (Zr x)) ?_|refine Za (aj (Yr x)) ?_|refine Za (Qf ..) ?_|refine Za (Xg ..) ?_|refine Za (aj (row:=bI m t) rfl) ?_|refine Za (Yn ..) ?_|refine Za rfl ?_
   rcases aL (!aU x.op) with h2|h2
   ·rw[h2] at hK ⊢;repeat first|refine Xa ?_|refine Zb ?_|refine Qb rfl ?_|refine Yc rfl ?_|refine Yd rfl ?_|refine Xd rfl ?_|refine Za (aj (ba x)) ?_|refine Za (aj (bu x)) ?_|refine Za (aj (bw x)) ?_|refine Za (aj (Zr x)) ?_|refine Za (aj (Yr x)) ?_|refine Za (Qf ..) ?_|refine Za (Xg ..) ?_|refine Za (aj (row:=bI m t) rfl) ?_|refine Za (Yn ..) ?_|refine Za rfl ?_
    exact hK
   rw[h2,Bool.false_or] at hK;rw[h2];repeat first|refine Xa ?_|refine Zb ?_|refine Za (aj (ba x)) ?_|refine Za (aj (bu x)) ?_|refine Za (aj (bw x)) ?_|refine Za (aj (Zr x)) ?_|refine Za (aj (Yr x)) ?_|refine Za (Qf ..) ?_|refine Za (Xg ..) ?_|refine Za (aj (row:=bI m t) rfl) ?_|refine Za (Yn ..) ?_|refine Za rfl ?_
   refine Qc (c211 _ t x.n _ _ (V1 x) (Y4 jg)) rfl jd.plain rfl ?_;repeat first|refine Xa ?_|refine Zb ?_|refine Za (aj (ba x)) ?_|refine Za (aj (bu x)) ?_|refine Za (aj (bw x)) ?_|refine Za (aj (Zr x)) ?_|refine Za (aj (Yr x)) ?_|refine Za (Qf ..) ?_|refine Za (Xg ..) ?_|refine Za (aj (row:=bI m t) rfl) ?_|refine Za (Yn ..) ?_|refine Za rfl ?_
   exact hK
  refine r1 _ ?_;clear r1;generalize (fx x&&(!aU x.op||fC t x.n))=z at go stop ⊢;repeat first|refine Za (aj (ba x)) ?_|refine Za (aj (bu x)) ?_|refine Za (aj (bw x)) ?_|refine Za (aj (Zr x)) ?_|refine Za (aj (Yr x)) ?_|refine Za (Qf ..) ?_|refine Za (Xg ..) ?_|refine Za (aj (row:=bI m t) rfl) ?_|refine Za (Yn ..) ?_|refine Za rfl ?_
  refine Qk λk28 E_=>?_;have kk:∀c,c=(z&&fq cs t d x)→k28 [.bool c] []:=by
   rintro c hc;rw[E_];exact go c hc
  clear E_ go;repeat first|refine Za (aj (ba x)) ?_|refine Za (aj (bu x)) ?_|refine Za (aj (bw x)) ?_|refine Za (aj (Zr x)) ?_|refine Za (aj (Yr x)) ?_|refine Za (Qf ..) ?_|refine Za (Xg ..) ?_|refine Za (aj (row:=bI m t) rfl) ?_|refine Za (Yn ..) ?_|refine Za rfl ?_
  refine Qk λk1 eN=>?_;have m1:∀c,c=decide (x.op=0∨x.op=1)→k1 [.bool c] []:=by
   rintro c hc;rw[eN]; clear eN k1;refine Zc (λh=>?_) (λh=>?_)
   ·rw[h] at hc;have a1:x.op=0∨x.op=1:=by simpa using hc.symm
    have e:fq cs t d x=(fi x.aB||(decide (x.aB=2)&&t)):=by rw[fq,if_pos a1]
    rw[e] at kk;cases z with
    |false=>
     repeat first|refine Xa ?_|refine Zb ?_|refine Qb rfl ?_|refine Yc rfl ?_|refine Yd rfl ?_|refine Xd rfl ?_|refine Za (aj (ba x)) ?_|refine Za (aj (bu x)) ?_|refine Za (aj (bw x)) ?_|refine Za (aj (Zr x)) ?_|refine Za (aj (Yr x)) ?_|refine Za (Qf ..) ?_|refine Za (Xg ..) ?_|refine Za (aj (row:=bI m t) rfl) ?_|refine Za (Yn ..) ?_|refine Za rfl ?_
     exact kk _ rfl
    |true=>
     repeat first|refine Xa ?_|refine Zb ?_|refine Za (aj (ba x)) ?_|refine Za (aj (bu x)) ?_|refine Za (aj (bw x)) ?_|refine Za (aj (Zr x)) ?_|refine Za (aj (Yr x)) ?_|refine Za (Qf ..) ?_|refine Za (Xg ..) ?_|refine Za (aj (row:=bI m t) rfl) ?_|refine Za (Yn ..) ?_|refine Za rfl ?_
     refine Qc (c212 _) rfl gV.plain rfl ?_;repeat first|refine Xa ?_|refine Zb ?_|refine Za (aj (ba x)) ?_|refine Za (aj (bu x)) ?_|refine Za (aj (bw x)) ?_|refine Za (aj (Zr x)) ?_|refine Za (aj (Yr x)) ?_|refine Za (Qf ..) ?_|refine Za (Xg ..) ?_|refine Za (aj (row:=bI m t) rfl) ?_|refine Za (Yn ..) ?_|refine Za rfl ?_
     rcases aL (fi x.aB) with h2|h2
     ·rw[h2] at kk ⊢;repeat first|refine Xa ?_|refine Zb ?_|refine Qb rfl ?_|refine Yc rfl ?_|refine Yd rfl ?_|refine Xd rfl ?_|refine Za (aj (ba x)) ?_|refine Za (aj (bu x)) ?_|refine Za (aj (bw x)) ?_|refine Za (aj (Zr x)) ?_|refine Za (aj (Yr x)) ?_|refine Za (Qf ..) ?_|refine Za (Xg ..) ?_|refine Za (aj (row:=bI m t) rfl) ?_|refine Za (Yn ..) ?_|refine Za rfl ?_
      exact kk _ rfl
     rw[h2] at kk ⊢;repeat first|refine Xa ?_|refine Zb ?_|refine Za (aj (ba x)) ?_|refine Za (aj (bu x)) ?_|refine Za (aj (bw x)) ?_|refine Za (aj (Zr x)) ?_|refine Za (aj (Yr x)) ?_|refine Za (Qf ..) ?_|refine Za (Xg ..) ?_|refine Za (aj (row:=bI m t) rfl) ?_|refine Za (Yn ..) ?_|refine Za rfl ?_
     rcases aL (decide (x.aB=2)) with h3|h3
     ·rw[h3] at kk ⊢;repeat first|refine Xa ?_|refine Zb ?_|refine Za (aj (ba x)) ?_|refine Za (aj (bu x)) ?_|refine Za (aj (bw x)) ?_|refine Za (aj (Zr x)) ?_|refine Za (aj (Yr x)) ?_|refine Za (Qf ..) ?_|refine Za (Xg ..) ?_|refine Za (aj (row:=bI m t) rfl) ?_|refine Za (Yn ..) ?_|refine Za rfl ?_
      exact kk _ (by simp)
     rw[h3] at kk ⊢;repeat first|refine Xa ?_|refine Zb ?_|refine Qb rfl ?_|refine Yc rfl ?_|refine Yd rfl ?_|refine Xd rfl ?_|refine Za (aj (ba x)) ?_|refine Za (aj (bu x)) ?_|refine Za (aj (bw x)) ?_|refine Za (aj (Zr x)) ?_|refine Za (aj (Yr x)) ?_|refine Za (Qf ..) ?_|refine Za (Xg ..) ?_|refine Za (aj (row:=bI m t) rfl) ?_|refine Za (Yn ..) ?_|refine Za rfl ?_
     exact kk _ (by simp)
   rw[h] at hc;have a1:¬(x.op=0∨x.op=1):=by simpa using hc.symm
   repeat first|refine Za (aj (ba x)) ?_|refine Za (aj (bu x)) ?_|refine Za (aj (bw x)) ?_|refine Za (aj (Zr x)) ?_|refine Za (aj (Yr x)) ?_|refine Za (Qf ..) ?_|refine Za (Xg ..) ?_|refine Za (aj (row:=bI m t) rfl) ?_|refine Za (Yn ..) ?_|refine Za rfl ?_
   refine Qk λk1 eN=>?_;have m2:∀c,c=decide (x.op=2∨x.op=4∨x.op=6)→k1 [.bool c] []:=by
    rintro c hc;rw[eN]; clear eN k1;refine Zc (λh=>?_) (λh=>?_)
    ·rw[h] at hc;have a2:x.op=2∨x.op=4∨x.op=6:=by simpa using hc.symm
     have e:fq cs t d x=fi x.aB:=by rw[fq,if_neg a1,if_pos a2]
     rw[e] at kk;cases z with
     |false=>
      repeat first|refine Xa ?_|refine Zb ?_|refine Qb rfl ?_|refine Yc rfl ?_|refine Yd rfl ?_|refine Xd rfl ?_|refine Za (aj (ba x)) ?_|refine Za (aj (bu x)) ?_|refine Za (aj (bw x)) ?_|refine Za (aj (Zr x)) ?_|refine Za (aj (Yr x)) ?_|refine Za (Qf ..) ?_|refine Za (Xg ..) ?_|refine Za (aj (row:=bI m t) rfl) ?_|refine Za (Yn ..) ?_|refine Za rfl ?_
      exact kk _ rfl
     |true=>
      repeat first|refine Xa ?_|refine Zb ?_|refine Za (aj (ba x)) ?_|refine Za (aj (bu x)) ?_|refine Za (aj (bw x)) ?_|refine Za (aj (Zr x)) ?_|refine Za (aj (Yr x)) ?_|refine Za (Qf ..) ?_|refine Za (Xg ..) ?_|refine Za (aj (row:=bI m t) rfl) ?_|refine Za (Yn ..) ?_|refine Za rfl ?_
      refine Qc (c212 _) rfl gV.plain rfl ?_;repeat first|refine Xa ?_|refine Zb ?_|refine Za (aj (ba x)) ?_|refine Za (aj (bu x)) ?_|refine Za (aj (bw x)) ?_|refine Za (aj (Zr x)) ?_|refine Za (aj (Yr x)) ?_|refine Za (Qf ..) ?_|refine Za (Xg ..) ?_|refine Za (aj (row:=bI m t) rfl) ?_|refine Za (Yn ..) ?_|refine Za rfl ?_
      exact kk _ (by simp)
    rw[h] at hc;have a2:¬(x.op=2∨x.op=4∨x.op=6):=by simpa using hc.symm
    repeat first|refine Za (aj (ba x)) ?_|refine Za (aj (bu x)) ?_|refine Za (aj (bw x)) ?_|refine Za (aj (Zr x)) ?_|refine Za (aj (Yr x)) ?_|refine Za (Qf ..) ?_|refine Za (Xg ..) ?_|refine Za (aj (row:=bI m t) rfl) ?_|refine Za (Yn ..) ?_|refine Za rfl ?_
    refine Qk λk1 eN=>?_;have m3:∀c,c=decide (x.op=3∨x.op=5)→k1 [.bool c] []:=by
     rintro c hc;rw[eN]; clear eN k1;refine Zc (λh=>?_) (λh=>?_)
     ·rw[h] at hc;have a3:x.op=3∨x.op=5:=by simpa using hc.symm
      have e:fq cs t d x=decide (x.aB=0):=by rw[fq,if_neg a1,if_neg a2,if_pos a3]
      rw[e] at kk;cases z with
      |false=>
       repeat first|refine Xa ?_|refine Zb ?_|refine Qb rfl ?_|refine Yc rfl ?_|refine Yd rfl ?_|refine Xd rfl ?_|refine Za (aj (ba x)) ?_|refine Za (aj (bu x)) ?_|refine Za (aj (bw x)) ?_|refine Za (aj (Zr x)) ?_|refine Za (aj (Yr x)) ?_|refine Za (Qf ..) ?_|refine Za (Xg ..) ?_|refine Za (aj (row:=bI m t) rfl) ?_|refine Za (Yn ..) ?_|refine Za rfl ?_
       exact kk _ rfl
      |true=>
       repeat first|refine Xa ?_|refine Zb ?_|refine Za (aj (ba x)) ?_|refine Za (aj (bu x)) ?_|refine Za (aj (bw x)) ?_|refine Za (aj (Zr x)) ?_|refine Za (aj (Yr x)) ?_|refine Za (Qf ..) ?_|refine Za (Xg ..) ?_|refine Za (aj (row:=bI m t) rfl) ?_|refine Za (Yn ..) ?_|refine Za rfl ?_
       exact kk _ (by simp)
     rw[h] at hc;have a3:¬(x.op=3∨x.op=5):=by simpa using hc.symm
     repeat first|refine Za (aj (ba x)) ?_|refine Za (aj (bu x)) ?_|refine Za (aj (bw x)) ?_|refine Za (aj (Zr x)) ?_|refine Za (aj (Yr x)) ?_|refine Za (Qf ..) ?_|refine Za (Xg ..) ?_|refine Za (aj (row:=bI m t) rfl) ?_|refine Za (Yn ..) ?_|refine Za rfl ?_
     refine Zc (λa7=>?_) (λa7=>?_)
     ·have a7:x.op=7:=by simpa using a7
      have e:fq cs t d x=(decide (x.aB=0)&&(bg x.name m).getD false):=by
       rw[fq,if_neg a1,if_neg a2,if_neg a3,if_pos a7,hU];cases bg x.name m<;>simp
      rw[e] at kk;cases z with
      |false=>
       repeat first|refine Xa ?_|refine Zb ?_|refine Qb rfl ?_|refine Yc rfl ?_|refine Yd rfl ?_|refine Xd rfl ?_|refine Za (aj (ba x)) ?_|refine Za (aj (bu x)) ?_|refine Za (aj (bw x)) ?_|refine Za (aj (Zr x)) ?_|refine Za (aj (Yr x)) ?_|refine Za (Qf ..) ?_|refine Za (Xg ..) ?_|refine Za (aj (row:=bI m t) rfl) ?_|refine Za (Yn ..) ?_|refine Za rfl ?_
       exact kk _ rfl
      |true=>
       repeat first|refine Xa ?_|refine Zb ?_|refine Za (aj (ba x)) ?_|refine Za (aj (bu x)) ?_|refine Za (aj (bw x)) ?_|refine Za (aj (Zr x)) ?_|refine Za (aj (Yr x)) ?_|refine Za (Qf ..) ?_|refine Za (Xg ..) ?_|refine Za (aj (row:=bI m t) rfl) ?_|refine Za (Yn ..) ?_|refine Za rfl ?_
       rcases aL (decide (x.aB=0)) with h3|h3
       ·rw[h3] at kk ⊢;repeat first|refine Xa ?_|refine Zb ?_|refine Za (aj (ba x)) ?_|refine Za (aj (bu x)) ?_|refine Za (aj (bw x)) ?_|refine Za (aj (Zr x)) ?_|refine Za (aj (Yr x)) ?_|refine Za (Qf ..) ?_|refine Za (Xg ..) ?_|refine Za (aj (row:=bI m t) rfl) ?_|refine Za (Yn ..) ?_|refine Za rfl ?_
        exact kk _ (by simp)
       rw[h3] at kk ⊢;repeat first|refine Xa ?_|refine Zb ?_|refine Qb rfl ?_|refine Yc rfl ?_|refine Yd rfl ?_|refine Xd rfl ?_|refine Za (aj (ba x)) ?_|refine Za (aj (bu x)) ?_|refine Za (aj (bw x)) ?_|refine Za (aj (Zr x)) ?_|refine Za (aj (Yr x)) ?_|refine Za (Qf ..) ?_|refine Za (Xg ..) ?_|refine Za (aj (row:=bI m t) rfl) ?_|refine Za (Yn ..) ?_|refine Za rfl ?_
       exact kk _ (by simp)
     have a7:x.op≠7:=by simpa using a7
     repeat first|refine Za (aj (ba x)) ?_|refine Za (aj (bu x)) ?_|refine Za (aj (bw x)) ?_|refine Za (aj (Zr x)) ?_|refine Za (aj (Yr x)) ?_|refine Za (Qf ..) ?_|refine Za (Xg ..) ?_|refine Za (aj (row:=bI m t) rfl) ?_|refine Za (Yn ..) ?_|refine Za rfl ?_
     refine Zc (λa8=>?_) (λa8=>?_);rotate_left
     ·have a8:x.op≠8:=by simpa using a8
      refine stop ?_;rw[fq,if_neg a1,if_neg a2,if_neg a3,if_neg a7,if_neg a8,Bool.and_false]
     have a8:x.op=8:=by simpa using a8
     have e:fq cs t d x=(decide (x.aB=0)&&(iq cs t x.c&&(bF cs t (d+1) x.bk&&bF cs t (d+1) x.br))):=by
      rw[fq,if_neg a1,if_neg a2,if_neg a3,if_neg a7,if_pos a8]
     rw[e] at kk;have hw:IntKind.i64.wrap (d+1)=d+1:=aY (by omega) (by omega);cases z with
     |false=>
      repeat first|refine Xa ?_|refine Zb ?_|refine Qb rfl ?_|refine Yc rfl ?_|refine Yd rfl ?_|refine Xd rfl ?_|refine Za (aj (ba x)) ?_|refine Za (aj (bu x)) ?_|refine Za (aj (bw x)) ?_|refine Za (aj (Zr x)) ?_|refine Za (aj (Yr x)) ?_|refine Za (Qf ..) ?_|refine Za (Xg ..) ?_|refine Za (aj (row:=bI m t) rfl) ?_|refine Za (Yn ..) ?_|refine Za rfl ?_
      exact kk _ rfl
     |true=>
      repeat first|refine Xa ?_|refine Zb ?_|refine Za (aj (ba x)) ?_|refine Za (aj (bu x)) ?_|refine Za (aj (bw x)) ?_|refine Za (aj (Zr x)) ?_|refine Za (aj (Yr x)) ?_|refine Za (Qf ..) ?_|refine Za (Xg ..) ?_|refine Za (aj (row:=bI m t) rfl) ?_|refine Za (Yn ..) ?_|refine Za rfl ?_
      rcases aL (decide (x.aB=0)) with h3|h3
      rotate_left
      ·rw[h3] at kk ⊢;repeat first|refine Xa ?_|refine Zb ?_|refine Qb rfl ?_|refine Yc rfl ?_|refine Yd rfl ?_|refine Xd rfl ?_|refine Za (aj (ba x)) ?_|refine Za (aj (bu x)) ?_|refine Za (aj (bw x)) ?_|refine Za (aj (Zr x)) ?_|refine Za (aj (Yr x)) ?_|refine Za (Qf ..) ?_|refine Za (Xg ..) ?_|refine Za (aj (row:=bI m t) rfl) ?_|refine Za (Yn ..) ?_|refine Za rfl ?_
       exact kk _ (by simp)
      rw[h3] at kk ⊢;repeat first|refine Xa ?_|refine Zb ?_|refine Za (aj (ba x)) ?_|refine Za (aj (bu x)) ?_|refine Za (aj (bw x)) ?_|refine Za (aj (Zr x)) ?_|refine Za (aj (Yr x)) ?_|refine Za (Qf ..) ?_|refine Za (Xg ..) ?_|refine Za (aj (row:=bI m t) rfl) ?_|refine Za (Yn ..) ?_|refine Za rfl ?_
      refine Qc (c213 m cs hU t x.c _ _ (Sr x) (YZ jg)) rfl kl.plain rfl ?_;repeat first|refine Xa ?_|refine Zb ?_|refine Za (aj (ba x)) ?_|refine Za (aj (bu x)) ?_|refine Za (aj (bw x)) ?_|refine Za (aj (Zr x)) ?_|refine Za (aj (Yr x)) ?_|refine Za (Qf ..) ?_|refine Za (Xg ..) ?_|refine Za (aj (row:=bI m t) rfl) ?_|refine Za (Yn ..) ?_|refine Za rfl ?_
      rcases aL (iq cs t x.c) with h4|h4
      rotate_left
      ·rw[h4] at kk ⊢;repeat first|refine Xa ?_|refine Zb ?_|refine Qb rfl ?_|refine Yc rfl ?_|refine Yd rfl ?_|refine Xd rfl ?_|refine Za (aj (ba x)) ?_|refine Za (aj (bu x)) ?_|refine Za (aj (bw x)) ?_|refine Za (aj (Zr x)) ?_|refine Za (aj (Yr x)) ?_|refine Za (Qf ..) ?_|refine Za (Xg ..) ?_|refine Za (aj (row:=bI m t) rfl) ?_|refine Za (Yn ..) ?_|refine Za rfl ?_
       exact kk _ (by simp)
      rw[h4] at kk ⊢;repeat first|refine Xa ?_|refine Zb ?_|refine Za (aj (ba x)) ?_|refine Za (aj (bu x)) ?_|refine Za (aj (bw x)) ?_|refine Za (aj (Zr x)) ?_|refine Za (aj (Yr x)) ?_|refine Za (Qf ..) ?_|refine Za (Xg ..) ?_|refine Za (aj (row:=bI m t) rfl) ?_|refine Za (Yn ..) ?_|refine Za rfl ?_
      rw[hw];refine Qc (tM m cs hU t k x.bk (d+1) (by omega) (QI jg) (by omega)) rfl gb.plain rfl ?_;repeat first|refine Xa ?_|refine Zb ?_|refine Za (aj (ba x)) ?_|refine Za (aj (bu x)) ?_|refine Za (aj (bw x)) ?_|refine Za (aj (Zr x)) ?_|refine Za (aj (Yr x)) ?_|refine Za (Qf ..) ?_|refine Za (Xg ..) ?_|refine Za (aj (row:=bI m t) rfl) ?_|refine Za (Yn ..) ?_|refine Za rfl ?_
      rcases aL (bF cs t (d+1) x.bk) with h5|h5
      rotate_left
      ·rw[h5] at kk ⊢;repeat first|refine Xa ?_|refine Zb ?_|refine Qb rfl ?_|refine Yc rfl ?_|refine Yd rfl ?_|refine Xd rfl ?_|refine Za (aj (ba x)) ?_|refine Za (aj (bu x)) ?_|refine Za (aj (bw x)) ?_|refine Za (aj (Zr x)) ?_|refine Za (aj (Yr x)) ?_|refine Za (Qf ..) ?_|refine Za (Xg ..) ?_|refine Za (aj (row:=bI m t) rfl) ?_|refine Za (Yn ..) ?_|refine Za rfl ?_
       exact kk _ (by simp)
      rw[h5] at kk ⊢;repeat first|refine Xa ?_|refine Zb ?_|refine Za (aj (ba x)) ?_|refine Za (aj (bu x)) ?_|refine Za (aj (bw x)) ?_|refine Za (aj (Zr x)) ?_|refine Za (aj (Yr x)) ?_|refine Za (Qf ..) ?_|refine Za (Xg ..) ?_|refine Za (aj (row:=bI m t) rfl) ?_|refine Za (Yn ..) ?_|refine Za rfl ?_
      rw[hw];refine Qc (tM m cs hU t k x.br (d+1) (by omega) (XI jg) (by omega)) rfl gb.plain rfl ?_;repeat first|refine Xa ?_|refine Zb ?_|refine Za (aj (ba x)) ?_|refine Za (aj (bu x)) ?_|refine Za (aj (bw x)) ?_|refine Za (aj (Zr x)) ?_|refine Za (aj (Yr x)) ?_|refine Za (Qf ..) ?_|refine Za (Xg ..) ?_|refine Za (aj (row:=bI m t) rfl) ?_|refine Za (Yn ..) ?_|refine Za rfl ?_
      exact kk _ (by simp)
    clear eN;refine Zc (λc1=>m3 _ ?_) (λc1=>?_)
    ·simp at c1; simp[c1]
    refine Za (Qf ..) (m3 _ ?_);simp at c1; simp[c1]
   clear eN;refine Zc (λc1=>m2 _ ?_) (λc1=>?_)
   ·simp at c1; simp[c1]
   refine Za (Qf ..) (Zc (λc2=>m2 _ ?_) (λc2=>?_))
   ·simp at c2; simp[c2]
   refine Za (Qf ..) (m2 _ ?_);simp at c1 c2; simp[c1,c2]
  clear eN;refine Zc (λc1=>m1 _ ?_) (λc1=>?_)
  ·simp at c1; simp[c1]
  refine Za (Qf ..) (m1 _ ?_);simp at c1; simp[c1]
theorem c157(m:List (Tx×Bool))(cs:List Cd)(hU:mE m cs)(t:Bool)(l:List Ef)(d:Int)(hf:bA l=true)(hd:0≤d):PC 157 [.ay (bI m t) 0,ju l,iv d] (.bool (bF cs t d l)):=tM m cs hU t _ l d (Nat.le_refl _) hf hd
end Go.Ah.Tz
end
section
namespace Go.Ah.Tz
open Go.Proofs.Tryz (prog)
attribute [local irreducible] al.rd al.pu al.wr al.dr al.gr al.gw al.gl al.gd al.opt au W
set_option maxHeartbeats 2000000
theorem c221(m:List (Tx×Bool))(cs:List Cd)(hU:mE m cs)(c:Cd)(hf:gE c=true)
 (h223:PC 223 [.str c.name] (.bool (cP c.name)))(h124:PC 124 [.agg (cD c)] (iv (qF c))) :
  PC 221 [.ay (cD c) 0,.dZ (hO m)] (.bool (eE cs c)):=by
 simp only[gE,Bool.and_eq_true,decide_eq_true_eq] at hf;obtain⟨f0,f1,f2,f3⟩:=hf;have bad:eE cs c=false→aa.bool false=aa.bool (eE cs c):=λh=>by rw[h]
 refine Qd hP lU rfl rfl ?_;unfold g221;repeat first|refine Za (aj (row:=cD c) rfl) ?_|refine Za rfl ?_
 refine XF 7 ?_;refine Xm (Za rfl (Ye (Za rfl (Za rfl (QD rfl rfl (Zc (λh=>bad ?_) (λb1=>Za rfl ?_)))))))
 ·have:aQ c.cost=false:=by
   rw[Bool.eq_false_iff]; intro hh; simp[aQ] at hh; simp at h; omega
  simp[eE,this]
 have b1:0≤c.cost∧c.cost≤999:=by simp at b1; omega
 refine Xm (Za rfl (Ye (Za rfl (Za rfl (QD rfl rfl (Zc (λh=>bad ?_) (λb2=>Za rfl ?_)))))))
 ·have:aQ c.bU=false:=by
   rw[Bool.eq_false_iff]; intro hh; simp[aQ] at hh; simp at h; omega
  simp[eE,this]
 have b2:0≤c.bU∧c.bU≤999:=by simp at b2; omega
 refine Xm (Za rfl (Ye (Za rfl (Za rfl (QD rfl rfl (Zc (λh=>bad ?_) (λb3=>Za rfl ?_)))))))
 ·have:aQ c.aT=false:=by
   rw[Bool.eq_false_iff]; intro hh; simp[aQ] at hh; simp at h; omega
  simp[eE,this]
 have b3:0≤c.aT∧c.aT≤999:=by simp at b3; omega
 refine Xm (Za rfl (Ye (Za rfl (Za rfl (QD rfl rfl (Zc (λh=>bad ?_) (λb4=>Za rfl ?_)))))))
 ·have:aQ c.bC=false:=by
   rw[Bool.eq_false_iff]; intro hh; simp[aQ] at hh; simp at h; omega
  simp[eE,this]
 have b4:0≤c.bC∧c.bC≤999:=by simp at b4; omega
 refine Xm (Za rfl (Ye (Za rfl (Za rfl (QD rfl rfl (Zc (λh=>bad ?_) (λb5=>Za rfl ?_)))))))
 ·have:aQ c.cG=false:=by
   rw[Bool.eq_false_iff]; intro hh; simp[aQ] at hh; simp at h; omega
  simp[eE,this]
 have b5:0≤c.cG∧c.cG≤999:=by simp at b5; omega
 refine Xm (Za rfl (Ye (Za rfl (Za rfl (QD rfl rfl (Zc (λh=>bad ?_) (λb6=>Za rfl ?_)))))))
 ·have:aQ c.dq=false:=by
   rw[Bool.eq_false_iff]; intro hh; simp[aQ] at hh; simp at h; omega
  simp[eE,this]
 have b6:0≤c.dq∧c.dq≤999:=by simp at b6; omega
 refine Xm (Za rfl (Xh ?_));have de:eE cs c=(cP c.name&&(decide (qF c≤200)&&(eG c&&(bF cs true 1 c.bB&&(bF cs false 1 c.dead&&bF cs false 1 c.eh))))):=by
  have e1:aQ c.cost=true:=by simp[aQ]; omega
  have e2:aQ c.bU=true:=by simp[aQ]; omega
  have e3:aQ c.aT=true:=by simp[aQ]; omega
  have e4:aQ c.bC=true:=by simp[aQ]; omega
  have e5:aQ c.cG=true:=by simp[aQ]; omega
  have e6:aQ c.dq=true:=by simp[aQ]; omega
  simp only[eE,e1,e2,e3,e4,e5,e6,Bool.true_and];generalize decide (qF c≤200)=w;cases w<;>simp
 rw[de] at bad ⊢;clear de;repeat first|refine Za (aj (row:=cD c) rfl) ?_|refine Za rfl ?_
 refine Qc h223 rfl km.plain rfl ?_;refine Za rfl ?_;refine Qk λk33 xa=>?_;have Ii:(cP c.name&&(decide (qF c≤200)&&(eG c&&(bF cs true 1 c.bB&&(bF cs false 1 c.dead&&bF cs false 1 c.eh)))))=false→k33 [.bool true] []:=by
  intro h;rw[xa];exact Ye (bad h)
 have RB:cP c.name=true→qF c≤200→(c.unit=true→1≤c.aT)→k33 [.bool false] []:=by
  intro n1 n2 n3;rw[xa]; clear xa Ii k33;rw[n1,decide_eq_true n2,Bool.true_and,Bool.true_and] at bad ⊢;refine Xh ?_;repeat first|refine Za (aj (row:=cD c) rfl) ?_|refine Za rfl ?_
  apply nW (eG c=true)
  ·intro hR;cases hu:c.unit with
   |true=>
    repeat first|refine Xa ?_|refine Zb ?_|refine Qb rfl ?_|refine Yc rfl ?_|refine Yd rfl ?_|refine Xd rfl ?_|refine Za (aj (row:=cD c) rfl) ?_|refine Za rfl ?_
    refine Xh (hR ?_);simp[eG,hu,n3 hu]
   |false=>
    repeat first|refine Xa ?_|refine Zb ?_|refine Qb rfl ?_|refine Yc rfl ?_|refine Yd rfl ?_|refine Xd rfl ?_|refine Za (aj (row:=cD c) rfl) ?_|refine Za rfl ?_
    rw[aY (n:=c.bU+c.aT) (by omega) (by omega),aY (n:=c.bU+c.aT+c.bC) (by omega) (by omega),aY (n:=c.bU+c.aT+c.bC+c.cG) (by omega) (by omega),aY (n:=c.bU+c.aT+c.bC+c.cG+c.dq) (by omega) (by omega)];rcases aL (decide (c.bU+c.aT+c.bC+c.cG+c.dq>0)) with h|h
    ·rw[h];repeat first|refine Xa ?_|refine Zb ?_|refine Qb rfl ?_|refine Yc rfl ?_|refine Yd rfl ?_|refine Xd rfl ?_|refine Za (aj (row:=cD c) rfl) ?_|refine Za rfl ?_
     refine Ye (bad ?_);have h:¬(c.bU+c.aT+c.bC+c.cG+c.dq≤0):=by simp at h; omega
     simp[eG,hu,h]
    rw[h];repeat first|refine Xa ?_|refine Zb ?_|refine Za (aj (row:=cD c) rfl) ?_|refine Za rfl ?_
    have h:(c.bU+c.aT+c.bC+c.cG+c.dq≤0):=by simp at h; omega
    have l1:=ZC f2;have l2:=ZC f3;rw[cM] at l1 l2;rw[List.length_map,List.length_map,aY (n:=(c.dead.length:Int)+(c.eh.length:Int)) (by omega) (by omega)];refine Zc (λh2=>bad ?_) (λh2=>hR ?_)
    ·have h2:¬(c.dead.length+c.eh.length=0):=by simp at h2; omega
     have:eG c=false:=by rw[eG,hu,decide_eq_false h2]; simp
     simp[this]
    ·have h2:(c.dead.length+c.eh.length=0):=by simp at h2; omega
     rw[eG,hu,decide_eq_true h2,decide_eq_true h]; rfl
  intro b7;rw[b7,Bool.true_and];refine Za rfl (Ze rfl rfl (Za rfl (Za rfl (Za (aj (row:=cD c) rfl) ?_))));refine YB (c157 m cs hU true c.bB 1 f1 (by omega)) rfl gb.plain rfl rfl ?_;refine Za rfl (Zc (λp1=>?_) (λp1=>?_))
  ·have p1:bF cs true 1 c.bB=false:=by simpa using p1
   rw[p1]; rfl
  have p1:bF cs true 1 c.bB=true:=by simpa using p1
  rw[p1,Bool.true_and];refine Za rfl (Za rfl (Ze rfl rfl (Za rfl (Za rfl (Za (aj (row:=cD c) rfl) ?_)))));refine YB (c157 m cs hU false c.dead 1 f2 (by omega)) rfl gb.plain rfl rfl ?_;rcases aL (bF cs false 1 c.dead) with p2|p2
  rotate_left
  ·rw[p2];repeat first|refine Xa ?_|refine Zb ?_|refine Qb rfl ?_|refine Yc rfl ?_|refine Yd rfl ?_|refine Xd rfl ?_|refine Za (aj (row:=cD c) rfl) ?_|refine Za rfl ?_
   rfl
  rw[p2];repeat first|refine Xa ?_|refine Zb ?_|refine Za (aj (row:=cD c) rfl) ?_|refine Za rfl ?_
  refine YB (c157 m cs hU false c.eh 1 f3 (by omega)) rfl gb.plain rfl rfl ?_;repeat first|refine Xa ?_|refine Zb ?_|refine Za (aj (row:=cD c) rfl) ?_|refine Za rfl ?_
  rfl
 clear xa bad;refine Zc (λn1=>?_) (λn1=>?_)
 ·rw[n1];refine Ii ?_;have n1:cP c.name=false:=by simpa using n1
  rw[n1]; rfl
 have n1:cP c.name=true:=by simpa using n1
 refine Za rfl (Za (aj (pJ c)) ?_);refine Qc h124 rfl lE.plain rfl ?_;refine Za rfl (Zc (λn2=>?_) (λn2=>?_))
 ·rw[n2];refine Ii ?_;have n2:¬qF c≤200:=by simp at n2; omega
  rw[decide_eq_false n2]; simp
 have n2:qF c≤200:=by simp at n2; omega
 repeat first|refine Za (aj (row:=cD c) rfl) ?_|refine Za rfl ?_
 cases hu:c.unit with
 |false=>
  repeat first|refine Xa ?_|refine Zb ?_|refine Qb rfl ?_|refine Yc rfl ?_|refine Yd rfl ?_|refine Xd rfl ?_|refine Za (aj (row:=cD c) rfl) ?_|refine Za rfl ?_
  exact RB n1 n2 (λh=>by rw[hu] at h; cases h)
 |true=>
  repeat first|refine Xa ?_|refine Zb ?_|refine Za (aj (row:=cD c) rfl) ?_|refine Za rfl ?_
  rcases aL (decide (c.aT<1)) with h|h
  ·rw[h];refine Ii ?_;have:eG c=false:=by simp at h; simp[eG,hu]; omega
   rw[this]; simp
  ·rw[h];exact RB n1 n2 (λ_=>by simp at h; omega)
end Go.Ah.Tz
end
section
namespace Go.Ah.Tz
open Go.Proofs.Tryz (prog)
def jM(t:Tx)(v:Bool):List (Tx×Bool)→List (Tx×Bool)
 |[]=>[(t,v)]
 |p::l=>if t==p.1 then (t,v)::l else p::jM t v l
theorem Oo(t:Tx)(v:Bool):∀l,mK (.str t) (.bool v) (hO l)=some (hO (jM t v l))
 |[]=>rfl
 |p::l=>by
  simp only[hO,List.map_cons,mK,gL,jM];cases h:t==p.1 with
  |true=>rfl
  |false=>
   have:=Oo t v l;simp only[hO] at this;simp only[this]; rfl
theorem QR(t n:Tx)(v:Bool):∀l,bg t (jM n v l)=if t==n then some v else bg t l
 |[]=>by simp[jM,bg]
 |p::l=>by
  simp only[jM];by_cases h:n==p.1
  ·have e:n=p.1:=by simpa using h
   rw[if_pos h,bg,bg,←e];by_cases h2:t==n<;>simp[h2]
  ·rw[if_neg h,bg,bg,QR t n v l];have e:n≠p.1:=by simpa using h
   by_cases h2:t==p.1
   ·have e2:t=p.1:=by simpa using h2
    have:¬(t==n)=true:=by simp[e2]; exact λh=>e h.symm
    rw[if_pos h2,if_neg this,if_pos h2]
   ·rw[if_neg h2];by_cases h3:t==n<;>simp[h3,h2]
theorem JI:∀l,s7 (hO l)=true
 |[]=>rfl
 |p::l=>by
  have:=JI l;simp only[hO] at this;simp[hO,s7,aa.ro,this]
theorem UJ{σ:List ab}{b:Nat}{l:List (Tx×Bool)}(h:ah σ b=.map (hO l))(row:List aa)(j:Nat):Xu σ 1000 [.ay row j,.map b]=some ([.ay row j,.dZ (hO l)],[b]):=by
 show Xu σ (998+1+1) _=_;simp[Xu,h,JI,aa.ro]
theorem SH{σ:List ab}{b:Nat}{l:List (Tx×Bool)}(h:ah σ b=.map (hO l))(t:Tx):Qr true true (.bool false) [.map b,.str t] σ=.ok (.aG [.bool ((bg t l).getD false),.bool (bg t l).isSome]) [b] []:=by
 simp only[Qr,Z5,mapOf,h,X7,cond_true];cases bg t l<;>rfl
theorem Iq{σ:List ab}{b:Nat}{l:List (Tx×Bool)}(h:ah σ b=.map (hO l))(t:Tx):Qr true false (.bool false) [.map b,.str t] σ=.ok (.bool ((bg t l).getD false)) [b] []:=by
 simp only[Qr,Z5,mapOf,h,X7,cond_true];cases bg t l<;>rfl
theorem DA{σ:List ab}{b:Nat}{l:List (Tx×Bool)}(h:ah σ b=.map (hO l))(t:Tx)(v:Bool):Xz true [.map b,.str t,.bool v] σ=.ok .aI [] [(b,.map (hO (jM t v l)))]:=by
 simp only[Xz,Z5,h,Oo,cond_true]
def jW:List Cd→Tx→Option Bool
 |[],_=>none
 |c::l,t=>if c.name==t then some c.unit else jW l t
theorem NL:∀ (l:List Cd) (t:Tx) (u:Bool),eQ l t u=(match jW l t with
 |none=>false
 | some b=>b || !u)
 |[],_,_=>rfl
 |c::l,t,u=>by
  simp only[eQ,jW];by_cases h:c.name==t
  ·rw[if_pos h,if_pos h]
  ·rw[if_neg h,if_neg h]; exact NL l t u
theorem I4:∀ (l:List Cd) (c:Cd) (t:Tx),jW (l ++ [c]) t=(match jW l t with
 |some b=>some b
 | none=>if c.name == t then some c.unit else none)
 |[],_,_=>rfl
 |d::l,c,t=>by
  simp only[List.cons_append,jW];by_cases h:d.name==t
  ·rw[if_pos h,if_pos h]
  ·rw[if_neg h,if_neg h]; exact I4 l c t
def gn(m:List (Tx×Bool))(l:List Cd):Prop:=∀t,bg t m=jW l t
theorem gn.ae{m:List (Tx×Bool)}{l:List Cd}(h:gn m l):mE m l:=by
 intro t u; rw[NL,h t]<;>cases jW l t<;>rfl
theorem gn.sn{m:List (Tx×Bool)}{l:List Cd}(h:gn m l){c:Cd}(hc:(bg c.name m).isSome=true):gn m (l++[c]):=by
 intro t;rw[I4,←h t];cases e:bg t m with
 |some b=>rfl
 |none=>
  by_cases h2:c.name==t
  ·have:c.name=t:=by simpa using h2
   rw[this,e] at hc; cases hc
  ·rw[if_neg h2]
theorem gn.new{m:List (Tx×Bool)}{l:List Cd}(h:gn m l){c:Cd}(hc:(bg c.name m).isSome=false):gn (jM c.name c.unit m) (l++[c]):=by
 intro t;rw[I4,←h t,QR];by_cases h2:t==c.name
 ·have e:t=c.name:=by simpa using h2
  subst e;cases e:bg c.name m with
  |some b=>rw[e] at hc; cases hc
  |none=>simp
 ·have h3:¬(c.name==t)=true:=by
   intro h; apply h2; simp at h; simp[h]
  rw[if_neg h2,if_neg h3];cases bg t m<;>rfl
def Seen(m:List (Tx×Bool))(l:List Cd):Prop:=∀t,(bg t m).getD false=l.any λd=>d.name==t
theorem Seen.put{m:List (Tx×Bool)}{l:List Cd}(h:Seen m l)(c:Cd):Seen (jM c.name true m) (l++[c]):=by
 intro t;rw[QR,List.any_append,←h t];by_cases h2:t==c.name
 ·have e:t=c.name:=by simpa using h2
  simp[e]
 ·have h3:(c.name==t)=false:=by
   rw[Bool.eq_false_iff]; intro h; apply h2; simp at h; simp[h]
  rw[if_neg h2]; simp[h3]
theorem Xj{σ:List ab}{b:Nat}(x:ab)(h:b<σ.length):ah (σ.set b x) b=x:=ZN (by simp[h])
attribute [local irreducible] al.rd al.pu al.wr al.dr al.gr al.gw al.gl al.gd al.opt au W
set_option maxHeartbeats 1000000
theorem c180(cs:List Cd)(hf:YS cs=true)(h221:∀m,mE m cs→∀c∈cs,PC 221 [.ay (cD c) 0,.dZ (hO m)] (.bool (eE cs c))) :
  PC 180 [gG cs] (.agg [iv (dF cs).1,iv (dF cs).2]):=by
 simp only[YS,Bool.and_eq_true,decide_eq_true_eq] at hf;obtain⟨f0,f1⟩:=hf;rw[cM] at f0;refine Qd hP lK rfl rfl ?_;unfold g180;refine Ze rfl rfl (Za rfl (Za rfl ?_));refine Zc (λh=>?_) (λh=>?_)
 ·have h:240<cs.length:=by simp at h; omega
  refine Za rfl (Ze rfl rfl (Ql rfl ?_));rw[dF,if_pos h]
 have h:¬240<cs.length:=by simp at h; omega
 rw[dF,if_neg h];refine Ze rfl rfl (Za rfl ?_);refine Zl (ι:=Nat) (λi vs σ=>∃m,vs=[iv i]∧ah σ 0=.box [iv 0,iv 0]∧ah σ 1=.map (hO m)∧1<σ.length∧i≤cs.length∧gn m (cs.take i)) (λi=>cs.length-i) 0 ⟨[],rfl,rfl,rfl,by simp,by omega,λt=>by simp[bg,jW]⟩ ?_;rintro i vs σ again ⟨m,rfl,hz,hm,eJ,hi,hu⟩ aM;refine Za rfl ?_;refine Zc (λh=>?_) (λh=>?_)
 ·have pV:i<cs.length:=by simpa using h
  have bW:=λ(s:List ab)=>Zp s cD false false 12 cs .i64 i pV;have hJ:cs.take (i+1)=cs.take i++[cs[i]]:=Yy cs i pV;generalize cs[i]=c at bW hJ;refine Qk λk10 pW=>?_;have kk:∀m' σ',gn m' (cs.take i++[c])→ah σ' 0=.box [iv 0,iv 0]→ah σ' 1=.map (hO m')→1<σ'.length→k10 [] σ':=by
   intro m' σ' q1 q2 q3 q4;rw[pW];refine Za (Xk ..) ?_;rw[Zf (n:=i) (by omega)];exact aM (i+1) _ _ (by omega) ⟨m',rfl,q2,q3,q4,by omega,by rw[hJ]; exact q1⟩
  clear pW aM;refine Za (bW _) (Za (aj (pJ _)) (Yt (row:=cD c) (row':=cD c) rfl rfl rfl ?_));have aC:=Zi σ (ab.box (cD c));have rl:ah (σ++[ab.box (cD c)]) 0=.box [iv 0,iv 0]:=Zg _ hz (by simp);have p_:ah (σ++[ab.box (cD c)]) 1=.map (hO m):=Zg _ hm (by simp);have kP:1<(σ++[ab.box (cD c)]).length:=by simp; omega
  generalize σ++[ab.box (cD c)]=base at aC rl p_ kP ⊢;generalize σ.length=b at aC ⊢;refine Za rfl (Za (ld aC rfl) (Za (SH p_ _) (Za rfl (Za rfl (Za rfl ?_)))));refine Zc (λh=>?_) (λh=>?_)
  ·have h:(bg c.name m).isSome=false:=by simpa using h
   refine Za rfl (Za (ld aC rfl) (Za rfl (Za (ld aC rfl) (Ze (DA p_ _ _) (Xn _ kP) ?_))));exact kk _ _ (hu.new h) (Zj rl (by simp) (by omega)) (Xj _ kP) (by simpa using kP)
  ·have h:(bg c.name m).isSome=true:=by simpa using h
   exact kk _ _ (hu.sn h) rl p_ kP
 have h:i=cs.length:=by simp at h; omega
 subst h;rw[List.take_length] at hu;have xd:=h221 m hu.ae;clear aM hu h221;refine Ze rfl (Yq _ _) (Za rfl ?_);have rl:ah (σ++[ab.map []]) 0=.box [iv 0,iv 0]:=Zg _ hz (by simp);have p_:ah (σ++[ab.map []]) 1=.map (hO m):=Zg _ hm (by simp);have Ic:ah (σ++[ab.map []]) σ.length=.map (hO []):=Zi _ _;have kP:σ.length<(σ++[ab.map []]).length:=by simp
 generalize σ++[ab.map []]=base at rl p_ Ic kP ⊢;generalize σ.length=b at Ic kP eJ ⊢;refine Zl (ι:=Nat) (λi vs s=>∃m2,vs=[iv i]∧ah s 0=.box [iv 0,iv 0]∧ah s 1=.map (hO m)∧ah s b=.map (hO m2)∧b<s.length∧i≤cs.length∧Seen m2 (cs.take i)∧fk cs [] cs=fk cs (cs.take i) (cs.drop i)) (λi=>cs.length-i) 0 ⟨[],rfl,rl,p_,Ic,kP,by omega,λt=>by simp[bg],by simp⟩ ?_;clear rl p_ Ic kP base hz hm σ;rintro i vs s again ⟨m2,rfl,hz,hm,hs,hl,hi,yK,hu⟩ aM;refine Za rfl ?_;refine Zc (λh=>?_) (λh=>?_);rotate_left
 ·have h:i=cs.length:=by simp at h; omega
  subst h;rw[List.drop_length,fk] at hu;refine Za rfl (Ze (iy hz rfl rfl rfl) (Xn _ (by show 0<s.length; omega)) (Ql (YI (by show 0<s.length; omega) rfl) ?_));rw[hu]
 have pV:i<cs.length:=by simpa using h
 have cO:cs.drop i=cs[i]::cs.drop (i+1):=by rw[eD pV]
 have bW:=λ(s:List ab)=>Zp s cD false false 12 cs .i64 i pV;have hJ:cs.take (i+1)=cs.take i++[cs[i]]:=Yy cs i pV;have Fi:=xd _ (List.getElem_mem pV);generalize cs[i]=c at bW hJ cO Fi;rw[cO,fk,←yK c.name] at hu;refine Za (bW _) (Za rfl (Za rfl (Za (aj (nL _)) (Za (Iq hs _) ?_))));refine Zc (λh=>?_) (λh=>?_)
 ·rw[if_pos h] at hu;refine Za rfl (Za rfl (Za (aj (HG _)) (Za rfl (Ze (iy hz rfl rfl rfl) (Xn _ (by show 0<s.length; omega)) (Ql (YI (by show 0<s.length; omega) rfl) ?_)))));rw[hu]
 rw[if_neg (by rw[h]; simp)] at hu;refine YB Fi rfl lU.plain (UJ hm _ _) rfl ?_;refine Za rfl ?_;refine Zc (λh=>?_) (λh=>?_)
 ·have h:eE cs c=false:=by simpa using h
  rw[h] at hu
  replace hu:fk cs [] cs=(130,c.pl):=hu
  refine Za rfl (Za rfl (Za (aj (HG _)) (Za rfl (Ze (iy hz rfl rfl rfl) (Xn _ (by show 0<s.length; omega)) (Ql (YI (by show 0<s.length; omega) rfl) ?_)))));rw[hu]
 ·have h:eE cs c=true:=by simpa using h
  rw[h,if_pos rfl] at hu;refine Za rfl (Za rfl (Za (aj (nL _)) (Ze (DA hs _ _) (Xn _ hl) (Za (Xk ..) ?_))));rw[Zf (n:=i) (by omega)];refine aM (i+1) _ _ (by omega) ⟨_,rfl,?_,?_,Xj _ hl,by simpa using hl,by omega,by rw[hJ]; exact yK.put c,by rw[hJ]; exact hu⟩
  ·exact Zj hz (by simp) (by omega)
  ·exact Zj hm (by simp) (by omega)
end Go.Ah.Tz
end
section
namespace Go.Ah.Tz
open Go.Proofs.Tryz (prog)
set_option maxRecDepth 1000000
theorem WN:∀f np g,tb.get f=some (np,g)→GQ f np g:=GT.oS Gp
def FR:Tx:=[99,97,114,100,32,117,110,105,116,32,99,104,97,114,109,32,102,111,114,109,97,116,32,112,108,97,121,101,100,32,100,101,97,100,32,100,97,119,110,32,97,117,114,97,32,115,104,105,101,108,100,32,104,97,114,109,32,109,101,110,100,32,100,114,97,119,32,103,97,105,110,32,100,114,111,112,32,108,111,111,107,32,115,104,111,119,32,115,117,109,109,111,110,32,105,102,32,101,108,115,101,32,109,101,32,102,111,101,32,116,97,114,103,101,116,32,108,105,102,101,32,104,97,110,100,32,100,101,99,107,32,117,110,105,116,115,32,109,97,110,97,32,99,111,115,116,32,116,111,112,32,112,111,119,101,114,32,109,105,110,32,109,97,120,32,110,111,116,32,97,110,100,32,111,114,32,104,111,108,100,115,32,108,101,97,115,116,32,109,111,115,116,32,99,111,112,105,101,115,32,98,97,110,110,101,100,32,115,105,110,103,108,101]
theorem p264:PC 264 [.str FR] (.ax true false 1 (il.map s9)):=GP hP WN (much:=1000000000) 60 (by kernel_rfl)
def qt:List (Tx×Bool):=il.foldl (λm k=>jM k true m) []
theorem MU(t:Tx):∀(l:List Tx) (m:List (Tx×Bool)),(bg t (l.foldl (λm k=>jM k true m) m)).getD false=((bg t m).getD false||iP l t)
 |[],m=>by simp[iP]
 |k::l,m=>by
  rw[List.foldl_cons,MU t l,QR,iP];by_cases h:t==k
  ·have e:t=k:=by simpa using h
   subst e; simp
  ·have h2:(k==t)=false:=by
    rw[Bool.eq_false_iff]; intro q; apply h; simp at q; simp[q]
   rw[if_neg h,h2,Bool.false_or]
theorem Wb(t:Tx):(bg t qt).getD false=iP il t:=by
 rw[qt,MU]; rfl
attribute [local irreducible] al.rd al.pu al.wr al.dr al.gr al.gw al.gl al.gd al.opt au W
theorem c258:PC 258 [] (.dZ (hO qt)):=by
 refine Nv hP mm rfl ⟨.map 0,[.map (hO qt)],?_,?_⟩
 ·show (match Xu [.map (hO qt)] (998 + 1 + 1) [.map 0] with
   |some ([y],_)=>some y
   | _=>none)=_
  have:ah [ab.map (hO qt)] 0=.map (hO qt):=rfl;simp only[Xu,this,JI,cond_true]
 unfold g258;refine Ze rfl rfl ?_;refine Qc p264 rfl oL.plain rfl ?_;refine Za rfl ?_;have hlen:il.length=41:=rfl;unfold qt;generalize il=l at hlen ⊢;refine Zl (ι:=Nat) (λi vs σ=>∃m,vs=[iv i]∧σ=[.map (hO m)]∧i≤l.length∧l.foldl (λm k=>jM k true m) []=(l.drop i).foldl (λm k=>jM k true m) m) (λi=>l.length-i) 0 ⟨[],rfl,rfl,by omega,by simp⟩ ?_;rintro i vs σ again ⟨m,rfl,rfl,hi,hu⟩ aM;refine Za rfl ?_;refine Zc (λh=>?_) (λh=>?_)
 ·have h:i<l.length:=by simpa using h
  have cO:l.drop i=l[i]::l.drop (i+1):=by rw[eD h]
  rw[cO,List.foldl_cons] at hu;refine Za (Zp _ s9 _ _ _ l .i64 i h) (Za (aj (vi _)) (Ze (DA (b:=0) rfl _ _) rfl (Za (Xk ..) ?_)));rw[Zf (n:=i) (by omega)];exact aM (i+1) _ _ (by omega) ⟨_,rfl,rfl,by omega,hu⟩
 ·have h:i=l.length:=by simp at h; omega
  subst h;rw[List.drop_length,List.foldl_nil] at hu;rw[hu]; exact⟨rfl,rfl⟩
theorem c242(s:Tx):PC 242 [.str s] (.bool (iP il s)):=by
 refine Qd hP mf rfl rfl ?_;unfold g242;refine Qc c258 rfl mm.plain rfl ?_;refine Za (Yn ..) ?_;rw[Wb]
end Go.Ah.Tz
end
section
namespace Go.Ah.Tz
open Go.Proofs.Tryz (prog)
attribute [local irreducible] al.rd al.pu al.wr al.dr al.gr al.gw al.gl al.gd al.opt au W
theorem c257(x:Int):PC 257 [.int .i32 x] (.bool (eT x)):=by
 refine Qd hP ml rfl rfl ?_;unfold g257;refine Za rfl (X6 rfl rfl ?_);exact congrArg aa.bool (by rw[Bool.eq_iff_iff]; simp[eT])
theorem c256(x:Int):PC 256 [.int .i32 x] (.bool (isLet x)):=by
 refine Qd hP mj rfl rfl ?_;unfold g256;refine Za rfl (X6 rfl rfl ?_);refine Qk λk1 eN=>?_;have kk:∀c,c=decide ((97≤x∧x≤122)∨(65≤x∧x≤90))→k1 [.bool c] []:=by
  rintro c hc;rw[eN]; clear eN k1;refine Zc (λh=>?_) (λh=>?_)
  ·rw[h] at hc;have hc:(97≤x∧x≤122)∨(65≤x∧x≤90):=by simpa using hc.symm
   exact congrArg aa.bool (by rw[eq_comm,isLet,decide_eq_true_eq]; omega)
  rw[h] at hc;have hc:¬((97≤x∧x≤122)∨(65≤x∧x≤90)):=of_decide_eq_false hc.symm;refine Za (Qf ..) ?_;refine Qk λk1 eN=>?_;have k2:∀c,c=decide (x=215∨x=247)→k1 [.bool c] []:=by
   rintro c jy;rw[eN]; clear eN k1;refine Zc (λh=>?_) (λh=>?_)
   ·rw[h] at jy;have jy:x=215∨x=247:=of_decide_eq_true jy.symm;exact congrArg aa.bool (by rw[eq_comm,isLet,decide_eq_false_iff_not]; omega)
   rw[h] at jy;have jy:¬(x=215∨x=247):=of_decide_eq_false jy.symm;refine Za rfl (X6 rfl rfl ?_);exact congrArg aa.bool (by rw[Bool.eq_iff_iff,Bool.and_eq_true,isLet,decide_eq_true_eq,decide_eq_true_eq,decide_eq_true_eq]; omega)
  clear eN;refine Zc (λh=>k2 _ ?_) (λh=>?_)
  ·rw[h]; rw[eq_comm,decide_eq_true_eq]; exact Or.inl (of_decide_eq_true h)
  ·have h:x≠215:=of_decide_eq_false h;refine Za (Qf ..) (k2 _ ?_);rw[Bool.eq_iff_iff,decide_eq_true_eq,decide_eq_true_eq]; omega
 clear eN;refine Zc (λh=>kk _ ?_) (λh=>?_)
 ·rw[h]; rw[eq_comm,decide_eq_true_eq]; simp at h; omega
 ·refine Za rfl (X6 rfl rfl (kk _ ?_));rw[Bool.eq_iff_iff,Bool.and_eq_true,decide_eq_true_eq,decide_eq_true_eq,decide_eq_true_eq]; simp at h; omega
end Go.Ah.Tz
end
section
namespace Go.Ah.Tz
theorem mI{p:Nat→Bool}(h:(List.range 256).all p=true){c:Nat}(hc:c<256):p c=true:=List.all_eq_true.1 h c (List.mem_range.2 hc)
theorem D9{c:Nat}(hc:c<256):bits .and .i64 (c:Int) 31=((c%32:Nat):Int):=by
 have:=mI (p:=λc=>bits .and .i64 (c:Int) 31==((c%32:Nat):Int)) (by kernel_rfl) hc;simpa using this
theorem D8{c:Nat}(hc:c<256):bits .and .i64 (c:Int) 15=((c%16:Nat):Int):=by
 have:=mI (p:=λc=>bits .and .i64 (c:Int) 15==((c%16:Nat):Int)) (by kernel_rfl) hc;simpa using this
theorem J6{c:Nat}(hc:c<256):bits .and .i64 (c:Int) 7=((c%8:Nat):Int):=by
 have:=mI (p:=λc=>bits .and .i64 (c:Int) 7==((c%8:Nat):Int)) (by kernel_rfl) hc;simpa using this
theorem D_{c:Nat}(hc:c<256):bits .and .u8 (c:Int) 63=((c%64:Nat):Int):=by
 have:=mI (p:=λc=>bits .and .u8 (c:Int) 63==((c%64:Nat):Int)) (by kernel_rfl) hc;simpa using this
theorem zl{c:Nat}(hc:c<256):(bits .and .u8 (c:Int) 192 != 128) = !(c/64==2):=by
 have:=mI (p:=λc=>(bits .and .u8 (c:Int) 192 != 128) == !(c/64==2)) (by kernel_rfl) hc;simpa using this
theorem TQ(c:UInt8):qv c = !(c.toNat/64==2):=zl c.toNat_lt
theorem LA(q y:Nat)(hq:q<1099511627776)(hy:y<64):bits .or .i64 ((q*64:Nat):Int) (y:Int)=((q*64+y:Nat):Int):=by
 have h1:(BitVec.ofInt 64 ((q*64:Nat):Int)).toNat=q*64:=by
  rw[BitVec.toNat_ofInt]; omega
 have h2:(BitVec.ofInt 64 (y:Int)).toNat=y:=by
  rw[BitVec.toNat_ofInt]; omega
 have h3:q*64 ||| y=q*64+y:=by
  have:=Nat.two_pow_add_eq_or_of_lt (i:=6) (b:=y) (by omega) q;rw[show 2 ^ 6*q=q*64 by omega] at this;exact this.symm
 show IntKind.i64.wrap (((BitVec.ofInt 64 ((q*64:Nat):Int)) ||| (BitVec.ofInt 64 (y:Int))).toNat:Int)=_;rw[BitVec.toNat_or,h1,h2,h3];exact aY (by omega) (by omega)
theorem V4(x:Nat)(hx:x<1099511627776)(c:UInt8):sq (x:Int) c=((x*64+c.toNat%64:Nat):Int):=by
 have e:F9 (x:Int)=((x*64:Nat):Int):=by
  show IntKind.i64.wrap ((x:Int)*64)=_;rw[aY (by omega) (by omega)]; simp
 rw[sq,e,D_ c.toNat_lt,aY (by omega) (by omega)];exact LA x _ hx (Nat.mod_lt _ (by omega))
theorem Te(s:Tx)(a:Nat)(ha:a<s.length) :
  (((cR s a).2≠0→((Utf8.decode ⟨s.toArray⟩ a).1:Int)=(cR s a).1∧(Utf8.decode ⟨s.toArray⟩ a).2=(cR s a).2)∧((cR s a).2=0→(Utf8.decode ⟨s.toArray⟩ a).1=65533)):=by
 have sa:∀k,((⟨s.toArray⟩:ByteArray).get! (a+k))=(s[a+k]?).getD 0:=by
  intro k;show (s.toArray)[a+k]! = _;simp[List.getElem!_eq_getElem?_getD];rfl
 have ei:(⟨s.toArray⟩:ByteArray).size=s.length:=by simp[ByteArray.size]
 rw[cR,List.getElem?_eq_getElem ha];unfold Utf8.decode;simp only[sa,ei];have h0:(s[a+0]?).getD 0=s[a]:=by simp[List.getElem?_eq_getElem ha]
 rw[h0];have hb:s[a].toNat<256:=s[a].toNat_lt;generalize s[a].toNat=b at hb ⊢;have H4:∀k,¬a+k<s.length→s[a+k]?=none:=λk h=>by simp; omega
 have ht:∀(i x:Nat),x<1000000→∀m,dY s a (m+1) i (x:Int)=if a+i<s.length∧((s[a+i]?).getD 0).toNat/64=2 then dY s a m (i+1) ((x*64+((s[a+i]?).getD 0).toNat%64:Nat):Int) else none:=by
  intro i x hx m;by_cases h:a+i<s.length
  ·rw[dY,List.getElem?_eq_getElem h];simp only[TQ,Option.getD_some,h,true_and];by_cases h2:s[a+i].toNat/64=2
   ·simp[h2,V4 x (by omega)]
   ·simp[h2]
  ·rw[dY,H4 i h]; simp[h]
 have se:∀k,(decide (a+k<s.length)&&(((s[a+k]?).getD 0).toNat/64==2))=decide (a+k<s.length∧((s[a+k]?).getD 0).toNat/64=2):=by
  intro k; rw[Bool.eq_iff_iff]; simp
 simp only[se];have t1:=λx hx m=>ht 1 x hx m;have t2:=λx hx m=>ht 2 x hx m;have t3:=λx hx m=>ht 3 x hx m;clear ht se H4 sa ei h0;generalize ((s[a+1]?).getD 0).toNat=d1 at *;generalize ((s[a+2]?).getD 0).toNat=d2 at *;generalize ((s[a+3]?).getD 0).toNat=d3 at *;by_cases c1:b<128
 ·have hh:du (b:Int)=some (1,(b:Int),0):=by
   rw[du,if_neg (by omega),if_neg (by omega),if_neg (by omega),if_neg (by omega)]
  simp only[hh,if_pos c1,Nat.sub_self,dY,eW];rw[if_neg (by omega)]; simp
 rw[if_neg c1];by_cases c2:b<192
 ·have hh:du (b:Int)=none:=by
   rw[du,if_neg (by omega),if_neg (by omega),if_neg (by omega),if_pos (by omega)]
  simp only[hh];have e1:¬b/32=6:=by omega
  have e2:¬b/16=14:=by omega
  have e3:¬b/8=30:=by omega
  simp[e1,e2,e3,Utf8.runeError]
 by_cases c3:b<224
 ·have hh:du (b:Int)=some (2,((b%32:Nat):Int),128):=by
   rw[du,if_pos (by omega),D9 hb]
  have e1:b/32=6:=by omega
  have e2:¬b/16=14:=by omega
  have e3:¬b/8=30:=by omega
  simp only[hh];rw[t1 _ (by omega) 0];by_cases p1:a+1<s.length∧d1/64=2
  ·simp only[if_pos p1,dY,eW,e1,decide_eq_true p1,beq_self_eq_true,Bool.and_self,if_true];by_cases y:b%32*64+d1%64 ≥ 128
   ·rw[if_pos y,if_neg (by omega)]; simp
   ·rw[if_neg y,if_pos (by omega)]; simp[Utf8.runeError]
  ·simp only[if_neg p1,eW,decide_eq_false p1,Bool.and_false,Bool.false_and,Bool.false_eq_true,if_false];simp[Utf8.runeError]
 by_cases c4:b<240
 ·have hh:du (b:Int)=some (3,((b%16:Nat):Int),2048):=by
   rw[du,if_neg (by omega),if_pos (by omega),D8 hb]
  have e1:¬b/32=6:=by omega
  have e2:b/16=14:=by omega
  have e3:¬b/8=30:=by omega
  simp only[hh];rw[t1 _ (by omega) 1];have f1:(b/32==6)=false:=by simpa using e1
  by_cases p1:a+1<s.length∧d1/64=2
  ·rw[if_pos p1,t2 _ (by omega) 0];by_cases p2:a+2<s.length∧d2/64=2
   ·simp only[if_pos p2,dY,eW,f1,e2,decide_eq_true p1,decide_eq_true p2,beq_self_eq_true,Bool.and_self,if_true,Bool.false_and,Bool.false_eq_true,if_false];by_cases y:(b%16*64+d1%64)*64+d2%64<2048∨(55296≤(b%16*64+d1%64)*64+d2%64∧(b%16*64+d1%64)*64+d2%64≤57343)
    ·rw[if_pos (by omega),if_neg (by simp[Utf8.valid]; omega)]; simp[Utf8.runeError]
    ·rw[if_neg (by omega),if_pos (by simp[Utf8.valid]; omega)]; simp; omega
   ·simp only[if_neg p2,eW,f1,decide_eq_false p2,Bool.and_false,Bool.false_and,Bool.false_eq_true,if_false];simp[Utf8.runeError]
  ·simp only[if_neg p1,eW,f1,decide_eq_false p1,Bool.and_false,Bool.false_and,Bool.false_eq_true,if_false];simp[Utf8.runeError]
 by_cases c5:b<248
 ·have hh:du (b:Int)=some (4,((b%8:Nat):Int),65536):=by
   rw[du,if_neg (by omega),if_neg (by omega),if_pos (by omega),J6 hb]
  have e3:b/8=30:=by omega
  have f1:(b/32==6)=false:=by simp; omega
  have f2:(b/16==14)=false:=by simp; omega
  simp only[hh];rw[t1 _ (by omega) 2];by_cases p1:a+1<s.length∧d1/64=2
  ·rw[if_pos p1,t2 _ (by omega) 1];by_cases p2:a+2<s.length∧d2/64=2
   ·rw[if_pos p2,t3 _ (by omega) 0];by_cases p3:a+3<s.length∧d3/64=2
    ·simp only[if_pos p3,dY,eW,f1,f2,e3,decide_eq_true p1,decide_eq_true p2,decide_eq_true p3,beq_self_eq_true,Bool.and_self,if_true,Bool.false_and,Bool.false_eq_true,if_false];by_cases y:((b%8*64+d1%64)*64+d2%64)*64+d3%64<65536∨1114111<((b%8*64+d1%64)*64+d2%64)*64+d3%64
     ·rw[if_pos (by omega),if_neg (by simp[Utf8.valid]; omega)]; simp[Utf8.runeError]
     ·rw[if_neg (by omega),if_pos (by simp[Utf8.valid]; omega)]; simp; omega
    ·simp only[if_neg p3,eW,f1,f2,decide_eq_false p3,Bool.and_false,Bool.false_and,Bool.false_eq_true,if_false];simp[Utf8.runeError]
   ·simp only[if_neg p2,eW,f1,f2,decide_eq_false p2,Bool.and_false,Bool.false_and,Bool.false_eq_true,if_false];simp[Utf8.runeError]
  ·simp only[if_neg p1,eW,f1,f2,decide_eq_false p1,Bool.and_false,Bool.false_and,Bool.false_eq_true,if_false];simp[Utf8.runeError]
 ·have hh:du (b:Int)=none:=by
   rw[du,if_neg (by omega),if_neg (by omega),if_neg (by omega),if_pos (by omega)]
  simp only[hh];have e1:¬b/32=6:=by omega
  have e2:¬b/16=14:=by omega
  have e3:¬b/8=30:=by omega
  simp[e1,e2,e3,Utf8.runeError]
end Go.Ah.Tz
end
section
namespace Go.Ah.Tz
open Go.Proofs.Tryz (prog)
theorem Oa(s:Tx)(a:Nat):∀(m i:Nat) (x y:Int),dY s a (m+1) i x=some y→a+i+m<s.length
 |m,i,x,y,h=>by
  rw[dY] at h;cases e:s[a+i]? with
  |none=>rw[e] at h; cases h
  |some c=>
   have hl:a+i<s.length:=(cJ e).1;rw[e] at h;cases m with
   |zero=>omega
   |succ m=>
    have h2:(if qv c=true then none else dY s a (m+1) (i+1) (sq x c))=some y:=h;split at h2
    ·cases h2
    ·have:=Oa s a m (i+1) _ _ h2;omega
theorem UZ(s:Tx)(a:Nat)(ha:a<s.length)(h:(cR s a).2≠0):a+(cR s a).2≤s.length:=by
 unfold cR at h ⊢;rw[List.getElem?_eq_getElem ha] at h ⊢;simp only at h ⊢;cases e:du (s[a].toNat:Int) with
 |none=>rw[e] at h; simp at h
 |some p=>
  obtain⟨n,x,least⟩:=p;rw[e] at h;simp only at h ⊢;cases e2:dY s a (n-1) 1 x with
  |none=>rw[e2] at h; simp[eW] at h
  |some y=>
   rw[e2] at h;have h3:(eW n least (some y)).2≤n:=by rw[eW]; split<;>simp
   by_cases hn:n≤1
   ·omega
   ·have:=Oa s a (n-2) 1 x y (by rw[show n-2+1=n-1 by omega]; exact e2);omega
attribute [local irreducible] al.rd al.pu al.wr al.dr al.gr al.gw al.gl al.gd al.opt au W
set_option maxHeartbeats 1000000
theorem TM{s:Tx}{a:Nat}(h:a<s.length):Dz [.iter 0] [.dN s a]=.ok (.aG [.bool true,iv a,.int .i32 (Utf8.decode ⟨s.toArray⟩ a).1]) [] [(0,.dN s (a+(Utf8.decode ⟨s.toArray⟩ a).2))]:=by
 have hb:Nat.blt a s.length=true:=by simpa[Nat.blt_eq] using h
 show (bif Nat.blt a s.length then _ else _)=_;rw[hb]; rfl
theorem V'{s:Tx}{a:Nat}(h:¬a<s.length):Dz [.iter 0] [.dN s a]=.ok (.aG [.bool false]) [0] []:=by
 have hb:Nat.blt a s.length=false:=by rw[Bool.eq_false_iff]; intro q; exact h (by simpa[Nat.blt_eq] using q)
 show (bif Nat.blt a s.length then _ else _)=_;rw[hb]; rfl
theorem c241(s:Tx)(hs:s.length≤fO):PC 241 [.str s] (.aG [iv (cZ s 0 0).1,iv (cZ s 0 0).2]):=by
 rw[cM] at hs;refine Qd hP me rfl rfl ?_;unfold g241;refine Ze rfl rfl ?_;refine Zl (ι:=Nat) (λa vs σ=>∃n:Nat,vs=[iv n]∧σ=[.dN s a]∧n≤a∧(a=0↔n=0)∧a≤s.length∧cZ s 0 0=cZ s a n) (λa=>s.length-a) 0 ⟨0,rfl,rfl,by omega,by simp,by omega,rfl⟩ ?_;rintro a vs σ again ⟨n,rfl,rfl,i1,i0,i2,hu⟩ aM;by_cases h:a<s.length;rotate_left
 ·refine Ze (V' h) rfl (Za rfl (Xh (Za rfl ?_)));rw[show cZ s a n=(a,n) by rw[cZ,dif_neg h]] at hu;rw[hu,show s.length=a by omega]; rfl
 refine Ze (TM h) rfl (Za rfl (Ye (Za rfl (Za rfl ?_))));obtain⟨d1,d2⟩:=Te s a h;have cv:=UZ s a h;generalize Utf8.decode ⟨s.toArray⟩ a=p at d1 d2 ⊢;have dM:x8 s a n↔(isLet (p.1:Int)=false∧(a=0∨(eT (p.1:Int)=false∧(p.1:Int)≠39))):=by
  unfold x8;by_cases h0:(cR s a).2=0
  ·have:=d2 h0;rw[this];have e1:isLet 65533=false:=by decide
   have e2:eT 65533=false:=by decide
   simp[h0,e1,e2]
  ·rw[(d1 h0).1];simp[h0,i0]
 have vy:(isLet (p.1:Int)=false∧(a=0∨(eT (p.1:Int)=false∧(p.1:Int)≠39)))→aa.aG [iv a,iv n]=aa.aG [iv (cZ s 0 0).1,iv (cZ s 0 0).2]:=by
  intro q;rw[hu,cZ,dif_pos h,dif_pos (dM.2 q)]
 have go:¬(isLet (p.1:Int)=false∧(a=0∨(eT (p.1:Int)=false∧(p.1:Int)≠39)))→VV.rd (Yj .add false [iv n,(.int .i64 1)] [.dN s (a+p.2)]) λt31=>again [t31] [.dN s (a+p.2)]:=by
  intro q;have q2:¬x8 s a n:=λz=>q (dM.1 z);have h0:(cR s a).2≠0:=λe=>q2 (Or.inl e);have:=(d1 h0).2;have:=cv h0;refine Za (Xk ..) ?_;rw[Zf (n:=n) (by omega)];refine aM (a+p.2) _ _ (by omega) ⟨n+1,rfl,rfl,by omega,by omega,by omega,?_⟩;rw[hu,cZ,dif_pos h,dif_neg q2,(d1 h0).2]
 clear aM hu dM d1 d2 cv;generalize (p.1:Int)=r at vy go ⊢;refine Qc (c256 r) rfl mj.plain rfl ?_;refine Za rfl ?_;rcases aL (!isLet r) with h1|h1
 rotate_left
 ·rw[h1];repeat first|refine Xa ?_|refine Zb ?_|refine Qb rfl ?_|refine Yc rfl ?_|refine Yd rfl ?_|refine Xd rfl ?_|refine Za rfl ?_
  exact Xh (go (by have h1:isLet r=true:=(by simpa using h1); simp[h1]))
 rw[h1];have h1:isLet r=false:=by simpa using h1
 repeat first|refine Xa ?_|refine Zb ?_|refine Za rfl ?_
 rcases aL ((a:Int)==0) with h2|h2
 ·rw[h2];repeat first|refine Xa ?_|refine Zb ?_|refine Qb rfl ?_|refine Yc rfl ?_|refine Yd rfl ?_|refine Xd rfl ?_|refine Za rfl ?_
  exact Ye (vy ⟨h1,Or.inl (by simpa using h2)⟩)
 rw[h2];have h2:a≠0:=by simpa using h2
 repeat first|refine Xa ?_|refine Zb ?_|refine Za rfl ?_
 refine Qc (c257 r) rfl ml.plain rfl ?_;repeat first|refine Xa ?_|refine Zb ?_|refine Za rfl ?_
 rcases aL (!eT r) with h3|h3
 rotate_left
 ·rw[h3];repeat first|refine Xa ?_|refine Zb ?_|refine Qb rfl ?_|refine Yc rfl ?_|refine Yd rfl ?_|refine Xd rfl ?_|refine Za rfl ?_
  exact Xh (go (by have h3:eT r=true:=(by simpa using h3); simp[h2,h3]))
 rw[h3];have h3:eT r=false:=by simpa using h3
 repeat first|refine Xa ?_|refine Zb ?_|refine Za rfl ?_
 refine Zc (λh4=>vy ⟨h1,Or.inr ⟨h3,by simpa using h4⟩⟩) (λh4=>go ?_);have h4:r=39:=by simpa using h4
 simp[h2,h4]
theorem c223(s:Tx)(hs:s.length≤fO):PC 223 [.str s] (.bool (cP s)):=by
 refine Qd hP km rfl rfl ?_;unfold g223;refine Qc (c241 s hs) rfl me.plain rfl ?_;unfold cP;generalize (cZ s 0 0).1=e;generalize (cZ s 0 0).2=n;refine Za rfl (Za rfl (Za rfl ?_));rcases aL (decide ((n:Int)>0)) with h1|h1
 rotate_left
 ·rw[h1];repeat first|refine Qb rfl ?_|refine Yc rfl ?_|refine Yd rfl ?_|refine Xd rfl ?_|refine Za rfl ?_
  have h1:¬1≤n:=by simp at h1; omega
  simp[h1]
 rw[h1];repeat first|refine Xa ?_|refine Zb ?_|refine Za rfl ?_
 rcases aL (decide ((n:Int)≤24)) with h2|h2
 rotate_left
 ·rw[h2];repeat first|refine Qb rfl ?_|refine Yc rfl ?_|refine Yd rfl ?_|refine Xd rfl ?_|refine Za rfl ?_
  have h2:¬n≤24:=by simp at h2; omega
  simp[h2]
 rw[h2];repeat first|refine Xa ?_|refine Zb ?_|refine Za rfl ?_
 rcases aL ((e:Int)==(s.length:Int)) with h3|h3
 rotate_left
 ·rw[h3];repeat first|refine Qb rfl ?_|refine Yc rfl ?_|refine Yd rfl ?_|refine Xd rfl ?_|refine Za rfl ?_
  have h3:¬e=s.length:=by simp at h3; omega
  simp[h3]
 rw[h3];repeat first|refine Xa ?_|refine Zb ?_|refine Za rfl ?_
 have h3:e=s.length:=by simp at h3; omega
 subst h3;rcases aL (decide ((s.length:Int)≤40)) with h4|h4
 rotate_left
 ·rw[h4];repeat first|refine Qb rfl ?_|refine Yc rfl ?_|refine Yd rfl ?_|refine Xd rfl ?_|refine Za rfl ?_
  have h4:¬s.length≤40:=by simp at h4; omega
  simp[h4]
 rw[h4];repeat first|refine Xa ?_|refine Zb ?_|refine Za rfl ?_
 refine Qc (c242 _) rfl mf.plain rfl ?_;repeat first|refine Xa ?_|refine Zb ?_|refine Za rfl ?_
 have h1:1≤n:=by simp at h1; omega
 have h2:n≤24:=by simp at h2; omega
 have h4:s.length≤40:=by simp at h4; omega
 simp[h1,h2,h4]
end Go.Ah.Tz
end
