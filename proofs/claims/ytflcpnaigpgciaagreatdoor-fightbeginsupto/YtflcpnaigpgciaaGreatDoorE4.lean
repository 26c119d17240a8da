/- Part of the proof that FightBegins holds of the program for arguments that together hold at most 1048576 values and letters; no other condition. -/
import Derived.Test.YtflcpnaigpgciaaGreatDoorE3
set_option linter.all false
section
namespace Go.Ah.Tz
open Go.Proofs.Tryz (prog)
attribute [local irreducible] Ans.rd Ans.pu Ans.wr Ans.dr Ans.gr Ans.gw Ans.gl Ans.gd Ans.opt joinK W
set_option maxHeartbeats 2000000
theorem c68(b:Bk)(s:St)(hs:StLe 1000000000 s):PC 68 [bkV b,stV s] (.bool (Zu b s)):=by
 refine Qd hP g68_ok rfl rfl ?_;unfold g68;have w1:IntKind.i64.wrap (0+1)=1:=by decide
 have w2:IntKind.i64.wrap (1+1)=2:=by decide
 repeat first|refine Ya rfl ?_|refine Zf rfl rfl ?_
 have hB0:hget ([]++[ABlk.box [cdV b.cards,foV b.formats]]++[ABlk.box (stC s)]) 0=.box [cdV b.cards,foV b.formats]:=rfl;have hB1:hget ([]++[ABlk.box [cdV b.cards,foV b.formats]]++[ABlk.box (stC s)]) 1=.box (stC s):=rfl;have hg:Grows 1 (([]:List Int).map cel) 0 .nils ([]++[ABlk.box [cdV b.cards,foV b.formats]]++[ABlk.box (stC s)]):=Grows.nil _ _;generalize ([]++[ABlk.box [cdV b.cards,foV b.formats]]++[ABlk.box (stC s)]:List ABlk)=σ at hB0 hB1 hg ⊢;refine QE 3 (Zl ?_);refine Ya rfl (Ze ?_);refine Ya rfl (Ya rfl (Ya (ld hB1 rfl) ?_));refine Xx rfl rfl rfl ?_;have hB2:hget (σ++[.box (sdC s.s0)]) σ.length=.box (sdC s.s0):=Zm _ _
 replace hB0:=Zn [.box (sdC s.s0)] hB0 (by simp)
 replace hB1:=Zn [.box (sdC s.s0)] hB1 (by simp)
 replace hg:=hg.more [.box (sdC s.s0)]
 generalize hN:σ.length=N at hB2 ⊢;clear hN;generalize (σ++[ABlk.box (sdC s.s0)]:List ABlk)=σ2 at hB0 hB1 hB2 hg ⊢;have bad:Xm b.cards.length s.s0=false→AVal.bool false=AVal.bool (Zu b s):=by intro h; simp[Zu,h]
 repeat first|refine Xa ?_|refine Zb ?_|refine Ya (ld hB2 rfl) ?_|refine Ya rfl ?_
 refine Yd (c116 _) rfl g116_ok.plain rfl ?_;refine Ya rfl ?_;rcases YBE (!wIn s.s0.life) with a1|a1
 ·rw[a1];repeat first|refine Yb rfl ?_|refine Zc rfl ?_|refine Xc rfl ?_|refine Xd rfl ?_|refine Ya rfl ?_
  refine Ze (bad ?_);simp at a1;simp[Xm,a1]
 rw[a1];repeat first|refine Xa ?_|refine Zb ?_|refine Ya (ld hB2 rfl) ?_|refine Ya rfl ?_
 rcases YBE (decide (s.s0.mana<0)) with a2|a2
 ·rw[a2];repeat first|refine Yb rfl ?_|refine Zc rfl ?_|refine Xc rfl ?_|refine Xd rfl ?_|refine Ya rfl ?_
  refine Ze (bad ?_);simp at a2;simp[Xm,show ¬0≤s.s0.mana by omega]
 rw[a2];repeat first|refine Xa ?_|refine Zb ?_|refine Ya (ld hB2 rfl) ?_|refine Ya rfl ?_
 refine Yd (c116 _) rfl g116_ok.plain rfl ?_;repeat first|refine Xa ?_|refine Zb ?_|refine Ya (ld hB2 rfl) ?_|refine Ya rfl ?_
 rcases YBE (!wIn s.s0.mana) with a3|a3
 ·rw[a3];repeat first|refine Yb rfl ?_|refine Zc rfl ?_|refine Xc rfl ?_|refine Xd rfl ?_|refine Ya rfl ?_
  refine Ze (bad ?_);simp at a3;simp[Xm,a3]
 rw[a3];repeat first|refine Xa ?_|refine Zb ?_|refine Ya (ld hB2 rfl) ?_|refine Ya rfl ?_
 rcases YBE (decide (s.s0.most<0)) with a4|a4
 ·rw[a4];repeat first|refine Yb rfl ?_|refine Zc rfl ?_|refine Xc rfl ?_|refine Xd rfl ?_|refine Ya rfl ?_
  refine Ze (bad ?_);simp at a4;simp[Xm,show ¬0≤s.s0.most by omega]
 rw[a4];repeat first|refine Xa ?_|refine Zb ?_|refine Ya (ld hB2 rfl) ?_|refine Ya rfl ?_
 refine Yc (λa5=>bad ?_) (λa5=>?_)
 ·have a5:10<s.s0.most:=by simpa using a5
  simp[Xm,show ¬s.s0.most≤10 by omega]
 refine Ya (ld hB0 rfl) ?_;repeat first|refine Xa ?_|refine Zb ?_|refine Ya (ld hB2 rfl) ?_|refine Ya rfl ?_
 refine Yd (c117 _ _ _ hs.s0.deck) rfl g117_ok.plain rfl ?_;refine Ya rfl ?_;rcases YBE (!Xq b.cards.length s.s0.deck 60) with a6|a6
 ·rw[a6];repeat first|refine Yb rfl ?_|refine Zc rfl ?_|refine Xc rfl ?_|refine Xd rfl ?_|refine Ya rfl ?_
  refine Ze (bad ?_);simp at a6;simp[Xm,a6]
 rw[a6];repeat first|refine Xa ?_|refine Zb ?_|refine Ya (ld hB2 rfl) ?_|refine Ya (ld hB0 rfl) ?_|refine Ya rfl ?_
 refine Yd (c117 _ _ _ hs.s0.hand) rfl g117_ok.plain rfl ?_;repeat first|refine Xa ?_|refine Zb ?_|refine Ya (ld hB2 rfl) ?_|refine Ya (ld hB0 rfl) ?_|refine Ya rfl ?_
 rcases YBE (!Xq b.cards.length s.s0.hand 10) with a7|a7
 ·rw[a7];repeat first|refine Yb rfl ?_|refine Zc rfl ?_|refine Xc rfl ?_|refine Xd rfl ?_|refine Ya rfl ?_
  refine Ze (bad ?_);simp at a7;simp[Xm,a7]
 rw[a7];repeat first|refine Xa ?_|refine Zb ?_|refine Ya (ld hB2 rfl) ?_|refine Ya (ld hB0 rfl) ?_|refine Ya rfl ?_
 refine Yd (c117 _ _ _ hs.s0.grave) rfl g117_ok.plain rfl ?_;repeat first|refine Xa ?_|refine Zb ?_|refine Ya (ld hB2 rfl) ?_|refine Ya (ld hB0 rfl) ?_|refine Ya rfl ?_
 rcases YBE (!Xq b.cards.length s.s0.grave 1000000) with a8|a8
 ·rw[a8];repeat first|refine Yb rfl ?_|refine Zc rfl ?_|refine Xc rfl ?_|refine Xd rfl ?_|refine Ya rfl ?_
  refine Ze (bad ?_);simp at a8;simp[Xm,a8]
 rw[a8];repeat first|refine Xa ?_|refine Zb ?_|refine Ya (ld hB2 rfl) ?_|refine Ya (ld hB0 rfl) ?_|refine Ya rfl ?_
 refine Yd (c117 _ _ _ hs.s0.told) rfl g117_ok.plain rfl ?_;repeat first|refine Xa ?_|refine Zb ?_|refine Ya (ld hB2 rfl) ?_|refine Ya (ld hB0 rfl) ?_|refine Ya rfl ?_
 rcases YBE (!Xq b.cards.length s.s0.told 1000000) with a9|a9
 ·rw[a9];repeat first|refine Yb rfl ?_|refine Zc rfl ?_|refine Xc rfl ?_|refine Xd rfl ?_|refine Ya rfl ?_
  refine Ze (bad ?_);simp at a9;simp[Xm,a9]
 rw[a9];repeat first|refine Xa ?_|refine Zb ?_|refine Ya (ld hB2 rfl) ?_|refine Ya (ld hB0 rfl) ?_|refine Ya rfl ?_
 refine Yc (λa10=>bad ?_) (λa10=>?_)
 ·have a10:7<s.s0.units.length:=by simp at a10; omega
  simp[Xm,show ¬s.s0.units.length≤7 by omega]
 have hds0:Xm b.cards.length s.s0=true:=by
  simp at a1 a2 a3 a4 a5 a6 a7 a8 a9 a10;simp[Xm,a1,a2,a3,a4,a5,a6,a7,a8,a9]; omega
 have a10':s.s0.units.length≤7:=by simp at a10; omega
 clear a1 a2 a3 a4 a5 a6 a7 a8 a9 a10 bad;have badu:Xr b s.next [] s.s0.units=false→AVal.bool false=AVal.bool (Zu b s):=by intro h; simp[Zu,h]
 refine Yj (ι:=Nat) (λi vs σ=>∃v,vs=[iv i,v]∧i≤s.s0.units.length∧Grows 1 (([]++(s.s0.units.take i).map Th.id).map cel) (0+i) v σ∧hget σ 0=.box [cdV b.cards,foV b.formats]∧hget σ 1=.box (stC s)∧hget σ N=.box (sdC s.s0)∧Xr b s.next [] s.s0.units=Xr b s.next ([]++(s.s0.units.take i).map Th.id) (s.s0.units.drop i)) (λi=>s.s0.units.length-i) 0 ⟨_,rfl,by omega,(by simp only[Ah.h1,hdV,tlV,List.take_zero,List.map_nil,List.append_nil,Nat.add_zero]; exact hg),hB0,hB1,hB2,by simp⟩ ?_;clear hB0 hB1 hB2 hg;rintro i vs σ3 again ⟨v,rfl,hi,hg,hB0,hB1,hB2,hu⟩ hag;repeat first|refine Xa ?_|refine Zb ?_|refine Ya (ld hB2 rfl) ?_|refine Ya rfl ?_
 refine Yc (λh=>?_) (λh=>?_)
 ·have h:i<s.s0.units.length:=by simpa using h
  have hdr:s.s0.units.drop i=s.s0.units[i]::s.s0.units.drop (i+1):=by rw[YLD h]
  rw[hdr] at hu;repeat first|refine Xa ?_|refine Zb ?_|refine Ya (ld hB2 rfl) ?_|refine Ya rfl ?_
  refine Ya (Yo _ thC _ _ _ _ _ i h) ?_;refine Ya rfl ?_;refine Xx rfl rfl rfl ?_;generalize hU:s.s0.units[i]=u at hu hdr;have hB3:hget (σ3++[.box (thC u)]) σ3.length=.box (thC u):=Zm _ _
  replace hB0:=Zn [.box (thC u)] hB0 (by simp)
  replace hB1:=Zn [.box (thC u)] hB1 (by simp)
  replace hB2:=Zn [.box (thC u)] hB2 (by simp)
  replace hg:=hg.more [.box (thC u)]
  generalize hN:σ3.length=N3 at hB3 ⊢;clear hN;simp only[AVal.cell];generalize hσ4:(σ3++[ABlk.box (thC u)]:List ABlk)=σ4 at hB0 hB1 hB2 hB3 hg;have hσ5:(σ3++[ABlk.box [iv u.id,iv u.card,iv u.harm,.bool u.tired]]:List ABlk)=σ4:=hσ4
  first|rw[hσ5]|rw[hσ4]|skip
  have badq:Zw b s.next u=false→AVal.bool false=AVal.bool (Zu b s):=by intro h; apply badu; rw[hu]; simp[Xr,h]
  repeat first|refine Xa ?_|refine Zb ?_|refine Ya (ld hB3 rfl) ?_|refine Ya (ld hB0 rfl) ?_|refine Ya (ld hB1 rfl) ?_|refine Ya rfl ?_
  rcases YBE (decide (u.card<0)) with q1|q1
  ·rw[q1];repeat first|refine Yb rfl ?_|refine Zc rfl ?_|refine Xc rfl ?_|refine Xd rfl ?_|refine Ya rfl ?_
   refine Ze (badq ?_);simp at q1;simp[Zw,show ¬0≤u.card by omega]
  rw[q1];repeat first|refine Xa ?_|refine Zb ?_|refine Ya (ld hB3 rfl) ?_|refine Ya (ld hB0 rfl) ?_|refine Ya (ld hB1 rfl) ?_|refine Ya rfl ?_
  rcases YBE (decide (u.card ≥ (b.cards.map cdC).length)) with q2|q2
  ·rw[q2];repeat first|refine Yb rfl ?_|refine Zc rfl ?_|refine Xc rfl ?_|refine Xd rfl ?_|refine Ya rfl ?_
   refine Ze (badq ?_);simp at q2;simp[Zw,show ¬u.card<b.cards.length by omega]
  rw[q2];simp at q1 q2;have hc:u.card.toNat<b.cards.length:=by omega
  have hcu:b.cards[u.card.toNat]?=some b.cards[u.card.toNat]:=by simp[hc]
  repeat first|refine Xa ?_|refine Zb ?_|refine Ya (ld hB3 rfl) ?_|refine Ya (ld hB0 rfl) ?_|refine Ya (ld hB1 rfl) ?_|refine Ya rfl ?_
  refine Ya (Ycv _ cdC _ _ _ _ _ _ (by omega) hc) ?_;repeat first|refine Xa ?_|refine Zb ?_|refine Ya (ld hB3 rfl) ?_|refine Ya (ld hB0 rfl) ?_|refine Ya (ld hB1 rfl) ?_|refine Ya rfl ?_
  rcases YBE (!(b.cards[u.card.toNat]).unit) with q3|q3
  ·rw[q3];repeat first|refine Yb rfl ?_|refine Zc rfl ?_|refine Xc rfl ?_|refine Xd rfl ?_|refine Ya rfl ?_
   refine Ze (badq ?_);simp at q3;simp[Zw,hcu,q3]
  rw[q3];repeat first|refine Xa ?_|refine Zb ?_|refine Ya (ld hB3 rfl) ?_|refine Ya (ld hB0 rfl) ?_|refine Ya (ld hB1 rfl) ?_|refine Ya rfl ?_
  rcases YBE (decide (u.harm<0)) with q4|q4
  ·rw[q4];repeat first|refine Yb rfl ?_|refine Zc rfl ?_|refine Xc rfl ?_|refine Xd rfl ?_|refine Ya rfl ?_
   refine Ze (badq ?_);simp at q4;simp[Zw,show ¬0≤u.harm by omega]
  rw[q4];repeat first|refine Xa ?_|refine Zb ?_|refine Ya (ld hB3 rfl) ?_|refine Ya (ld hB0 rfl) ?_|refine Ya (ld hB1 rfl) ?_|refine Ya rfl ?_
  rcases YBE (decide (u.harm>1000000)) with q5|q5
  ·rw[q5];repeat first|refine Yb rfl ?_|refine Zc rfl ?_|refine Xc rfl ?_|refine Xd rfl ?_|refine Ya rfl ?_
   refine Ze (badq ?_);simp at q5;simp[Zw,show ¬u.harm≤1000000 by omega]
  rw[q5];repeat first|refine Xa ?_|refine Zb ?_|refine Ya (ld hB3 rfl) ?_|refine Ya (ld hB0 rfl) ?_|refine Ya (ld hB1 rfl) ?_|refine Ya rfl ?_
  rcases YBE (decide (u.id<1)) with q6|q6
  ·rw[q6];repeat first|refine Yb rfl ?_|refine Zc rfl ?_|refine Xc rfl ?_|refine Xd rfl ?_|refine Ya rfl ?_
   refine Ze (badq ?_);simp at q6;simp[Zw,show ¬1≤u.id by omega]
  rw[q6];repeat first|refine Xa ?_|refine Zb ?_|refine Ya (ld hB3 rfl) ?_|refine Ya (ld hB0 rfl) ?_|refine Ya (ld hB1 rfl) ?_|refine Ya rfl ?_
  refine Yc (λq7=>badq ?_) (λq7=>?_)
  ·have q7:s.next≤u.id:=by simpa using q7
   simp[Zw,show ¬u.id<s.next by omega]
  have hok:Zw b s.next u=true:=by
   simp at q3 q4 q5 q6 q7;simp[Zw,hcu,q3]; omega
  rw[Xr,hok,Bool.true_and] at hu;generalize hids:[]++(s.s0.units.take i).map Th.id=ids at hg hu;have hkl:ids.length=0+i:=by rw[←hids]; simp[List.length_take,Nat.min_eq_left hi]
  refine Yj (ι:=Nat) (λj vs σ=>vs=[iv j]∧σ=σ4∧j≤ids.length∧∀m (hm:m<ids.length),m<j→ids[m]≠u.id) (λj=>ids.length-j) 0 ⟨rfl,rfl,by omega,λm _ h=>by omega⟩ ?_;rintro j vs σ again2 ⟨rfl,rfl,hj,hb2⟩ hag2;refine Ya (hg.len _) (Ya rfl ?_);refine Yc (λh2=>?_) (λh2=>?_)
  ·have h2:j<ids.length:=by rw[hkl]; simp at h2; omega
   obtain⟨bb,e1,hjl,e2⟩:=hg.at .i64 j (by omega);refine Ya e1 ?_;refine Ya (e2 false 1 (iv ids[j]) (by simp[cel])) ?_;repeat first|refine Xa ?_|refine Zb ?_|refine Ya (ld hB3 rfl) ?_|refine Ya (ld hB0 rfl) ?_|refine Ya (ld hB1 rfl) ?_|refine Ya rfl ?_
   refine Yc (λh3=>?_) (λh3=>?_)
   ·have h3:ids[j]=u.id:=by simpa using h3
    apply badu; rw[hu];have:u.id∈ids:=by rw[←h3]; exact List.getElem_mem h2
    simp[this]
   ·have h3:ids[j]≠u.id:=by simpa using h3
    refine Ya rfl ?_;rw[Qf (n:=j) (by omega)];refine hag2 (j+1) _ _ (by omega) ⟨rfl,rfl,by omega,λm hm hmj=>?_⟩;by_cases e:m=j
    ·subst e; exact h3
    ·exact hb2 m hm (by omega)
  ·have h2:¬j<ids.length:=by rw[hkl]; simp at h2; omega
   have hno:ids.contains u.id=false:=by
    rw[List.contains_eq_mem,decide_eq_false_iff_not];intro hm;obtain⟨m,hm,e⟩:=List.getElem_of_mem hm;exact hb2 m hm (by omega) e
   rw[hno,Bool.not_false,Bool.true_and] at hu;repeat first|refine Xa ?_|refine Zb ?_|refine Ya (ld hB3 rfl) ?_|refine Ya (ld hB0 rfl) ?_|refine Ya (ld hB1 rfl) ?_|refine Ya rfl ?_
   rw[Q3 _ _ _ _ _ [iv u.id] rfl rfl];refine hg.app' _ (hold:=λp=>p) rfl (by omega) _ (λv' σ' hx hg'=>?_);refine Ya rfl ?_;rw[Qf (n:=i) (by omega)];have hsn:[]++(s.s0.units.take (i+1)).map Th.id=ids++[u.id]:=by
    rw[←hids,Xv _ _ h,hU]; simp
   refine hag (i+1) _ _ (by omega) ⟨v',rfl,by omega,?_,hx _ _ hB0,hx _ _ hB1,hx _ _ hB2,?_⟩
   ·rw[hsn]; simpa[cel,Nat.add_assoc] using hg'
   ·rw[hsn]; exact hu
 have h:i=s.s0.units.length:=by simp at h; omega
 subst h;rw[List.take_length] at hg hu;have hus0:Xr b s.next [] s.s0.units=true:=by rw[hu]; simp[Xr]
 clear hag badu hu;refine Ya rfl ?_;rw[w1];refine Zl ?_;simp only[List.nil_append,Nat.zero_add] at hg;generalize σ3=σ at hB0 hB1 hg ⊢;refine Ya rfl (Ze ?_);refine Ya rfl (Ya rfl (Ya (ld hB1 rfl) ?_));refine Xx rfl rfl rfl ?_;have hB2:hget (σ++[.box (sdC s.s1)]) σ.length=.box (sdC s.s1):=Zm _ _
 replace hB0:=Zn [.box (sdC s.s1)] hB0 (by simp)
 replace hB1:=Zn [.box (sdC s.s1)] hB1 (by simp)
 replace hg:=hg.more [.box (sdC s.s1)]
 generalize hN:σ.length=N at hB2 ⊢;clear hN;generalize (σ++[ABlk.box (sdC s.s1)]:List ABlk)=σ2 at hB0 hB1 hB2 hg ⊢;have bad:Xm b.cards.length s.s1=false→AVal.bool false=AVal.bool (Zu b s):=by intro h; simp[Zu,h]
 repeat first|refine Xa ?_|refine Zb ?_|refine Ya (ld hB2 rfl) ?_|refine Ya rfl ?_
 refine Yd (c116 _) rfl g116_ok.plain rfl ?_;refine Ya rfl ?_;rcases YBE (!wIn s.s1.life) with a1|a1
 ·rw[a1];repeat first|refine Yb rfl ?_|refine Zc rfl ?_|refine Xc rfl ?_|refine Xd rfl ?_|refine Ya rfl ?_
  refine Ze (bad ?_);simp at a1;simp[Xm,a1]
 rw[a1];repeat first|refine Xa ?_|refine Zb ?_|refine Ya (ld hB2 rfl) ?_|refine Ya rfl ?_
 rcases YBE (decide (s.s1.mana<0)) with a2|a2
 ·rw[a2];repeat first|refine Yb rfl ?_|refine Zc rfl ?_|refine Xc rfl ?_|refine Xd rfl ?_|refine Ya rfl ?_
  refine Ze (bad ?_);simp at a2;simp[Xm,show ¬0≤s.s1.mana by omega]
 rw[a2];repeat first|refine Xa ?_|refine Zb ?_|refine Ya (ld hB2 rfl) ?_|refine Ya rfl ?_
 refine Yd (c116 _) rfl g116_ok.plain rfl ?_;repeat first|refine Xa ?_|refine Zb ?_|refine Ya (ld hB2 rfl) ?_|refine Ya rfl ?_
 rcases YBE (!wIn s.s1.mana) with a3|a3
 ·rw[a3];repeat first|refine Yb rfl ?_|refine Zc rfl ?_|refine Xc rfl ?_|refine Xd rfl ?_|refine Ya rfl ?_
  refine Ze (bad ?_);simp at a3;simp[Xm,a3]
 rw[a3];repeat first|refine Xa ?_|refine Zb ?_|refine Ya (ld hB2 rfl) ?_|refine Ya rfl ?_
 rcases YBE (decide (s.s1.most<0)) with a4|a4
 ·rw[a4];repeat first|refine Yb rfl ?_|refine Zc rfl ?_|refine Xc rfl ?_|refine Xd rfl ?_|refine Ya rfl ?_
  refine Ze (bad ?_);simp at a4;simp[Xm,show ¬0≤s.s1.most by omega]
 rw[a4];repeat first|refine Xa ?_|refine Zb ?_|refine Ya (ld hB2 rfl) ?_|refine Ya rfl ?_
 refine Yc (λa5=>bad ?_) (λa5=>?_)
 ·have a5:10<s.s1.most:=by simpa using a5
  simp[Xm,show ¬s.s1.most≤10 by omega]
 refine Ya (ld hB0 rfl) ?_;repeat first|refine Xa ?_|refine Zb ?_|refine Ya (ld hB2 rfl) ?_|refine Ya rfl ?_
 refine Yd (c117 _ _ _ hs.s1.deck) rfl g117_ok.plain rfl ?_;refine Ya rfl ?_;rcases YBE (!Xq b.cards.length s.s1.deck 60) with a6|a6
 ·rw[a6];repeat first|refine Yb rfl ?_|refine Zc rfl ?_|refine Xc rfl ?_|refine Xd rfl ?_|refine Ya rfl ?_
  refine Ze (bad ?_);simp at a6;simp[Xm,a6]
 rw[a6];repeat first|refine Xa ?_|refine Zb ?_|refine Ya (ld hB2 rfl) ?_|refine Ya (ld hB0 rfl) ?_|refine Ya rfl ?_
 refine Yd (c117 _ _ _ hs.s1.hand) rfl g117_ok.plain rfl ?_;repeat first|refine Xa ?_|refine Zb ?_|refine Ya (ld hB2 rfl) ?_|refine Ya (ld hB0 rfl) ?_|refine Ya rfl ?_
 rcases YBE (!Xq b.cards.length s.s1.hand 10) with a7|a7
 ·rw[a7];repeat first|refine Yb rfl ?_|refine Zc rfl ?_|refine Xc rfl ?_|refine Xd rfl ?_|refine Ya rfl ?_
  refine Ze (bad ?_);simp at a7;simp[Xm,a7]
 rw[a7];repeat first|refine Xa ?_|refine Zb ?_|refine Ya (ld hB2 rfl) ?_|refine Ya (ld hB0 rfl) ?_|refine Ya rfl ?_
 refine Yd (c117 _ _ _ hs.s1.grave) rfl g117_ok.plain rfl ?_;repeat first|refine Xa ?_|refine Zb ?_|refine Ya (ld hB2 rfl) ?_|refine Ya (ld hB0 rfl) ?_|refine Ya rfl ?_
 rcases YBE (!Xq b.cards.length s.s1.grave 1000000) with a8|a8
 ·rw[a8];repeat first|refine Yb rfl ?_|refine Zc rfl ?_|refine Xc rfl ?_|refine Xd rfl ?_|refine Ya rfl ?_
  refine Ze (bad ?_);simp at a8;simp[Xm,a8]
 rw[a8];repeat first|refine Xa ?_|refine Zb ?_|refine Ya (ld hB2 rfl) ?_|refine Ya (ld hB0 rfl) ?_|refine Ya rfl ?_
 refine Yd (c117 _ _ _ hs.s1.told) rfl g117_ok.plain rfl ?_;repeat first|refine Xa ?_|refine Zb ?_|refine Ya (ld hB2 rfl) ?_|refine Ya (ld hB0 rfl) ?_|refine Ya rfl ?_
 rcases YBE (!Xq b.cards.length s.s1.told 1000000) with a9|a9
 ·rw[a9];repeat first|refine Yb rfl ?_|refine Zc rfl ?_|refine Xc rfl ?_|refine Xd rfl ?_|refine Ya rfl ?_
  refine Ze (bad ?_);simp at a9;simp[Xm,a9]
 rw[a9];repeat first|refine Xa ?_|refine Zb ?_|refine Ya (ld hB2 rfl) ?_|refine Ya (ld hB0 rfl) ?_|refine Ya rfl ?_
 refine Yc (λa10=>bad ?_) (λa10=>?_)
 ·have a10:7<s.s1.units.length:=by simp at a10; omega
  simp[Xm,show ¬s.s1.units.length≤7 by omega]
 have hds1:Xm b.cards.length s.s1=true:=by
  simp at a1 a2 a3 a4 a5 a6 a7 a8 a9 a10;simp[Xm,a1,a2,a3,a4,a5,a6,a7,a8,a9]; omega
 have a10':s.s1.units.length≤7:=by simp at a10; omega
 clear a1 a2 a3 a4 a5 a6 a7 a8 a9 a10 bad;have badu:Xr b s.next (s.s0.units.map Th.id) s.s1.units=false→AVal.bool false=AVal.bool (Zu b s):=by intro h; simp[Zu,h]
 refine Yj (ι:=Nat) (λi vs σ=>∃v,vs=[iv i,v]∧i≤s.s1.units.length∧Grows 1 (((s.s0.units.map Th.id)++(s.s1.units.take i).map Th.id).map cel) (s.s0.units.length+i) v σ∧hget σ 0=.box [cdV b.cards,foV b.formats]∧hget σ 1=.box (stC s)∧hget σ N=.box (sdC s.s1)∧Xr b s.next (s.s0.units.map Th.id) s.s1.units=Xr b s.next ((s.s0.units.map Th.id)++(s.s1.units.take i).map Th.id) (s.s1.units.drop i)) (λi=>s.s1.units.length-i) 0 ⟨_,rfl,by omega,(by simp only[Ah.h1,hdV,tlV,List.take_zero,List.map_nil,List.append_nil,Nat.add_zero]; exact hg),hB0,hB1,hB2,by simp⟩ ?_;clear hB0 hB1 hB2 hg;rintro i vs σ3 again ⟨v,rfl,hi,hg,hB0,hB1,hB2,hu⟩ hag;repeat first|refine Xa ?_|refine Zb ?_|refine Ya (ld hB2 rfl) ?_|refine Ya rfl ?_
 refine Yc (λh=>?_) (λh=>?_)
 ·have h:i<s.s1.units.length:=by simpa using h
  have hdr:s.s1.units.drop i=s.s1.units[i]::s.s1.units.drop (i+1):=by rw[YLD h]
  rw[hdr] at hu;repeat first|refine Xa ?_|refine Zb ?_|refine Ya (ld hB2 rfl) ?_|refine Ya rfl ?_
  refine Ya (Yo _ thC _ _ _ _ _ i h) ?_;refine Ya rfl ?_;refine Xx rfl rfl rfl ?_;generalize hU:s.s1.units[i]=u at hu hdr;have hB3:hget (σ3++[.box (thC u)]) σ3.length=.box (thC u):=Zm _ _
  replace hB0:=Zn [.box (thC u)] hB0 (by simp)
  replace hB1:=Zn [.box (thC u)] hB1 (by simp)
  replace hB2:=Zn [.box (thC u)] hB2 (by simp)
  replace hg:=hg.more [.box (thC u)]
  generalize hN:σ3.length=N3 at hB3 ⊢;clear hN;simp only[AVal.cell];generalize hσ4:(σ3++[ABlk.box (thC u)]:List ABlk)=σ4 at hB0 hB1 hB2 hB3 hg;have hσ5:(σ3++[ABlk.box [iv u.id,iv u.card,iv u.harm,.bool u.tired]]:List ABlk)=σ4:=hσ4
  first|rw[hσ5]|rw[hσ4]|skip
  have badq:Zw b s.next u=false→AVal.bool false=AVal.bool (Zu b s):=by intro h; apply badu; rw[hu]; simp[Xr,h]
  repeat first|refine Xa ?_|refine Zb ?_|refine Ya (ld hB3 rfl) ?_|refine Ya (ld hB0 rfl) ?_|refine Ya (ld hB1 rfl) ?_|refine Ya rfl ?_
  rcases YBE (decide (u.card<0)) with q1|q1
  ·rw[q1];repeat first|refine Yb rfl ?_|refine Zc rfl ?_|refine Xc rfl ?_|refine Xd rfl ?_|refine Ya rfl ?_
   refine Ze (badq ?_);simp at q1;simp[Zw,show ¬0≤u.card by omega]
  rw[q1];repeat first|refine Xa ?_|refine Zb ?_|refine Ya (ld hB3 rfl) ?_|refine Ya (ld hB0 rfl) ?_|refine Ya (ld hB1 rfl) ?_|refine Ya rfl ?_
  rcases YBE (decide (u.card ≥ (b.cards.map cdC).length)) with q2|q2
  ·rw[q2];repeat first|refine Yb rfl ?_|refine Zc rfl ?_|refine Xc rfl ?_|refine Xd rfl ?_|refine Ya rfl ?_
   refine Ze (badq ?_);simp at q2;simp[Zw,show ¬u.card<b.cards.length by omega]
  rw[q2];simp at q1 q2;have hc:u.card.toNat<b.cards.length:=by omega
  have hcu:b.cards[u.card.toNat]?=some b.cards[u.card.toNat]:=by simp[hc]
  repeat first|refine Xa ?_|refine Zb ?_|refine Ya (ld hB3 rfl) ?_|refine Ya (ld hB0 rfl) ?_|refine Ya (ld hB1 rfl) ?_|refine Ya rfl ?_
  refine Ya (Ycv _ cdC _ _ _ _ _ _ (by omega) hc) ?_;repeat first|refine Xa ?_|refine Zb ?_|refine Ya (ld hB3 rfl) ?_|refine Ya (ld hB0 rfl) ?_|refine Ya (ld hB1 rfl) ?_|refine Ya rfl ?_
  rcases YBE (!(b.cards[u.card.toNat]).unit) with q3|q3
  ·rw[q3];repeat first|refine Yb rfl ?_|refine Zc rfl ?_|refine Xc rfl ?_|refine Xd rfl ?_|refine Ya rfl ?_
   refine Ze (badq ?_);simp at q3;simp[Zw,hcu,q3]
  rw[q3];repeat first|refine Xa ?_|refine Zb ?_|refine Ya (ld hB3 rfl) ?_|refine Ya (ld hB0 rfl) ?_|refine Ya (ld hB1 rfl) ?_|refine Ya rfl ?_
  rcases YBE (decide (u.harm<0)) with q4|q4
  ·rw[q4];repeat first|refine Yb rfl ?_|refine Zc rfl ?_|refine Xc rfl ?_|refine Xd rfl ?_|refine Ya rfl ?_
   refine Ze (badq ?_);simp at q4;simp[Zw,show ¬0≤u.harm by omega]
  rw[q4];repeat first|refine Xa ?_|refine Zb ?_|refine Ya (ld hB3 rfl) ?_|refine Ya (ld hB0 rfl) ?_|refine Ya (ld hB1 rfl) ?_|refine Ya rfl ?_
  rcases YBE (decide (u.harm>1000000)) with q5|q5
  ·rw[q5];repeat first|refine Yb rfl ?_|refine Zc rfl ?_|refine Xc rfl ?_|refine Xd rfl ?_|refine Ya rfl ?_
   refine Ze (badq ?_);simp at q5;simp[Zw,show ¬u.harm≤1000000 by omega]
  rw[q5];repeat first|refine Xa ?_|refine Zb ?_|refine Ya (ld hB3 rfl) ?_|refine Ya (ld hB0 rfl) ?_|refine Ya (ld hB1 rfl) ?_|refine Ya rfl ?_
  rcases YBE (decide (u.id<1)) with q6|q6
  ·rw[q6];repeat first|refine Yb rfl ?_|refine Zc rfl ?_|refine Xc rfl ?_|refine Xd rfl ?_|refine Ya rfl ?_
   refine Ze (badq ?_);simp at q6;simp[Zw,show ¬1≤u.id by omega]
  rw[q6];repeat first|refine Xa ?_|refine Zb ?_|refine Ya (ld hB3 rfl) ?_|refine Ya (ld hB0 rfl) ?_|refine Ya (ld hB1 rfl) ?_|refine Ya rfl ?_
  refine Yc (λq7=>badq ?_) (λq7=>?_)
  ·have q7:s.next≤u.id:=by simpa using q7
   simp[Zw,show ¬u.id<s.next by omega]
  have hok:Zw b s.next u=true:=by
   simp at q3 q4 q5 q6 q7;simp[Zw,hcu,q3]; omega
  rw[Xr,hok,Bool.true_and] at hu;generalize hids:(s.s0.units.map Th.id)++(s.s1.units.take i).map Th.id=ids at hg hu;have hkl:ids.length=s.s0.units.length+i:=by rw[←hids]; simp[List.length_take,Nat.min_eq_left hi]
  refine Yj (ι:=Nat) (λj vs σ=>vs=[iv j]∧σ=σ4∧j≤ids.length∧∀m (hm:m<ids.length),m<j→ids[m]≠u.id) (λj=>ids.length-j) 0 ⟨rfl,rfl,by omega,λm _ h=>by omega⟩ ?_;rintro j vs σ again2 ⟨rfl,rfl,hj,hb2⟩ hag2;refine Ya (hg.len _) (Ya rfl ?_);refine Yc (λh2=>?_) (λh2=>?_)
  ·have h2:j<ids.length:=by rw[hkl]; simp at h2; omega
   obtain⟨bb,e1,hjl,e2⟩:=hg.at .i64 j (by omega);refine Ya e1 ?_;refine Ya (e2 false 1 (iv ids[j]) (by simp[cel])) ?_;repeat first|refine Xa ?_|refine Zb ?_|refine Ya (ld hB3 rfl) ?_|refine Ya (ld hB0 rfl) ?_|refine Ya (ld hB1 rfl) ?_|refine Ya rfl ?_
   refine Yc (λh3=>?_) (λh3=>?_)
   ·have h3:ids[j]=u.id:=by simpa using h3
    apply badu; rw[hu];have:u.id∈ids:=by rw[←h3]; exact List.getElem_mem h2
    simp[this]
   ·have h3:ids[j]≠u.id:=by simpa using h3
    refine Ya rfl ?_;rw[Qf (n:=j) (by omega)];refine hag2 (j+1) _ _ (by omega) ⟨rfl,rfl,by omega,λm hm hmj=>?_⟩;by_cases e:m=j
    ·subst e; exact h3
    ·exact hb2 m hm (by omega)
  ·have h2:¬j<ids.length:=by rw[hkl]; simp at h2; omega
   have hno:ids.contains u.id=false:=by
    rw[List.contains_eq_mem,decide_eq_false_iff_not];intro hm;obtain⟨m,hm,e⟩:=List.getElem_of_mem hm;exact hb2 m hm (by omega) e
   rw[hno,Bool.not_false,Bool.true_and] at hu;repeat first|refine Xa ?_|refine Zb ?_|refine Ya (ld hB3 rfl) ?_|refine Ya (ld hB0 rfl) ?_|refine Ya (ld hB1 rfl) ?_|refine Ya rfl ?_
   rw[Q3 _ _ _ _ _ [iv u.id] rfl rfl];refine hg.app' _ (hold:=λp=>p) rfl (by omega) _ (λv' σ' hx hg'=>?_);refine Ya rfl ?_;rw[Qf (n:=i) (by omega)];have hsn:(s.s0.units.map Th.id)++(s.s1.units.take (i+1)).map Th.id=ids++[u.id]:=by
    rw[←hids,Xv _ _ h,hU]; simp
   refine hag (i+1) _ _ (by omega) ⟨v',rfl,by omega,?_,hx _ _ hB0,hx _ _ hB1,hx _ _ hB2,?_⟩
   ·rw[hsn]; simpa[cel,Nat.add_assoc] using hg'
   ·rw[hsn]; exact hu
 have h:i=s.s1.units.length:=by simp at h; omega
 subst h;rw[List.take_length] at hg hu;have hus1:Xr b s.next (s.s0.units.map Th.id) s.s1.units=true:=by rw[hu]; simp[Xr]
 clear hag badu hu;refine Ya rfl ?_;rw[w2];refine Zl ?_;refine Ya rfl (Qi ?_);simp[Zu,hds0,hds1,hus0,hus1]
end Go.Ah.Tz
end
section
namespace Go.Ah.Tz
open Go.Proofs.Tryz (prog)
def attOk(s:St):List Int→List Int→Bool
 |_,[]=>true
 |prev,a::l=>((unitR s a).2.2&&decide ((unitR s a).1=s.mover))&&(!(prev.contains a)&&attOk s (prev++[a]) l)
def mayR(e:Int)(b:Bk)(s:St)(bare:Bool):Bool:=
 decide (e=0) && (decide (1≤s.turn) && (decide (s.turn≤4096) && (decide (0≤s.mover) && (decide (s.mover≤1) && (decide (0≤s.phase) && (decide (s.phase≤2) && (decide (0≤s.result) && (decide (s.result≤3) &&
 (((s.result == 0) == (s.phase != 2)) && (decide (1≤s.next) && (decide (s.next≤1000000) && (Zu b s &&
 (if s.phase≠1 then decide (s.attack.length=0) else !(decide (s.attack.length=0) && !bare) && (s.struck && (decide (s.attack.length≤7) && attOk s [] s.attack)))))))))))))))
attribute [local irreducible] Ans.rd Ans.pu Ans.wr Ans.dr Ans.gr Ans.gw Ans.gl Ans.gd Ans.opt joinK W
set_option maxHeartbeats 2000000
theorem c25(b:Bk)(s:St)(hs:StLe 1000000000 s)(bare:Bool)(e p:Int)(h67:PC 67 [bkV b] (.agg [iv e,iv p])):PC 25 [bkV b,stV s,.bool bare] (.bool (mayR e b s bare)):=by
 refine Qd hP g25_ok rfl rfl ?_;unfold g25;repeat first|refine Ya rfl ?_|refine Zf rfl rfl ?_
 refine Yd h67 rfl g67_ok.plain rfl ?_;repeat first|refine Ya rfl ?_|refine Zf rfl rfl ?_
 rcases YBE (e != 0) with q1|q1
 ·rw[q1];repeat first|refine Yb rfl ?_|refine Zc rfl ?_|refine Xc rfl ?_|refine Xd rfl ?_|refine Ya rfl ?_
  refine Ze ?_;simp at q1;simp[mayR,q1]
 rw[q1];repeat first|refine Xa ?_|refine Zb ?_|refine Ya rfl ?_
 rcases YBE (decide (s.turn<1)) with q2|q2
 ·rw[q2];repeat first|refine Yb rfl ?_|refine Zc rfl ?_|refine Xc rfl ?_|refine Xd rfl ?_|refine Ya rfl ?_
  refine Ze ?_;simp at q2;simp[mayR,show ¬1≤s.turn by omega]
 rw[q2];repeat first|refine Xa ?_|refine Zb ?_|refine Ya rfl ?_
 rcases YBE (decide (s.turn>4096)) with q3|q3
 ·rw[q3];repeat first|refine Yb rfl ?_|refine Zc rfl ?_|refine Xc rfl ?_|refine Xd rfl ?_|refine Ya rfl ?_
  refine Ze ?_;simp at q3;simp[mayR,show ¬s.turn≤4096 by omega]
 rw[q3];repeat first|refine Xa ?_|refine Zb ?_|refine Ya rfl ?_
 rcases YBE (decide (s.mover<0)) with q4|q4
 ·rw[q4];repeat first|refine Yb rfl ?_|refine Zc rfl ?_|refine Xc rfl ?_|refine Xd rfl ?_|refine Ya rfl ?_
  refine Ze ?_;simp at q4;simp[mayR,show ¬0≤s.mover by omega]
 rw[q4];repeat first|refine Xa ?_|refine Zb ?_|refine Ya rfl ?_
 rcases YBE (decide (s.mover>1)) with q5|q5
 ·rw[q5];repeat first|refine Yb rfl ?_|refine Zc rfl ?_|refine Xc rfl ?_|refine Xd rfl ?_|refine Ya rfl ?_
  refine Ze ?_;simp at q5;simp[mayR,show ¬s.mover≤1 by omega]
 rw[q5];repeat first|refine Xa ?_|refine Zb ?_|refine Ya rfl ?_
 rcases YBE (decide (s.phase<0)) with q6|q6
 ·rw[q6];repeat first|refine Yb rfl ?_|refine Zc rfl ?_|refine Xc rfl ?_|refine Xd rfl ?_|refine Ya rfl ?_
  refine Ze ?_;simp at q6;simp[mayR,show ¬0≤s.phase by omega]
 rw[q6];repeat first|refine Xa ?_|refine Zb ?_|refine Ya rfl ?_
 rcases YBE (decide (s.phase>2)) with q7|q7
 ·rw[q7];repeat first|refine Yb rfl ?_|refine Zc rfl ?_|refine Xc rfl ?_|refine Xd rfl ?_|refine Ya rfl ?_
  refine Ze ?_;simp at q7;simp[mayR,show ¬s.phase≤2 by omega]
 rw[q7];repeat first|refine Xa ?_|refine Zb ?_|refine Ya rfl ?_
 rcases YBE (decide (s.result<0)) with q8|q8
 ·rw[q8];repeat first|refine Yb rfl ?_|refine Zc rfl ?_|refine Xc rfl ?_|refine Xd rfl ?_|refine Ya rfl ?_
  refine Ze ?_;simp at q8;simp[mayR,show ¬0≤s.result by omega]
 rw[q8];repeat first|refine Xa ?_|refine Zb ?_|refine Ya rfl ?_
 refine Yc (λq9=>?_) (λq9=>?_)
 ·have q9:3<s.result:=by simpa using q9
  simp[mayR,show ¬s.result≤3 by omega]
 repeat first|refine Xa ?_|refine Zb ?_|refine Ya rfl ?_
 rcases YBE (!(s.result==0)==(s.phase != 2)) with q10|q10
 ·rw[q10];repeat first|refine Yb rfl ?_|refine Zc rfl ?_|refine Xc rfl ?_|refine Xd rfl ?_|refine Ya rfl ?_
  refine Ze ?_;have q10:((s.result==0)==(s.phase != 2))=false:=(Bool.not_eq_true' _).mp q10;simp only[mayR,q10]; simp
 rw[q10];repeat first|refine Xa ?_|refine Zb ?_|refine Ya rfl ?_
 rcases YBE (decide (s.next<1)) with q11|q11
 ·rw[q11];repeat first|refine Yb rfl ?_|refine Zc rfl ?_|refine Xc rfl ?_|refine Xd rfl ?_|refine Ya rfl ?_
  refine Ze ?_;simp at q11;simp[mayR,show ¬1≤s.next by omega]
 rw[q11];repeat first|refine Xa ?_|refine Zb ?_|refine Ya rfl ?_
 rcases YBE (decide (s.next>1000000)) with q12|q12
 ·rw[q12];repeat first|refine Yb rfl ?_|refine Zc rfl ?_|refine Xc rfl ?_|refine Xd rfl ?_|refine Ya rfl ?_
  refine Ze ?_;simp at q12;simp[mayR,show ¬s.next≤1000000 by omega]
 rw[q12];repeat first|refine Xa ?_|refine Zb ?_|refine Ya rfl ?_
 refine Yd (c68 b s hs) rfl g68_ok.plain rfl ?_;repeat first|refine Xa ?_|refine Ya rfl ?_
 refine Yc (λq13=>?_) (λq13=>?_)
 ·have q13:Zu b s=false:=by simpa using q13
  simp[mayR,q13]
 have Q1:e=0:=by simpa using q1
 have Q10:((s.result==0)==(s.phase != 2))=true:=by
  cases hX:((s.result==0)==(s.phase != 2)) with
  |true=>rfl
  |false=>rw[hX] at q10; cases q10
 have Q13:Zu b s=true:=by simpa using q13
 simp at q2 q3 q4 q5 q6 q7 q8 q9 q11 q12;have hm:mayR e b s bare=(if s.phase≠1 then decide (s.attack.length=0) else !(decide (s.attack.length=0) && !bare)&&(s.struck&&(decide (s.attack.length≤7)&&attOk s [] s.attack))):=by
  simp only[mayR,Q10,Q13];simp[Q1,q2,q3,q4,q5,q6,q7,q8,q9,q11,q12]
 rw[hm];clear hm Q1 Q10 Q13 q1 q2 q3 q4 q5 q6 q7 q8 q9 q10 q11 q12 q13;repeat first|refine Ya rfl ?_
 refine Yc (λh=>?_) (λh=>?_)
 ·have h:s.phase≠1:=by simpa using h
  repeat first|refine Ya rfl ?_
  rw[if_pos h]
  congr 1
  rw[Bool.eq_iff_iff];simp
 have h:s.phase=1:=by simpa using h
 rw[if_neg (by simp[h])];repeat first|refine Ya rfl ?_
 rcases YBE ((((s.attack.map cel).length:Nat):Int)==0) with h1|h1
 ·rw[h1];have h1:s.attack=[]:=by simpa using h1
  repeat first|refine Xa ?_|refine Ya rfl ?_
  cases bare with
  |false=>
   repeat first|refine Yb rfl ?_|refine Xc rfl ?_|refine Ya rfl ?_
   refine Ze ?_;simp[h1]
  |true=>
   repeat first|refine Xa ?_|refine Ya rfl ?_
   rcases YBE (!s.struck) with h2|h2
   ·rw[h2];repeat first|refine Yb rfl ?_|refine Xc rfl ?_|refine Ya rfl ?_
    refine Ze ?_;have h2:s.struck=false:=by simpa using h2
    simp[h2]
   rw[h2];have h2:s.struck=true:=by simpa using h2
   repeat first|refine Xa ?_|refine Ya rfl ?_
   rw[h1];refine Qi ?_;refine QE 1 (Zl ?_);repeat first|refine Ya (ld (σ:=[]++[ABlk.box [cdV b.cards,foV b.formats]]++[ABlk.box (stC s)]) (b:=1) rfl rfl) ?_|refine Ya rfl ?_
   rw[h1];refine Qi ?_;simp[h2,attOk]
 rw[h1];have h1:s.attack.length≠0:=by simpa using h1
 repeat first|refine Yb rfl ?_|refine Xc rfl ?_|refine Ya rfl ?_
 repeat first|refine Xa ?_|refine Ya rfl ?_
 have h1':(decide (s.attack.length=0) && !bare)=false:=by simp[h1]
 rw[h1',Bool.not_false,Bool.true_and];rcases YBE (!s.struck) with h2|h2
 ·rw[h2];repeat first|refine Yb rfl ?_|refine Xc rfl ?_|refine Ya rfl ?_
  refine Ze ?_;have h2:s.struck=false:=by simpa using h2
  simp[h2]
 rw[h2];have h2:s.struck=true:=by simpa using h2
 rw[h2,Bool.true_and];repeat first|refine Xa ?_|refine Ya rfl ?_
 refine Yc (λh3=>?_) (λh3=>?_)
 ·have h3:¬s.attack.length≤7:=by simp at h3; omega
  simp[h3]
 have h3:s.attack.length≤7:=by simp at h3; omega
 rw[decide_eq_true h3,Bool.true_and];have bad:attOk s [] s.attack=false→AVal.bool false=AVal.bool (attOk s [] s.attack):=λh=>by rw[h]
 generalize hB:([]++[ABlk.box [cdV b.cards,foV b.formats]]++[ABlk.box (stC s)]:List ABlk)=base;have hB1:hget base 1=.box (stC s):=by rw[←hB]; rfl
 generalize hN:([]++[ABlk.box [cdV b.cards,foV b.formats]]:List ABlk).length=N;have hN1:N=1:=by rw[←hN]; rfl
 subst hN1;clear hB hN;refine Yj (ι:=Nat) (λi vs σ=>vs=[iv i]∧σ=base∧i≤s.attack.length∧attOk s [] s.attack=attOk s (s.attack.take i) (s.attack.drop i)) (λi=>s.attack.length-i) 0 ⟨rfl,rfl,by omega,by simp⟩ ?_;rintro i vs σ again ⟨rfl,rfl,hi,hu⟩ hag;repeat first|refine Ya (ld hB1 rfl) ?_|refine Ya rfl ?_
 refine Yc (λh=>?_) (λh=>?_)
 ·have h:i<s.attack.length:=by simpa using h
  have hdr:s.attack.drop i=s.attack[i]::s.attack.drop (i+1):=by rw[YLD h]
  rw[hdr] at hu;refine Xi (ld hB1 rfl) (Xj _) (Yi rfl (Xi (ld hB1 rfl) (Xj _) (Xi (Yo _ cel _ _ _ _ _ i h) (Xj _) (Xi rfl (Xj _) ?_))));refine Qj (c23 s hs s.attack[i]) rfl g23_ok.plain rfl ?_;refine Yi rfl (Yi rfl (Yi rfl (QN (by kernel_rfl) ?_)));refine Ya rfl ?_;generalize ha:s.attack[i]=a at hu;rcases YBE (!(unitR s a).2.2) with h4|h4
  ·rw[h4];repeat first|refine Yb rfl ?_|refine Xc rfl ?_|refine Ya rfl ?_
   refine Ze (bad ?_);have h4:(unitR s a).2.2=false:=by simpa using h4
   rw[hu]; simp[attOk,h4]
  rw[h4];repeat first|refine Xa ?_|refine Ya (ld hB1 rfl) ?_|refine Ya rfl ?_
  refine Yc (λh5=>bad ?_) (λh5=>?_)
  ·have h5:(unitR s a).1≠s.mover:=by simpa using h5
   rw[hu]; simp[attOk,h5]
  have hone:((unitR s a).2.2&&decide ((unitR s a).1=s.mover))=true:=by
   have h4:(unitR s a).2.2=true:=by simpa using h4
   have h5:(unitR s a).1=s.mover:=by simpa using h5
   simp[h4,h5]
  rw[attOk,hone,Bool.true_and] at hu;refine Yj (ι:=Nat) (λj vs σ2=>vs=[iv j]∧σ2=σ∧j≤i∧∀m (hm:m<s.attack.length),m<j→s.attack[m]≠a) (λj=>i-j) 0 ⟨rfl,rfl,by omega,λm _ h=>by omega⟩ ?_;rintro j vs σ again2 ⟨rfl,rfl,hj,hb2⟩ hag2;refine Ya rfl ?_;refine Yc (λh6=>?_) (λh6=>?_)
  ·have h6:j<i:=by simpa using h6
   repeat first|refine Ya (ld hB1 rfl) ?_|refine Ya (Yo _ cel _ _ _ s.attack _ j (by omega)) ?_|refine Ya (Yo _ cel _ _ _ s.attack _ i h) ?_|refine Ya rfl ?_
   refine Yc (λh7=>bad ?_) (λh7=>?_)
   ·have h7:s.attack[j]=a:=by rw[←ha]; simpa using h7
    have:a∈s.attack.take i:=by
     rw[List.mem_take_iff_getElem];exact⟨j,by omega,h7⟩
    rw[hu]; simp[this]
   ·have h7:s.attack[j]≠a:=by rw[←ha]; simpa using h7
    refine Ya rfl ?_;rw[Qf (n:=j) (by omega)];refine hag2 (j+1) _ _ (by omega) ⟨rfl,rfl,by omega,λm hm hmj=>?_⟩;by_cases e:m=j
    ·subst e; exact h7
    ·exact hb2 m hm (by omega)
  ·have h6:¬j<i:=by simpa using h6
   have hno:(s.attack.take i).contains a=false:=by
    rw[List.contains_eq_mem,decide_eq_false_iff_not];intro hm;rw[List.mem_take_iff_getElem] at hm;obtain⟨m,hm,e⟩:=hm;exact hb2 m (by omega) (by omega) e
   rw[hno,Bool.not_false,Bool.true_and] at hu;refine Ya rfl ?_;rw[Qf (n:=i) (by omega)];refine hag (i+1) _ _ (by omega) ⟨rfl,rfl,by omega,?_⟩;rw[Xv _ _ h,ha]; exact hu
 have h:i=s.attack.length:=by simp at h; omega
 subst h;rw[hu]; simp[attOk]
theorem c16(b:Bk)(s:St)(hs:StLe 1000000000 s)(e p:Int)(h67:PC 67 [bkV b] (.agg [iv e,iv p])):PC 16 [bkV b,stV s] (iv (bif mayR e b s false then 0 else 170)):=by
 refine Qd hP g16_ok rfl rfl ?_;unfold g16;repeat first|refine Ya rfl ?_|refine Zf rfl rfl ?_
 refine Yd (c25 b s hs false e p h67) rfl g25_ok.plain rfl ?_;refine Ya rfl ?_;refine Yc (λh=>?_) (λh=>?_)
 ·have h:mayR e b s false=false:=by simpa using h
  simp[h]
 ·have h:mayR e b s false=true:=by simpa using h
  simp[h]
end Go.Ah.Tz
end
section
namespace Go.Ah.Tz
open Go.Proofs.Tryz (prog)
abbrev big:Nat:=1152921504606846975
def i8B(n:Int):Bool:=decide (-128≤n)&&decide (n≤127)
def i64B(n:Int):Bool:=decide (-9223372036854775808≤n)&&decide (n≤9223372036854775807)
theorem XcI{n:Int}(h:i8B n=true):-128≤n∧n≤127:=by simpa[i8B] using h
mutual
def nmFit:Nm→Bool
 |.mk op n _ kids=>decide (kids.length≤big)&&(XaD kids&&(i8B op&&i64B n))
def XaD:List Nm→Bool
 |[]=>true
 |x::l=>nmFit x&&XaD l
end
theorem Qal:∀ {l:List Nm},XaD l=true→∀x∈l,nmFit x=true
 |[],_,_,h=>by simp at h
 |y::l,h,x,hx=>by
  simp only[XaD,Bool.and_eq_true] at h;rcases List.mem_cons.1 hx with rfl|hx
  ·exact h.1
  ·exact Qal h.2 x hx
theorem ZZ{x:Nm}(h:nmFit x=true):x.kids.length≤big:=by cases x; simp[nmFit] at h; exact h.1
theorem ZS{x k:Nm}(h:nmFit x=true)(hk:k∈x.kids):nmFit k=true:=by cases x; simp[nmFit] at h; exact Qal h.2.1 k hk
theorem Xad{x k:Nm}(hk:k∈x.kids):SizeOf.sizeOf k<SizeOf.sizeOf x:=by
 cases x with
 |mk a b c kids=>
  have:=List.sizeOf_lt_of_mem (show k∈kids from hk);simp; omega
mutual
def cnFit:Cn→Bool
 |.mk op _ _ nums kids=>(decide (nums.length≤big)&&XaD nums)&&(decide (kids.length≤big)&&(QaJ kids&&i8B op))
def QaJ:List Cn→Bool
 |[]=>true
 |x::l=>cnFit x&&QaJ l
end
theorem ZaK:∀ {l:List Cn},QaJ l=true→∀x∈l,cnFit x=true
 |[],_,_,h=>by simp at h
 |y::l,h,x,hx=>by
  simp only[QaJ,Bool.and_eq_true] at h;rcases List.mem_cons.1 hx with rfl|hx
  ·exact h.1
  ·exact ZaK h.2 x hx
theorem YI{x:Cn}(h:cnFit x=true):x.nums.length≤big:=by cases x; simp[cnFit] at h; exact h.1.1
theorem ZI{x:Cn}(h:cnFit x=true):x.kids.length≤big:=by cases x; simp[cnFit] at h; exact h.2.1
theorem QQ{x:Cn}{k:Nm}(h:cnFit x=true)(hk:k∈x.nums):nmFit k=true:=by cases x; simp[cnFit] at h; exact Qal h.1.2 k hk
theorem XQ{x k:Cn}(h:cnFit x=true)(hk:k∈x.kids):cnFit k=true:=by cases x; simp[cnFit] at h; exact ZaK h.2.2.1 k hk
theorem Xac{x k:Cn}(hk:k∈x.kids):SizeOf.sizeOf k<SizeOf.sizeOf x:=by
 cases x with
 |mk a b c nums kids=>
  have:=List.sizeOf_lt_of_mem (show k∈kids from hk);simp; omega
mutual
def efFit:Ef→Bool
 |.mk op _ n _ c thn els=>nmFit n&&(cnFit c&&((decide (thn.length≤big)&&Qan thn)&&((decide (els.length≤big)&&Qan els)&&i8B op)))
def Qan:List Ef→Bool
 |[]=>true
 |x::l=>efFit x&&Qan l
end
theorem Zak:∀ {l:List Ef},Qan l=true→∀x∈l,efFit x=true
 |[],_,_,h=>by simp at h
 |y::l,h,x,hx=>by
  simp only[Qan,Bool.and_eq_true] at h;rcases List.mem_cons.1 hx with rfl|hx
  ·exact h.1
  ·exact Zak h.2 x hx
def lsFit(l:List Ef):Bool:=decide (l.length≤big)&&Qan l
theorem Z0{x:Ef}(h:efFit x=true):nmFit x.n=true:=by cases x; simp[efFit] at h; exact h.1
theorem ZX{x:Ef}(h:efFit x=true):cnFit x.c=true:=by cases x; simp[efFit] at h; exact h.2.1
theorem QG{x:Ef}(h:efFit x=true):lsFit x.thn=true:=by cases x; simp[efFit] at h; simp[lsFit,Ef.thn,h]
theorem XG{x:Ef}(h:efFit x=true):lsFit x.els=true:=by cases x; simp[efFit] at h; simp[lsFit,Ef.els,h]
theorem Qcf{x:Ef}(h:efFit x=true):-128≤x.op∧x.op≤127:=by cases x; simp[efFit] at h; exact XcI h.2.2.2.2
theorem Zz{l:List Ef}(h:lsFit l=true):l.length≤big:=by simp[lsFit] at h; exact h.1
theorem QK{l:List Ef}{x:Ef}(h:lsFit l=true)(hx:x∈l):efFit x=true:=by simp[lsFit] at h; exact Zak h.2 x hx
theorem wrapI{n:Int}(h1:-9223372036854775808≤n)(h2:n≤9223372036854775807):IntKind.i64.wrap n=n:=IntWalk.i64_in _ ⟨h1,h2⟩
theorem nmRo(x:Nm):roL [.agg (nmC x)]=true:=by rw[Yx]; rfl
theorem nmLd(x:Nm):partA true 0 4 (nmC x)=some (.agg (nmC x)):=by rw[Yx]; rfl
theorem cnRo(x:Cn):roL [.agg (cnC x)]=true:=by rw[QF]; rfl
theorem cnLd(x:Cn):partA true 0 5 (cnC x)=some (.agg (cnC x)):=by rw[QF]; rfl
theorem ldr{σ:List ABlk}{j n:Nat}{agg:Bool}{row:List AVal}{v:AVal}(hv:partA agg j n row=some v):Zd agg n [.rptr row j] σ=.ok v [] []:=by
 rw[Zav,hv]
mutual
def nmW:Nm→Int
 |.mk _ _ _ kids=>nmWs 1 kids
def nmWs:Int→List Nm→Int
 |n,[]=>n
 |n,x::l=>nmWs (min (n+nmW x) 1073741824) l
end
theorem Ycq(x:Nm):nmW x=nmWs 1 x.kids:=by cases x; rfl
theorem Xbm:∀(l:List Nm) (n:Int),0≤n→n≤1073741824→(∀x∈l,0≤nmW x)→0≤nmWs n l∧nmWs n l≤1073741824
 |[],n,h1,h2,_=>⟨h1,h2⟩
 |x::l,n,h1,h2,h3=>by
  have:=h3 x (by simp);exact Xbm l _ (by omega) (by omega) (λy hy=>h3 y (by simp[hy]))
theorem Xcq:∀(k:Nat) (x:Nm),SizeOf.sizeOf x≤k→0≤nmW x∧nmW x≤1073741824
 |0,x,h=>by cases x; simp at h
 |k+1,x,h=>by
  rw[Ycq];exact Xbm _ _ (by omega) (by omega) (λy hy=>(Xcq k y (by have:=Xad hy; omega)).1)
theorem Za5(x:Nm):0≤nmW x∧nmW x≤1073741824:=Xcq _ x (Nat.le_refl _)
mutual
def cnW:Cn→Int
 |.mk _ _ _ nums kids=>cnWs (nmWs 1 nums) kids
def cnWs:Int→List Cn→Int
 |n,[]=>n
 |n,x::l=>cnWs (min (n+cnW x) 1073741824) l
end
theorem Zco(x:Cn):cnW x=cnWs (nmWs 1 x.nums) x.kids:=by cases x; rfl
theorem YbQ:∀(l:List Cn) (n:Int),0≤n→n≤1073741824→(∀x∈l,0≤cnW x)→0≤cnWs n l∧cnWs n l≤1073741824
 |[],n,h1,h2,_=>⟨h1,h2⟩
 |x::l,n,h1,h2,h3=>by
  have:=h3 x (by simp);exact YbQ l _ (by omega) (by omega) (λy hy=>h3 y (by simp[hy]))
theorem Yco:∀(k:Nat) (x:Cn),SizeOf.sizeOf x≤k→0≤cnW x∧cnW x≤1073741824
 |0,x,h=>by cases x; simp at h
 |k+1,x,h=>by
  rw[Zco];have h1:=Xbm x.nums 1 (by omega) (by omega) (λy _=>(Za5 y).1);exact YbQ _ _ h1.1 h1.2 (λy hy=>(Yco k y (by have:=Xac hy; omega)).1)
theorem ZbQ(x:Cn):0≤cnW x∧cnW x≤1073741824:=Yco _ x (Nat.le_refl _)
def cntOp(op:Int):Bool:=decide (op=0)||(decide (op=1)||(decide (op=2)||(decide (op=3)||decide (op=5))))
def sdOp(w:Int):Bool:=decide (w=0)||decide (w=1)
attribute [local irreducible] Ans.rd Ans.pu Ans.wr Ans.dr Ans.gr Ans.gw Ans.gl Ans.gd Ans.opt joinK W
theorem c76':∀(k:Nat) (x:Nm),SizeOf.sizeOf x≤k→nmFit x=true→PC 76 [.agg (nmC x)] (iv (nmW x))
 |0,x,h,_=>by cases x; simp at h
 |k+1,x,hk,hf=>by
  rw[Yx];refine Qd hP g76_ok rfl rfl ?_;unfold g76;refine Zf rfl rfl ?_;rw[Ycq];have hlen:=ZZ hf;generalize hB:([]++[ABlk.box [iv8 x.op,iv x.n,iv8 x.who,.rsl false false 4 (x.kids.map nmC)]]:List ABlk)=base;have hB0:hget base 0=.box [iv8 x.op,iv x.n,iv8 x.who,.rsl false false 4 (x.kids.map nmC)]:=by rw[←hB]; rfl
  clear hB;refine Yj (ι:=Nat) (λi vs σ=>∃n,vs=[iv i,iv n]∧σ=base∧i≤x.kids.length∧0≤n∧n≤1073741824∧nmWs 1 x.kids=nmWs n (x.kids.drop i)) (λi=>x.kids.length-i) 0 ⟨1,rfl,rfl,by omega,by omega,by omega,by simp⟩ ?_;rintro i vs σ again ⟨n,rfl,rfl,hi,n1,n2,hu⟩ hag;repeat first|refine Ya (ld hB0 rfl) ?_|refine Ya rfl ?_
  refine Yc (λh=>?_) (λh=>?_)
  ·have h:i<x.kids.length:=by simpa using h
   have hdr:x.kids.drop i=x.kids[i]::x.kids.drop (i+1):=by rw[YLD h]
   rw[hdr,nmWs] at hu;have hm:x.kids[i]∈x.kids:=List.getElem_mem h;refine Ya rfl (Ya (ld hB0 rfl) (Ya (Yo _ nmC _ _ _ x.kids _ i h) (Ya (ldr (nmLd _)) ?_)));refine Yd (c76' k _ (by have:=Xad hm; omega) (ZS hf hm)) rfl g76_ok.plain (nmRo _) ?_;have:=Za5 x.kids[i];refine Ya (Yk ..) (Ya (Z3 ..) (Ya (Yk ..) ?_));rw[Qf (n:=i) (by have:big=1152921504606846975:=rfl; omega),wrapI (by omega) (by omega)];exact hag (i+1) _ _ (by omega) ⟨_,rfl,rfl,by omega,by omega,by omega,hu⟩
  ·have h:i=x.kids.length:=by simp at h; omega
   subst h;rw[List.drop_length] at hu;rw[hu]; rfl
theorem c76(x:Nm)(hf:nmFit x=true):PC 76 [.agg (nmC x)] (iv (nmW x)):=c76' _ x (Nat.le_refl _) hf
end Go.Ah.Tz
end
section
namespace Go.Ah.Tz
open Go.Proofs.Tryz (prog)
attribute [local irreducible] Ans.rd Ans.pu Ans.wr Ans.dr Ans.gr Ans.gw Ans.gl Ans.gd Ans.opt joinK W
theorem Xae{f:(List AVal→List ABlk→Prop)→Prop}{k:List AVal→List ABlk→Prop}(h:f k):joinK f k:=by unfold joinK; exact h
theorem bigE:big=1152921504606846975:=rfl
theorem efLd(x:Ef):partA true 0 14 (efC x)=some (.agg (efC x)):=by rw[ZG]; rfl
theorem efLdN(x:Ef):partA true 2 4 (efC x)=some (.agg (nmC x.n)):=by rw[ZG,Yx]; rfl
theorem efLdC(x:Ef):partA true 7 5 (efC x)=some (.agg (cnC x.c)):=by rw[ZG,QF]; rfl
theorem efLd0(x:Ef):partA false 0 1 (efC x)=some (iv8 x.op):=by rw[ZG]; rfl
theorem efLd1(x:Ef):partA false 1 1 (efC x)=some (iv8 x.who):=by rw[ZG]; rfl
theorem efLd6(x:Ef):partA false 6 1 (efC x)=some (.str x.name):=by rw[ZG]; rfl
theorem Qp(x:Ef):partA false 12 1 (efC x)=some (efV x.thn):=by rw[ZG]; rfl
theorem Zq(x:Ef):partA false 13 1 (efC x)=some (efV x.els):=by rw[ZG]; rfl
theorem c178':∀(k:Nat) (x:Cn),SizeOf.sizeOf x≤k→cnFit x=true→PC 178 [.agg (cnC x)] (iv (cnW x))
 |0,x,h,_=>by cases x; simp at h
 |k+1,x,hk,hf=>by
  rw[QF];refine Qd hP g178_ok rfl rfl ?_;unfold g178;refine Zf rfl rfl ?_;rw[Zco];have hl1:=YI hf;have hl2:=ZI hf;rw[bigE] at hl1 hl2;generalize hB:([]++[ABlk.box [iv8 x.op,iv8 x.who,.str x.name,.rsl false false 4 (x.nums.map nmC),.rsl false false 5 (x.kids.map cnC)]]:List ABlk)=base;have hB0:hget base 0=.box [iv8 x.op,iv8 x.who,.str x.name,.rsl false false 4 (x.nums.map nmC),.rsl false false 5 (x.kids.map cnC)]:=by rw[←hB]; rfl
  clear hB;refine Yj (ι:=Nat) (λi vs σ=>∃n,vs=[iv i,iv n]∧σ=base∧i≤x.nums.length∧0≤n∧n≤1073741824∧nmWs 1 x.nums=nmWs n (x.nums.drop i)) (λi=>x.nums.length-i) 0 ⟨1,rfl,rfl,by omega,by omega,by omega,by simp⟩ ?_;rintro i vs σ again ⟨n,rfl,rfl,hi,n1,n2,hu⟩ hag;repeat first|refine Ya (ld hB0 rfl) ?_|refine Ya rfl ?_
  refine Yc (λh=>?_) (λh=>?_)
  ·have h:i<x.nums.length:=by simpa using h
   have hdr:x.nums.drop i=x.nums[i]::x.nums.drop (i+1):=by rw[YLD h]
   rw[hdr,nmWs] at hu;have hm:x.nums[i]∈x.nums:=List.getElem_mem h;refine Ya rfl (Ya (ld hB0 rfl) (Ya (Yo _ nmC _ _ _ x.nums _ i h) (Ya (ldr (nmLd _)) ?_)));refine Yd (c76 _ (QQ hf hm)) rfl g76_ok.plain (nmRo _) ?_;have:=Za5 x.nums[i];refine Ya (Yk ..) (Ya (Z3 ..) (Ya (Yk ..) ?_));rw[Qf (n:=i) (by omega),wrapI (by omega) (by omega)];exact hag (i+1) _ _ (by omega) ⟨_,rfl,rfl,by omega,by omega,by omega,hu⟩
  have h:i=x.nums.length:=by simp at h; omega
  subst h;rw[List.drop_length,nmWs] at hu;rw[hu];clear hag hu hi;refine Yj (ι:=Nat) (λi vs s=>∃m,vs=[iv i,iv m]∧s=σ∧i≤x.kids.length∧0≤m∧m≤1073741824∧cnWs n x.kids=cnWs m (x.kids.drop i)) (λi=>x.kids.length-i) 0 ⟨n,rfl,rfl,by omega,by omega,by omega,by simp⟩ ?_;rintro i vs s again ⟨m,rfl,rfl,hi,n1,n2,hu⟩ hag;repeat first|refine Ya (ld hB0 rfl) ?_|refine Ya rfl ?_
  refine Yc (λh=>?_) (λh=>?_)
  ·have h:i<x.kids.length:=by simpa using h
   have hdr:x.kids.drop i=x.kids[i]::x.kids.drop (i+1):=by rw[YLD h]
   rw[hdr,cnWs] at hu;have hm:x.kids[i]∈x.kids:=List.getElem_mem h;refine Ya rfl (Ya (ld hB0 rfl) (Ya (Yo _ cnC _ _ _ x.kids _ i h) (Ya (ldr (cnLd _)) ?_)));refine Yd (c178' k _ (by have:=Xac hm; omega) (XQ hf hm)) rfl g178_ok.plain (cnRo _) ?_;have:=ZbQ x.kids[i];refine Ya (Yk ..) (Ya (Z3 ..) (Ya (Yk ..) ?_));rw[Qf (n:=i) (by omega),wrapI (by omega) (by omega)];exact hag (i+1) _ _ (by omega) ⟨_,rfl,rfl,by omega,by omega,by omega,hu⟩
  ·have h:i=x.kids.length:=by simp at h; omega
   subst h;rw[List.drop_length] at hu;rw[hu]; rfl
theorem c178(x:Cn)(hf:cnFit x=true):PC 178 [.agg (cnC x)] (iv (cnW x)):=c178' _ x (Nat.le_refl _) hf
theorem c121(w:Int):PC 121 [iv8 w] (.bool (sdOp w)):=by
 refine Qd hP g121_ok rfl rfl ?_;unfold g121;refine Ya rfl ?_;rcases YBE (w==0) with h1|h1
 ·rw[h1];repeat first|refine Yb rfl ?_|refine Zc rfl ?_|refine Xc rfl ?_|refine Xd rfl ?_|refine Ya rfl ?_
  simp at h1; simp[sdOp,h1]
 rw[h1];repeat first|refine Xa ?_|refine Zb ?_|refine Ya rfl ?_
 have h1:w≠0:=by simpa using h1
 exact congrArg AVal.bool (by rw[Bool.eq_iff_iff]; simp[sdOp,h1])
theorem c130(w:Int):PC 130 [iv8 w] (.bool (cntOp w)):=by
 refine Qd hP g130_ok rfl rfl ?_;unfold g130;refine Ya rfl ?_;rcases YBE (w==0) with h0|h0
 ·rw[h0];repeat first|refine Yb rfl ?_|refine Zc rfl ?_|refine Xc rfl ?_|refine Xd rfl ?_|refine Ya rfl ?_
  simp at h0; simp[cntOp,h0]
 rw[h0];repeat first|refine Xa ?_|refine Zb ?_|refine Ya rfl ?_
 rcases YBE (w==1) with h1|h1
 ·rw[h1];repeat first|refine Yb rfl ?_|refine Zc rfl ?_|refine Xc rfl ?_|refine Xd rfl ?_|refine Ya rfl ?_
  simp at h1; simp[cntOp,h1]
 rw[h1];repeat first|refine Xa ?_|refine Zb ?_|refine Ya rfl ?_
 rcases YBE (w==2) with h2|h2
 ·rw[h2];repeat first|refine Yb rfl ?_|refine Zc rfl ?_|refine Xc rfl ?_|refine Xd rfl ?_|refine Ya rfl ?_
  simp at h2; simp[cntOp,h2]
 rw[h2];repeat first|refine Xa ?_|refine Zb ?_|refine Ya rfl ?_
 rcases YBE (w==3) with h3|h3
 ·rw[h3];repeat first|refine Yb rfl ?_|refine Zc rfl ?_|refine Xc rfl ?_|refine Xd rfl ?_|refine Ya rfl ?_
  simp at h3; simp[cntOp,h3]
 rw[h3];repeat first|refine Xa ?_|refine Zb ?_|refine Ya rfl ?_
 simp at h0 h1 h2 h3;exact congrArg AVal.bool (by rw[Bool.eq_iff_iff]; simp[cntOp,h0,h1,h2,h3])
mutual
def efsW:Int→List Ef→Int
 |n,[]=>n
 |n,x::l=>efsW (efW n x) l
def efW:Int→Ef→Int
 |n0,.mk op _ nn _ c thn els=>
  if op=8 then min ((if cntOp op then min (min (n0+1) 1073741824+nmW nn) 1073741824 else min (n0+1) 1073741824)+cnW c+efsW 0 thn+efsW 0 els) 1073741824 else (if cntOp op then min (min (n0+1) 1073741824+nmW nn) 1073741824 else min (n0+1) 1073741824)
end
theorem Za1(n:Int)(x:Ef):efW n x=if x.op=8 then min ((if cntOp x.op then min (min (n+1) 1073741824+nmW x.n) 1073741824 else min (n+1) 1073741824)+cnW x.c+efsW 0 x.thn+efsW 0 x.els) 1073741824 else (if cntOp x.op then min (min (n+1) 1073741824+nmW x.n) 1073741824 else min (n+1) 1073741824):=by
 cases x; rfl
theorem Xav:∀(k:Nat) (l:List Ef) (n:Int),SizeOf.sizeOf l≤k→0≤n→n≤1073741824→0≤efsW n l∧efsW n l≤1073741824
 |0,l,n,h,_,_=>by cases l<;>simp at h
 |k+1,[],n,_,h1,h2=>⟨h1,h2⟩
 |k+1,x::l,n,h,h1,h2=>by
  simp only[List.cons.sizeOf_spec] at h;have hx:SizeOf.sizeOf x.thn<SizeOf.sizeOf x∧SizeOf.sizeOf x.els<SizeOf.sizeOf x:=by
   cases x; simp[Ef.thn,Ef.els]; omega
  have q1:=Xav k x.thn 0 (by omega) (by omega) (by omega);have q2:=Xav k x.els 0 (by omega) (by omega) (by omega);have q3:=Za5 x.n;have q4:=ZbQ x.c;have q5:0≤efW n x∧efW n x≤1073741824:=by
   rw[Za1]; split<;>split<;>omega
  rw[efsW];exact Xav k l _ (by omega) q5.1 q5.2
theorem ZaB(l:List Ef):0≤efsW 0 l∧efsW 0 l≤1073741824:=Xav _ l 0 (Nat.le_refl _) (by omega) (by omega)
theorem XU(x:Ef):SizeOf.sizeOf x.thn<SizeOf.sizeOf x∧SizeOf.sizeOf x.els<SizeOf.sizeOf x:=by
 cases x; simp[Ef.thn,Ef.els]; omega
theorem c142':∀(k:Nat) (l:List Ef),SizeOf.sizeOf l≤k→lsFit l=true→PC 142 [efV l] (iv (efsW 0 l))
  |0,l,h,_=>by cases l<;>simp at h
  |k+1,l,hk,hf=>by
    refine Qd hP g142_ok rfl rfl ?_;unfold g142;have hlen:=Zz hf;rw[bigE] at hlen;refine Yj (ι:=Nat) (λi vs σ=>∃n,vs=[iv i,iv n]∧i≤l.length∧0≤n∧n≤1073741824∧efsW 0 l=efsW n (l.drop i)) (λi=>l.length-i) 0 ⟨0,rfl,by omega,by omega,by omega,by simp⟩ ?_;rintro i vs σ again ⟨n,rfl,hi,n1,n2,hu⟩ hag;refine Ya rfl (Ya rfl ?_);refine Yc (λh=>?_) (λh=>?_)
    · have h:i<l.length:=by simpa using h
      have hdr:l.drop i=l[i]::l.drop (i+1):=by rw[YLD h]
      rw[hdr,efsW] at hu;have hm:l[i]∈l:=List.getElem_mem h;have hsz:=List.sizeOf_lt_of_mem hm;have hfx:=QK hf hm;have ix:=λ(s:List ABlk)=>Yo s efC false false 14 l .i64 i h;generalize l[i]=x at hu hsz hfx ix;refine Xae (Ya (Yk ..) (Ya (Z3 ..) (Ya (ix _) (Ya rfl (Ya (ldr (efLd0 x)) ?_)))));refine Yd (c130 _) rfl g130_ok.plain rfl ?_;have b1:=Za5 x.n;have b2:=ZbQ x.c;have b3:=ZaB x.thn;have b4:=ZaB x.els;rw[wrapI (n:=n+1) (by omega) (by omega)];have fin:∀m:Int,0≤m→m≤1073741824→efW n x=m→again [iv ((i+1:Nat):Int),iv m] σ:=by
        intro m m1 m2 e;exact hag (i+1) _ _ (by omega) ⟨m,rfl,by omega,m1,m2,by rw[hu,e]⟩
      refine Xae ?_;refine Yc (λhc=>?_) (λhc=>?_)
      all_goals
        first
        | (refine Ya (ix _) (Ya rfl (Ya (ldr (efLdN x)) ?_))
           refine Yd (c76 _ (Z0 hfx)) rfl g76_ok.plain (nmRo _) ?_;refine Ya (Yk ..) (Ya (Z3 ..) ?_);rw[wrapI (n:=min (n + 1) 1073741824 + nmW x.n) (by omega) (by omega)])
        |skip
      · have hm2:(if cntOp x.op then min (min (n+1) 1073741824+nmW x.n) 1073741824 else min (n+1) 1073741824)=min (min (n+1) 1073741824+nmW x.n) 1073741824:=by rw[if_pos hc]
        obtain⟨m,hm⟩:∃m,m=min (min (n+1) 1073741824+nmW x.n) 1073741824:=⟨_,rfl⟩;rw[←hm]
        replace hm2:=hm2.trans hm.symm
        have m1:0≤m∧m≤1073741824:=by omega
        refine Ya (ix _) (Ya rfl (Ya (ldr (efLd0 x)) (Ya rfl ?_)));refine Yc (λh8=>?_) (λh8=>?_)
        · have h8:x.op=8:=by simpa using h8
          refine Xi (ix _) (Xj _) (Yi rfl (Xi (ldr (efLdC x)) (Xj _) ?_));refine Qj (c178 _ (ZX hfx)) rfl g178_ok.plain (cnRo _) ?_;refine Yi (Yk ..) (Xi (ix _) (Xj _) (Yi rfl (Xi (ldr (Qp x)) (Xj _) ?_)));have hs2:=XU x;refine Qj (c142' k _ (by omega) (QG hfx)) rfl g142_ok.plain rfl ?_;refine Yi (Yk ..) (Xi (ix _) (Xj _) (Yi rfl (Xi (ldr (Zq x)) (Xj _) ?_)));refine Qj (c142' k _ (by omega) (XG hfx)) rfl g142_ok.plain rfl ?_;refine Yi (Yk ..) (Yi (Z3 ..) (QN (by kernel_rfl) (Ya (Yk ..) ?_)));rw[Qf (n:=i) (by omega),wrapI (n:=m+cnW x.c) (by omega) (by omega),wrapI (n:=m+cnW x.c+efsW 0 x.thn) (by omega) (by omega),wrapI (n:=m+cnW x.c+efsW 0 x.thn+efsW 0 x.els) (by omega) (by omega)];exact fin _ (by omega) (by omega) (by rw[Za1,if_pos h8,hm2])
        · have h8:x.op≠8:=by simpa using h8
          refine Ya (Yk ..) ?_;rw[Qf (n:=i) (by omega)];exact fin _ m1.1 m1.2 (by rw[Za1,if_neg h8,hm2])
      · have hm2:(if cntOp x.op then min (min (n+1) 1073741824+nmW x.n) 1073741824 else min (n+1) 1073741824)=min (n+1) 1073741824:=by rw[if_neg (by simpa using hc)]
        obtain⟨m,hm⟩:∃m,m=min (n+1) 1073741824:=⟨_,rfl⟩;rw[←hm]
        replace hm2:=hm2.trans hm.symm
        have m1:0≤m∧m≤1073741824:=by omega
        refine Ya (ix _) (Ya rfl (Ya (ldr (efLd0 x)) (Ya rfl ?_)));refine Yc (λh8=>?_) (λh8=>?_)
        · have h8:x.op=8:=by simpa using h8
          refine Xi (ix _) (Xj _) (Yi rfl (Xi (ldr (efLdC x)) (Xj _) ?_));refine Qj (c178 _ (ZX hfx)) rfl g178_ok.plain (cnRo _) ?_;refine Yi (Yk ..) (Xi (ix _) (Xj _) (Yi rfl (Xi (ldr (Qp x)) (Xj _) ?_)));have hs2:=XU x;refine Qj (c142' k _ (by omega) (QG hfx)) rfl g142_ok.plain rfl ?_;refine Yi (Yk ..) (Xi (ix _) (Xj _) (Yi rfl (Xi (ldr (Zq x)) (Xj _) ?_)));refine Qj (c142' k _ (by omega) (XG hfx)) rfl g142_ok.plain rfl ?_;refine Yi (Yk ..) (Yi (Z3 ..) (QN (by kernel_rfl) (Ya (Yk ..) ?_)));rw[Qf (n:=i) (by omega),wrapI (n:=m+cnW x.c) (by omega) (by omega),wrapI (n:=m+cnW x.c+efsW 0 x.thn) (by omega) (by omega),wrapI (n:=m+cnW x.c+efsW 0 x.thn+efsW 0 x.els) (by omega) (by omega)];exact fin _ (by omega) (by omega) (by rw[Za1,if_pos h8,hm2])
        · have h8:x.op≠8:=by simpa using h8
          refine Ya (Yk ..) ?_;rw[Qf (n:=i) (by omega)];exact fin _ m1.1 m1.2 (by rw[Za1,if_neg h8,hm2])
    · have h:i=l.length:=by simp at h; omega
      subst h;rw[List.drop_length] at hu;rw[hu]; rfl
theorem c142(l:List Ef)(hf:lsFit l=true):PC 142 [efV l] (iv (efsW 0 l)):=c142' _ l (Nat.le_refl _) hf
end Go.Ah.Tz
end
section
namespace Go.Ah.Tz
open Go.Proofs.Tryz (prog)
def noNum(x:Nm):Bool:=decide (x.op=0)&&(decide (x.n=0)&&(decide (x.who=0)&&decide (x.kids.length=0)))
def noCond(x:Cn):Bool:=decide (x.op=0)&&(decide (x.who=0)&&(x.name==[]&&(decide (x.nums.length=0)&&decide (x.kids.length=0))))
def findC:List Cd→Tx→Bool→Bool
 |[],_,_=>false
 |c::l,t,u=>if c.name==t then c.unit || !u else findC l t u
def chk(cs:List Cd)(t:Bool):List AVal:=[cdV cs,.bool t]
attribute [local irreducible] Ans.rd Ans.pu Ans.wr Ans.dr Ans.gr Ans.gw Ans.gl Ans.gd Ans.opt joinK W
theorem Xn{f:(List AVal→List ABlk→Prop)→Prop}{k:List AVal→List ABlk→Prop}(h:∀k',k'=k→f k'):joinK f k:=Xae (h k rfl)
theorem c110(c:Cd)(h1:lsFit c.played=true)(h2:lsFit c.dead=true)(h3:lsFit c.dawn=true):PC 110 [.agg (cdC c)] (iv (min (efsW 0 c.played+efsW 0 c.dead+efsW 0 c.dawn) 1073741824)):=by
 refine Qd hP g110_ok rfl rfl ?_;unfold g110;refine Zf rfl rfl (Yi rfl (Xi rfl rfl ?_));refine Qj (c142 _ h1) rfl g142_ok.plain rfl ?_;refine Yi rfl (Xi rfl rfl ?_);refine Qj (c142 _ h2) rfl g142_ok.plain rfl ?_;refine Yi (Yk ..) (Yi rfl (Xi rfl rfl ?_));refine Qj (c142 _ h3) rfl g142_ok.plain rfl ?_;refine Yi (Yk ..) (Yi (Z3 ..) (QN (by kernel_rfl) ?_));have b1:=ZaB c.played;have b2:=ZaB c.dead;have b3:=ZaB c.dawn;rw[wrapI (n:=efsW 0 c.played+efsW 0 c.dead) (by omega) (by omega),wrapI (by omega) (by omega)]
theorem c225(x:Nm):PC 225 [.agg (nmC x)] (.bool (noNum x)):=by
 rw[Yx];refine Qd hP g225_ok rfl rfl ?_;unfold g225;refine Zf rfl rfl ?_;refine Ya rfl (Ya rfl (Ya (Xf ..) ?_));rcases YBE (decide (x.op=0)) with h1|h1
 rotate_left
 ·rw[h1];repeat first|refine Yb rfl ?_|refine Zc rfl ?_|refine Xc rfl ?_|refine Xd rfl ?_|refine Ya rfl ?_
  simp at h1; simp[noNum,h1]
 rw[h1];repeat first|refine Xa ?_|refine Zb ?_|refine Ya (Xf ..) ?_|refine Ya (Zg ..) ?_|refine Ya rfl ?_
 rcases YBE (decide (x.n=0)) with h2|h2
 rotate_left
 ·rw[h2];repeat first|refine Yb rfl ?_|refine Zc rfl ?_|refine Xc rfl ?_|refine Xd rfl ?_|refine Ya rfl ?_
  simp at h2; simp[noNum,h2]
 rw[h2];repeat first|refine Xa ?_|refine Zb ?_|refine Ya (Xf ..) ?_|refine Ya (Zg ..) ?_|refine Ya rfl ?_
 rcases YBE (decide (x.who=0)) with h3|h3
 rotate_left
 ·rw[h3];repeat first|refine Yb rfl ?_|refine Zc rfl ?_|refine Xc rfl ?_|refine Xd rfl ?_|refine Ya rfl ?_
  simp at h3; simp[noNum,h3]
 rw[h3];repeat first|refine Xa ?_|refine Zb ?_|refine Ya (Xf ..) ?_|refine Ya (Zg ..) ?_|refine Ya rfl ?_
 simp at h1 h2 h3;simp[noNum,h1,h2,h3]
theorem c227(x:Cn):PC 227 [.agg (cnC x)] (.bool (noCond x)):=by
 rw[QF];refine Qd hP g227_ok rfl rfl ?_;unfold g227;refine Zf rfl rfl ?_;refine Ya rfl (Ya rfl (Ya (Xf ..) ?_));rcases YBE (decide (x.op=0)) with h1|h1
 rotate_left
 ·rw[h1];repeat first|refine Yb rfl ?_|refine Zc rfl ?_|refine Xc rfl ?_|refine Xd rfl ?_|refine Ya rfl ?_
  simp at h1; simp[noCond,h1]
 rw[h1];repeat first|refine Xa ?_|refine Zb ?_|refine Ya (Xf ..) ?_|refine Ya (Zg ..) ?_|refine Ya rfl ?_
 rcases YBE (decide (x.who=0)) with h2|h2
 rotate_left
 ·rw[h2];repeat first|refine Yb rfl ?_|refine Zc rfl ?_|refine Xc rfl ?_|refine Xd rfl ?_|refine Ya rfl ?_
  simp at h2; simp[noCond,h2]
 rw[h2];repeat first|refine Xa ?_|refine Zb ?_|refine Ya (Xf ..) ?_|refine Ya (Zg ..) ?_|refine Ya rfl ?_
 rcases YBE (x.name==[]) with h3|h3
 rotate_left
 ·rw[h3];repeat first|refine Yb rfl ?_|refine Zc rfl ?_|refine Xc rfl ?_|refine Xd rfl ?_|refine Ya rfl ?_
  simp at h3; simp[noCond,h3]
 rw[h3];repeat first|refine Xa ?_|refine Zb ?_|refine Ya (Xf ..) ?_|refine Ya (Zg ..) ?_|refine Ya rfl ?_
 rcases YBE (decide (((x.nums.map nmC).length:Int)=0)) with h4|h4
 rotate_left
 ·rw[h4];repeat first|refine Yb rfl ?_|refine Zc rfl ?_|refine Xc rfl ?_|refine Xd rfl ?_|refine Ya rfl ?_
  simp at h4; simp[noCond,h4]
 rw[h4];repeat first|refine Xa ?_|refine Zb ?_|refine Ya (Xf ..) ?_|refine Ya (Zg ..) ?_|refine Ya rfl ?_
 simp at h1 h2 h3 h4;simp[noCond,h1,h2,h3,h4]
theorem c187(n:Int):PC 187 [iv n] (.bool (decide (0≤n)&&decide (n≤999))):=by
 refine Qd hP g187_ok rfl rfl ?_;unfold g187;refine Ya rfl ?_;rcases YBE (decide (n ≥ 0)) with h|h
 ·rw[h];repeat first|refine Ya rfl ?_|refine Zf rfl rfl ?_|refine Xa ?_|refine Zb ?_
  have h':0≤n:=by simpa using h
  simp[h']
 ·rw[h];repeat first|refine Yb rfl ?_|refine Zc rfl ?_|refine Xc rfl ?_|refine Xd rfl ?_|refine Ya rfl ?_|refine Zf rfl rfl ?_
  have h':¬0≤n:=by simpa using h
  simp[h']
theorem cdLd0(x:Cd):partA false 0 1 (cdC x)=some (.str x.name):=rfl
theorem cdLd1(x:Cd):partA false 1 1 (cdC x)=some (.bool x.unit):=rfl
theorem c228(cs:List Cd)(hc:cs.length≤big)(t:Bool)(nm:Tx)(u:Bool):PC 228 [.rptr (chk cs t) 0,.str nm,.bool u] (.bool (findC cs nm u)):=by
 refine Qd hP g228_ok rfl rfl ?_;unfold g228;rw[bigE] at hc;refine Yj (ι:=Nat) (λi vs σ=>vs=[iv i]∧i≤cs.length∧findC cs nm u=findC (cs.drop i) nm u) (λi=>cs.length-i) 0 ⟨rfl,by omega,by simp⟩ ?_;rintro i vs σ again ⟨rfl,hi,hu⟩ hag;repeat first|refine Ya (ldr (row:=chk cs t) rfl) ?_|refine Ya rfl ?_
 refine Yc (λh=>?_) (λh=>?_)
 ·have h:i<cs.length:=by simpa using h
  have hdr:cs.drop i=cs[i]::cs.drop (i+1):=by rw[YLD h]
  rw[hdr,findC] at hu;have ix:=λ(s:List ABlk)=>Yo s cdC false false 12 cs .i64 i h;generalize cs[i]=c at hu ix;refine Ya rfl (Ya rfl (Ya (ldr (row:=chk cs t) rfl) (Ya (ix _) (Ya rfl (Ya (ldr (cdLd0 c)) (Ya (Zg ..) ?_))))));refine Yc (λh=>?_) (λh=>?_)
  ·rw[if_pos h] at hu;refine Ya rfl (Ya rfl (Ya (ldr (row:=chk cs t) rfl) (Ya (ix _) (Ya rfl (Ya (ldr (cdLd1 c)) ?_)))));rw[hu];cases c.unit<;>repeat (first|refine Xa ?_|refine Yb rfl ?_|refine Xc rfl ?_|refine Ya rfl ?_)
   ·simp
   ·simp
  ·rw[if_neg (by simpa using h)] at hu;refine Ya (Yk ..) ?_;rw[Qf (n:=i) (by omega)];exact hag (i+1) _ _ (by omega) ⟨rfl,by omega,hu⟩
 ·have h:i=cs.length:=by simp at h; omega
  subst h;rw[List.drop_length] at hu;rw[hu]; rfl
end Go.Ah.Tz
end
section
namespace Go.Ah.Tz
open Go.Proofs.Tryz (prog)
def nmK(op:Int):Nat:=if 8≤op∧op≤12 then 2 else 0
def nmTop(t:Bool)(op n who:Int)(len:Nat):Bool:=
 (decide (0≤op)&&(decide (op≤12)&&decide (len=nmK op)))
def nmEnd(t:Bool)(op n who:Int):Bool:=
 if op=0 then decide (0≤n)&&(decide (n≤999)&&decide (who=0)) else decide (n=0)&&(if 1≤op∧op≤4 then sdOp who else decide (who=0)&&(decide (op≠7)||t))
mutual
def nmOk (t:Bool):Nm→Bool
 |.mk op n who kids=>nmTop t op n who kids.length&&(nmsOk t kids&&nmEnd t op n who)
def nmsOk (t:Bool):List Nm→Bool
 |[]=>true
 |x::l=>nmOk t x&&nmsOk t l
end
theorem XbZ(t:Bool)(x:Nm):nmOk t x=(nmTop t x.op x.n x.who x.kids.length&&(nmsOk t x.kids&&nmEnd t x.op x.n x.who)):=by cases x; rfl
def cnK3(op:Int):Nat:=if 0≤op∧op≤2 then 2 else 0
def cnK4(op:Int):Nat:=if op=4∨op=5 then 2 else if op=3 then 1 else 0
def cnTop(op:Int)(l3 l4:Nat):Bool:=decide (0≤op)&&(decide (op≤6)&&(decide (l3=cnK3 op)&&decide (l4=cnK4 op)))
def cnEnd(cs:List Cd)(op who:Int)(name:Tx):Bool:=if op=6 then sdOp who&&findC cs name false else decide (who=0)&&name==[]
mutual
def cnOk (cs:List Cd) (t:Bool):Cn→Bool
 |.mk op who name nums kids=>cnTop op nums.length kids.length&&(nmsOk t nums&&(cnsOk cs t kids&&cnEnd cs op who name))
def cnsOk (cs:List Cd) (t:Bool):List Cn→Bool
 |[]=>true
 |x::l=>cnOk cs t x&&cnsOk cs t l
end
theorem QbP(cs:List Cd)(t:Bool)(x:Cn):cnOk cs t x=(cnTop x.op x.nums.length x.kids.length&&(nmsOk t x.nums&&(cnsOk cs t x.kids&&cnEnd cs x.op x.who x.name))):=by cases x; rfl
attribute [local irreducible] Ans.rd Ans.pu Ans.wr Ans.dr Ans.gr Ans.gw Ans.gl Ans.gd Ans.opt joinK W
theorem c77'(cs:List Cd)(t:Bool):∀(k:Nat) (x:Nm),SizeOf.sizeOf x≤k→nmFit x=true→PC 77 [.rptr (chk cs t) 0,.agg (nmC x)] (.bool (nmOk t x))
 |0,x,h,_=>by cases x; simp at h
 |k+1,x,hk,hf=>by
  rw[Yx];refine Qd hP g77_ok rfl rfl ?_;unfold g77;refine Zf rfl rfl ?_;rw[XbZ];have hlen:=ZZ hf;rw[bigE] at hlen;generalize hB:([]++[ABlk.box [iv8 x.op,iv x.n,iv8 x.who,.rsl false false 4 (x.kids.map nmC)]]:List ABlk)=base;have hB0:hget base 0=.box [iv8 x.op,iv x.n,iv8 x.who,.rsl false false 4 (x.kids.map nmC)]:=by rw[←hB]; rfl
  clear hB;repeat first|refine Ya (ld hB0 rfl) ?_|refine Ya rfl ?_
  have pick:∀K:AVal→Prop,K (.bool (decide (8≤x.op)&&decide (x.op≤12))) →
    VV.gr (.bool (decide (x.op ≥ 8))) true (λk=>VV.rd (Za 0 [.bptr 0 0] base) k) λt11_4=>
    VV.gr (.bool (decide (x.op ≥ 8))) true (λk=>VV.rd (Zd false 1 [t11_4] base) k) λt12_5=>
    VV.gr (.bool (decide (x.op ≥ 8))) true (λk=>VV.rd (Xh .leq false [t12_5,(.int .i8 12)] base) k) λt13_6=>
    VV.rd (Ym [.bool (decide (x.op ≥ 8)),t13_6,(.bool false)] base) K:=by
   intro K hK;rcases YBE (decide (x.op ≥ 8)) with h|h
   rotate_left
   ·rw[h];repeat first|refine Yb rfl ?_|refine Zc rfl ?_|refine Xc rfl ?_|refine Xd rfl ?_|refine Ya rfl ?_
    have h:¬8≤x.op:=by simpa using h
    simpa[h] using hK
   rw[h];repeat first|refine Xa ?_|refine Zb ?_|refine Ya (ld hB0 rfl) ?_|refine Ya (Xf ..) ?_|refine Ya (Zg ..) ?_|refine Ya rfl ?_
   have h:8≤x.op:=by simpa using h
   simpa[h] using hK
  refine pick _ ?_;clear pick;refine Xn λkj hkj=>?_;have kk:kj [iv (nmK x.op)] base:=by
   rw[hkj]; clear hkj kj;repeat first|refine Ya (ld hB0 rfl) ?_|refine Ya rfl ?_
   have bad1:¬(0≤x.op∧x.op≤12∧x.kids.length=nmK x.op)→AVal.bool false=AVal.bool (nmTop t x.op x.n x.who x.kids.length&&(nmsOk t x.kids&&nmEnd t x.op x.n x.who)):=by
    intro hn;have:nmTop t x.op x.n x.who x.kids.length=false:=by
     rw[Bool.eq_false_iff]; intro hh; simp[nmTop] at hh; exact hn hh
    rw[this]; rfl
   rcases YBE (decide (x.op<0)) with h1|h1
   ·rw[h1];repeat first|refine Yb rfl ?_|refine Zc rfl ?_|refine Xc rfl ?_|refine Xd rfl ?_|refine Ya rfl ?_
    refine Ze (bad1 ?_);simp at h1; omega
   rw[h1];repeat first|refine Xa ?_|refine Zb ?_|refine Ya (ld hB0 rfl) ?_|refine Ya (Xf ..) ?_|refine Ya (Zg ..) ?_|refine Ya rfl ?_
   rcases YBE (decide (x.op>12)) with h2|h2
   ·rw[h2];repeat first|refine Yb rfl ?_|refine Zc rfl ?_|refine Xc rfl ?_|refine Xd rfl ?_|refine Ya rfl ?_
    refine Ze (bad1 ?_);simp at h2; omega
   rw[h2];repeat first|refine Xa ?_|refine Zb ?_|refine Ya (ld hB0 rfl) ?_|refine Ya (Xf ..) ?_|refine Ya (Zg ..) ?_|refine Ya rfl ?_
   refine Yc (λh3=>bad1 ?_) (λh3=>?_)
   ·simp at h3; omega
   simp at h1 h2 h3;have ht:nmTop t x.op x.n x.who x.kids.length=true:=by simp[nmTop]; omega
   rw[ht,Bool.true_and];refine Yj (ι:=Nat) (λi vs σ=>vs=[iv i]∧σ=base∧i≤x.kids.length∧nmsOk t x.kids=nmsOk t (x.kids.drop i)) (λi=>x.kids.length-i) 0 ⟨rfl,rfl,by omega,by simp⟩ ?_;rintro i vs σ again ⟨rfl,rfl,hi,hu⟩ hag;repeat first|refine Ya (ld hB0 rfl) ?_|refine Ya rfl ?_
   refine Yc (λh=>?_) (λh=>?_)
   ·have h:i<x.kids.length:=by simpa using h
    have hdr:x.kids.drop i=x.kids[i]::x.kids.drop (i+1):=by rw[YLD h]
    rw[hdr,nmsOk] at hu;have hm:x.kids[i]∈x.kids:=List.getElem_mem h;refine Ya rfl (Ya (ld hB0 rfl) (Ya (Yo _ nmC _ _ _ x.kids _ i h) (Ya (ldr (nmLd _)) ?_)));refine Yd (c77' cs t k _ (by have:=Xad hm; omega) (ZS hf hm)) rfl g77_ok.plain (by rw[Yx]; rfl) ?_;refine Ya rfl ?_;refine Yc (λh4=>?_) (λh4=>?_)
    ·have h4:nmOk t x.kids[i]=false:=by simpa using h4
     rw[hu,h4]; rfl
    ·have h4:nmOk t x.kids[i]=true:=by simpa using h4
     rw[h4,Bool.true_and] at hu;refine Ya (Yk ..) ?_;rw[Qf (n:=i) (by omega)];exact hag (i+1) _ _ (by omega) ⟨rfl,rfl,by omega,hu⟩
   have h:i=x.kids.length:=by simp at h; omega
   subst h;rw[List.drop_length,nmsOk] at hu;rw[hu,Bool.true_and];clear hag hu hi bad1 ht;refine Ya rfl (Ya (ld hB0 rfl) (Ya (Xf ..) ?_));refine Yc (λh5=>?_) (λh5=>?_)
   ·have h5:x.op=0:=by simpa using h5
    repeat first|refine Ya (ld hB0 rfl) ?_|refine Ya rfl ?_
    rcases YBE (decide (x.n ≥ 0)) with h6|h6
    rotate_left
    ·rw[h6];repeat first|refine Yb rfl ?_|refine Zc rfl ?_|refine Xc rfl ?_|refine Xd rfl ?_|refine Ya rfl ?_
     have h6:¬0≤x.n:=by simpa using h6
     simp[nmEnd,h5,h6]
    rw[h6];repeat first|refine Xa ?_|refine Zb ?_|refine Ya (ld hB0 rfl) ?_|refine Ya (Xf ..) ?_|refine Ya (Zg ..) ?_|refine Ya rfl ?_
    rcases YBE (decide (x.n≤999)) with h7|h7
    rotate_left
    ·rw[h7];repeat first|refine Yb rfl ?_|refine Zc rfl ?_|refine Xc rfl ?_|refine Xd rfl ?_|refine Ya rfl ?_
     have h7:¬x.n≤999:=by simpa using h7
     simp[nmEnd,h5,h7]
    rw[h7];repeat first|refine Xa ?_|refine Zb ?_|refine Ya (ld hB0 rfl) ?_|refine Ya (Xf ..) ?_|refine Ya (Zg ..) ?_|refine Ya rfl ?_
    have h6:0≤x.n:=by simpa using h6
    simp at h7;simp[nmEnd,h5,h6,h7]
   have h5:x.op≠0:=by simpa using h5
   repeat first|refine Ya (ld hB0 rfl) ?_|refine Ya rfl ?_
   refine Yc (λh6=>?_) (λh6=>?_)
   ·have h6:x.n≠0:=by simpa using h6
    simp[nmEnd,h5,h6]
   have h6:x.n=0:=by simpa using h6
   repeat first|refine Ya (ld hB0 rfl) ?_|refine Ya rfl ?_
   have op1:1≤x.op:=by omega
   have op1d:decide (x.op ≥ 1)=true:=by simpa using op1
   rw[op1d];repeat first|refine Xa ?_|refine Zb ?_|refine Ya (ld hB0 rfl) ?_|refine Ya (Xf ..) ?_|refine Ya (Zg ..) ?_|refine Ya rfl ?_
   refine Yc (λh7=>?_) (λh7=>?_)
   ·have h7:x.op≤4:=by simpa using h7
    refine Ya rfl (Ya (ld hB0 rfl) ?_);refine Yd (c121 _) rfl g121_ok.plain rfl ?_;simp[nmEnd,h5,h6,h7,op1]
   have h7:¬x.op≤4:=by simpa using h7
   refine Ya rfl (Ya (ld hB0 rfl) (Ya (Xf ..) ?_));rcases YBE (decide (x.who=0)) with h8|h8
   rotate_left
   ·rw[h8];repeat first|refine Yb rfl ?_|refine Zc rfl ?_|refine Xc rfl ?_|refine Xd rfl ?_|refine Ya rfl ?_
    have h8:¬x.who=0:=by simpa using h8
    simp[nmEnd,h5,h6,h7,h8]
   rw[h8];repeat first|refine Xa ?_|refine Zb ?_|refine Ya (ld hB0 rfl) ?_|refine Ya (Xf ..) ?_|refine Ya (Zg ..) ?_|refine Ya rfl ?_
   have h8:x.who=0:=by simpa using h8
   rcases YBE (x.op != 7) with h9|h9
   ·rw[h9];repeat first|refine Yb rfl ?_|refine Zc rfl ?_|refine Xc rfl ?_|refine Xd rfl ?_|refine Ya rfl ?_
    have h9:x.op≠7:=by simpa using h9
    simp[nmEnd,h5,h6,h7,h8,h9]
   rw[h9];repeat first|refine Xa ?_|refine Ya (ldr (row:=chk cs t) rfl) ?_|refine Ya rfl ?_
   have h9:x.op=7:=by simpa using h9
   simp[nmEnd,h6,h8,h9]
  refine Yc (λh=>?_) (λh=>?_)
  ·have e:nmK x.op=2:=by simp at h; simp[nmK,h]
   rw[e] at kk; exact kk
  ·have e:nmK x.op=0:=by simp at h; simp[nmK]; omega
   rw[e] at kk; exact kk
theorem c77(cs:List Cd)(t:Bool)(x:Nm)(hf:nmFit x=true):PC 77 [.rptr (chk cs t) 0,.agg (nmC x)] (.bool (nmOk t x)):=c77' cs t _ x (Nat.le_refl _) hf
end Go.Ah.Tz
end
section
namespace Go.Ah.Tz
open Go.Proofs.Tryz (prog)
attribute [local irreducible] Ans.rd Ans.pu Ans.wr Ans.dr Ans.gr Ans.gw Ans.gl Ans.gd Ans.opt joinK W
theorem cnRo2(cs:List Cd)(t:Bool)(x:Cn):roL [.rptr (chk cs t) 0,.agg (cnC x)]=true:=by rw[QF]; rfl
theorem nmRo2(cs:List Cd)(t:Bool)(x:Nm):roL [.rptr (chk cs t) 0,.agg (nmC x)]=true:=by rw[Yx]; rfl
theorem c226'(cs:List Cd)(hcs:cs.length≤big)(t:Bool):∀(k:Nat) (x:Cn),SizeOf.sizeOf x≤k→cnFit x=true→PC 226 [.rptr (chk cs t) 0,.agg (cnC x)] (.bool (cnOk cs t x))
 |0,x,h,_=>by cases x; simp at h
 |k+1,x,hk,hf=>by
  rw[QF];refine Qd hP g226_ok rfl rfl ?_;unfold g226;refine Zf rfl rfl ?_;rw[QbP];have hl1:=YI hf;have hl2:=ZI hf;rw[bigE] at hl1 hl2;generalize hB:([]++[ABlk.box [iv8 x.op,iv8 x.who,.str x.name,.rsl false false 4 (x.nums.map nmC),.rsl false false 5 (x.kids.map cnC)]]:List ABlk)=base;have hB0:hget base 0=.box [iv8 x.op,iv8 x.who,.str x.name,.rsl false false 4 (x.nums.map nmC),.rsl false false 5 (x.kids.map cnC)]:=by rw[←hB]; rfl
  clear hB;repeat first|refine Ya (ld hB0 rfl) ?_|refine Ya rfl ?_
  have pick:∀K:AVal→Prop,K (.bool (decide (0≤x.op)&&decide (x.op≤2))) →
    VV.gr (.bool (decide (x.op ≥ 0))) true (λk=>VV.rd (Za 0 [.bptr 0 0] base) k) λt13_4=>
    VV.gr (.bool (decide (x.op ≥ 0))) true (λk=>VV.rd (Zd false 1 [t13_4] base) k) λt14_5=>
    VV.gr (.bool (decide (x.op ≥ 0))) true (λk=>VV.rd (Xh .leq false [t14_5,(.int .i8 2)] base) k) λt15_6=>
    VV.rd (Ym [.bool (decide (x.op ≥ 0)),t15_6,(.bool false)] base) K:=by
   intro K hK;rcases YBE (decide (x.op ≥ 0)) with h|h
   rotate_left
   ·rw[h];repeat first|refine Yb rfl ?_|refine Zc rfl ?_|refine Xc rfl ?_|refine Xd rfl ?_|refine Ya rfl ?_
    have h:¬0≤x.op:=by simpa using h
    simpa[h] using hK
   rw[h];repeat first|refine Xa ?_|refine Zb ?_|refine Ya (ld hB0 rfl) ?_|refine Ya (Xf ..) ?_|refine Ya (Zg ..) ?_|refine Ya rfl ?_
   have h:0≤x.op:=by simpa using h
   simpa[h] using hK
  refine pick _ ?_;clear pick;refine Xn λkj hkj=>?_;have kk:kj [iv (cnK3 x.op)] base:=by
   rw[hkj]; clear hkj kj;repeat first|refine Ya (ld hB0 rfl) ?_|refine Ya (Xf ..) ?_|refine Ya (Zg ..) ?_|refine Ya rfl ?_
   refine Xn λkj hkj=>?_;have kk:kj [iv (if x.op=3 then 1 else 0:Nat)] base:=by
    rw[hkj]; clear hkj kj;repeat first|refine Ya (ld hB0 rfl) ?_|refine Ya (Xf ..) ?_|refine Ya (Zg ..) ?_|refine Ya rfl ?_
    have pick:∀K:AVal→Prop,K (.bool (decide (x.op=4∨x.op=5))) →
      VV.gr (.bool (decide (x.op=4))) false (λk=>VV.rd (Za 0 [.bptr 0 0] base) k) λt24_18=>
      VV.gr (.bool (decide (x.op=4))) false (λk=>VV.rd (Zd false 1 [t24_18] base) k) λt25_19=>
      VV.gr (.bool (decide (x.op=4))) false (λk=>VV.rd (Xh .eql false [t25_19,(.int .i8 5)] base) k) λt26_20=>
      VV.rd (Ym [.bool (decide (x.op=4)),(.bool true),t26_20] base) K:=by
     intro K hK;rcases YBE (decide (x.op=4)) with h|h
     ·rw[h];repeat first|refine Yb rfl ?_|refine Zc rfl ?_|refine Xc rfl ?_|refine Xd rfl ?_|refine Ya rfl ?_
      have h:x.op=4:=by simpa using h
      simpa[h] using hK
     rw[h];repeat first|refine Xa ?_|refine Zb ?_|refine Ya (ld hB0 rfl) ?_|refine Ya (Xf ..) ?_|refine Ya (Zg ..) ?_|refine Ya rfl ?_
     have h:x.op≠4:=by simpa using h
     simpa[h] using hK
    refine pick _ ?_;clear pick;refine Xn λkj hkj=>?_;have kk:kj [iv (cnK4 x.op)] base:=by
     rw[hkj]; clear hkj kj;repeat first|refine Ya (ld hB0 rfl) ?_|refine Ya (Xf ..) ?_|refine Ya (Zg ..) ?_|refine Ya rfl ?_
     have bad1:¬(0≤x.op∧x.op≤6∧x.nums.length=cnK3 x.op∧x.kids.length=cnK4 x.op)→AVal.bool false=AVal.bool (cnTop x.op x.nums.length x.kids.length&&(nmsOk t x.nums&&(cnsOk cs t x.kids&&cnEnd cs x.op x.who x.name))):=by
      intro hn;have:cnTop x.op x.nums.length x.kids.length=false:=by
       rw[Bool.eq_false_iff]; intro hh; simp[cnTop] at hh; exact hn hh
      rw[this]; rfl
     rcases YBE (decide (x.op<0)) with h1|h1
     ·rw[h1];repeat first|refine Yb rfl ?_|refine Zc rfl ?_|refine Xc rfl ?_|refine Xd rfl ?_|refine Ya rfl ?_
      refine Ze (bad1 ?_);simp at h1; omega
     rw[h1];repeat first|refine Xa ?_|refine Zb ?_|refine Ya (ld hB0 rfl) ?_|refine Ya (Xf ..) ?_|refine Ya (Zg ..) ?_|refine Ya rfl ?_
     rcases YBE (decide (x.op>6)) with h2|h2
     ·rw[h2];repeat first|refine Yb rfl ?_|refine Zc rfl ?_|refine Xc rfl ?_|refine Xd rfl ?_|refine Ya rfl ?_
      refine Ze (bad1 ?_);simp at h2; omega
     rw[h2];repeat first|refine Xa ?_|refine Zb ?_|refine Ya (ld hB0 rfl) ?_|refine Ya (Xf ..) ?_|refine Ya (Zg ..) ?_|refine Ya rfl ?_
     rcases YBE (((x.nums.map nmC).length:Int) != (cnK3 x.op:Int)) with h3|h3
     ·rw[h3];repeat first|refine Yb rfl ?_|refine Zc rfl ?_|refine Xc rfl ?_|refine Xd rfl ?_|refine Ya rfl ?_
      refine Ze (bad1 ?_);simp at h3; omega
     rw[h3];repeat first|refine Xa ?_|refine Zb ?_|refine Ya (ld hB0 rfl) ?_|refine Ya (Xf ..) ?_|refine Ya (Zg ..) ?_|refine Ya rfl ?_
     refine Yc (λh4=>bad1 ?_) (λh4=>?_)
     ·simp at h4; omega
     simp at h1 h2 h3 h4;have ht:cnTop x.op x.nums.length x.kids.length=true:=by simp[cnTop]; omega
     rw[ht,Bool.true_and];refine Yj (ι:=Nat) (λi vs σ=>vs=[iv i]∧σ=base∧i≤x.nums.length∧nmsOk t x.nums=nmsOk t (x.nums.drop i)) (λi=>x.nums.length-i) 0 ⟨rfl,rfl,by omega,by simp⟩ ?_;rintro i vs σ again ⟨rfl,rfl,hi,hu⟩ hag;repeat first|refine Ya (ld hB0 rfl) ?_|refine Ya rfl ?_
     refine Yc (λh=>?_) (λh=>?_)
     ·have h:i<x.nums.length:=by simpa using h
      have hdr:x.nums.drop i=x.nums[i]::x.nums.drop (i+1):=by rw[YLD h]
      rw[hdr,nmsOk] at hu;have hm:x.nums[i]∈x.nums:=List.getElem_mem h;refine Ya rfl (Ya (ld hB0 rfl) (Ya (Yo _ nmC _ _ _ x.nums _ i h) (Ya (ldr (nmLd _)) ?_)));refine Yd (c77 cs t _ (QQ hf hm)) rfl g77_ok.plain (nmRo2 ..) ?_;refine Ya rfl ?_;refine Yc (λh4=>?_) (λh4=>?_)
      ·have h4:nmOk t x.nums[i]=false:=by simpa using h4
       rw[hu,h4]; rfl
      ·have h4:nmOk t x.nums[i]=true:=by simpa using h4
       rw[h4,Bool.true_and] at hu;refine Ya (Yk ..) ?_;rw[Qf (n:=i) (by omega)];exact hag (i+1) _ _ (by omega) ⟨rfl,rfl,by omega,hu⟩
     have h:i=x.nums.length:=by simp at h; omega
     subst h;rw[List.drop_length,nmsOk] at hu;rw[hu,Bool.true_and];clear hag hu hi bad1 ht;refine Yj (ι:=Nat) (λi vs s=>vs=[iv i]∧s=σ∧i≤x.kids.length∧cnsOk cs t x.kids=cnsOk cs t (x.kids.drop i)) (λi=>x.kids.length-i) 0 ⟨rfl,rfl,by omega,by simp⟩ ?_;rintro i vs s again ⟨rfl,rfl,hi,hu⟩ hag;repeat first|refine Ya (ld hB0 rfl) ?_|refine Ya rfl ?_
     refine Yc (λh=>?_) (λh=>?_)
     ·have h:i<x.kids.length:=by simpa using h
      have hdr:x.kids.drop i=x.kids[i]::x.kids.drop (i+1):=by rw[YLD h]
      rw[hdr,cnsOk] at hu;have hm:x.kids[i]∈x.kids:=List.getElem_mem h;refine Ya rfl (Ya (ld hB0 rfl) (Ya (Yo _ cnC _ _ _ x.kids _ i h) (Ya (ldr (cnLd _)) ?_)));refine Yd (c226' cs hcs t k _ (by have:=Xac hm; omega) (XQ hf hm)) rfl g226_ok.plain (cnRo2 ..) ?_;refine Ya rfl ?_;refine Yc (λh4=>?_) (λh4=>?_)
      ·have h4:cnOk cs t x.kids[i]=false:=by simpa using h4
       rw[hu,h4]; rfl
      ·have h4:cnOk cs t x.kids[i]=true:=by simpa using h4
       rw[h4,Bool.true_and] at hu;refine Ya (Yk ..) ?_;rw[Qf (n:=i) (by omega)];exact hag (i+1) _ _ (by omega) ⟨rfl,rfl,by omega,hu⟩
     have h:i=x.kids.length:=by simp at h; omega
     subst h;rw[List.drop_length,cnsOk] at hu;rw[hu,Bool.true_and];clear hag hu hi;repeat first|refine Ya (ld hB0 rfl) ?_|refine Ya (Xf ..) ?_|refine Ya (Zg ..) ?_|refine Ya rfl ?_
     refine Yc (λh5=>?_) (λh5=>?_)
     ·have h5:x.op=6:=by simpa using h5
      refine Ya rfl (Ya (ld hB0 rfl) ?_);refine Yd (c121 _) rfl g121_ok.plain rfl ?_;rcases YBE (sdOp x.who) with h6|h6
      rotate_left
      ·rw[h6];repeat first|refine Yb rfl ?_|refine Zc rfl ?_|refine Xc rfl ?_|refine Xd rfl ?_|refine Ya rfl ?_
       simp[cnEnd,h5,h6]
      rw[h6];repeat first|refine Xa ?_|refine Zb ?_|refine Ya (ld hB0 rfl) ?_|refine Ya (Xf ..) ?_|refine Ya (Zg ..) ?_|refine Ya rfl ?_
      refine Yd (c228 cs hcs t _ _) rfl g228_ok.plain rfl ?_;repeat first|refine Xa ?_|refine Zb ?_|refine Ya (ld hB0 rfl) ?_|refine Ya (Xf ..) ?_|refine Ya (Zg ..) ?_|refine Ya rfl ?_
      simp[cnEnd,h5,h6]
     have h5:x.op≠6:=by simpa using h5
     repeat first|refine Ya (ld hB0 rfl) ?_|refine Ya (Xf ..) ?_|refine Ya (Zg ..) ?_|refine Ya rfl ?_
     rcases YBE (decide (x.who=0)) with h6|h6
     rotate_left
     ·rw[h6];repeat first|refine Yb rfl ?_|refine Zc rfl ?_|refine Xc rfl ?_|refine Xd rfl ?_|refine Ya rfl ?_
      have h6:x.who≠0:=by simpa using h6
      simp[cnEnd,h5,h6]
     rw[h6];repeat first|refine Xa ?_|refine Zb ?_|refine Ya (ld hB0 rfl) ?_|refine Ya (Xf ..) ?_|refine Ya (Zg ..) ?_|refine Ya rfl ?_
     have h6:x.who=0:=by simpa using h6
     simp[cnEnd,h5,h6]
    refine Yc (λh=>?_) (λh=>?_)
    ·have e:cnK4 x.op=2:=by simp at h; simp[cnK4]; omega
     rw[e] at kk; exact kk
    ·have e:cnK4 x.op=if x.op=3 then 1 else 0:=by simp at h; simp[cnK4]; omega
     rw[e] at kk; exact kk
   refine Yc (λh=>?_) (λh=>?_)
   ·rw[if_pos (by simpa using h)] at kk; exact kk
   ·rw[if_neg (by simpa using h)] at kk; exact kk
  refine Yc (λh=>?_) (λh=>?_)
  ·have e:cnK3 x.op=2:=by simp at h; simp[cnK3,h]
   rw[e] at kk; exact kk
  ·have e:cnK3 x.op=0:=by simp at h; simp[cnK3]; omega
   rw[e] at kk; exact kk
theorem c226(cs:List Cd)(hcs:cs.length≤big)(t:Bool)(x:Cn)(hf:cnFit x=true):PC 226 [.rptr (chk cs t) 0,.agg (cnC x)] (.bool (cnOk cs t x)):=c226' cs hcs t _ x (Nat.le_refl _) hf
end Go.Ah.Tz
end
section
namespace Go.Ah.Tz
open Go.Proofs.Tryz (prog)
def efMid(t:Bool)(op who:Int):Bool:=if op=0∨op=1 then sdOp who||(decide (who=2)&&t) else decide (who=0)
def efEnd(t:Bool)(op who:Int):Bool:=
 if op=2∨op=4∨op=6 then sdOp who else efMid t op who
mutual
def efOk (cs:List Cd) (t:Bool):Int→Ef→Bool
 | d,.mk op who n name c thn els=>decide (0≤op) && (decide (op≤8) && (if op=8 then
   decide (who=0)&&(noNum n&&(name==[]&&(cnOk cs t c&&((decide (thn.length≤16)&&(decide (d+1≤8)&&efsOk cs t (d+1) thn))&&(decide (els.length≤16)&&(decide (d+1≤8)&&efsOk cs t (d+1) els))))))
  else noCond c && (decide (thn.length=0) && (decide (els.length=0) && ((if cntOp op then nmOk t n else noNum n) && ((if op=7 then findC cs name true else name == []) && efEnd t op who))))))
def efsOk (cs:List Cd) (t:Bool):Int→List Ef→Bool
 |_,[]=>true
 |d,x::l=>efOk cs t d x&&efsOk cs t d l
end
def lstOk(cs:List Cd)(t:Bool)(d:Int)(l:List Ef):Bool:=decide (l.length≤16)&&(decide (d≤8)&&efsOk cs t d l)
theorem ZbW(cs:List Cd)(t:Bool)(d:Int)(x:Ef):efOk cs t d x=(decide (0≤x.op) && (decide (x.op≤8) && (if x.op=8 then
   decide (x.who=0)&&(noNum x.n&&(x.name==[]&&(cnOk cs t x.c&&(lstOk cs t (d+1) x.thn&&lstOk cs t (d+1) x.els))))
  else noCond x.c && (decide (x.thn.length=0) && (decide (x.els.length=0) && ((if cntOp x.op then nmOk t x.n else noNum x.n) && ((if x.op=7 then findC cs x.name true else x.name == []) && efEnd t x.op x.who))))))):=by cases x; rfl
attribute [local irreducible] Ans.rd Ans.pu Ans.wr Ans.dr Ans.gr Ans.gw Ans.gl Ans.gd Ans.opt joinK W
theorem cutF(F:Prop){R G:Prop}(imp:(F→R)→G)(r:F→R):G:=imp r
set_option maxHeartbeats 1000000
theorem c188'(cs:List Cd)(hcs:cs.length≤big)(t:Bool):∀(k:Nat) (l:List Ef) (d:Int),SizeOf.sizeOf l≤k→lsFit l=true→0≤d→PC 188 [.rptr (chk cs t) 0,efV l,iv d] (.bool (lstOk cs t d l))
 |0,l,_,h,_,_=>by cases l<;>simp at h
 |k+1,l,d,hk,hf,hd=>by
  refine Qd hP g188_ok rfl rfl ?_;unfold g188;have hlen:=Zz hf;rw[bigE] at hlen;refine Ya rfl (Ya rfl ?_);rcases YBE (decide (((l.map efC).length:Int)>16)) with h1|h1
  ·rw[h1];repeat first|refine Yb rfl ?_|refine Zc rfl ?_|refine Xc rfl ?_|refine Xd rfl ?_|refine Ya rfl ?_
   refine Ze ?_;have h1:¬l.length≤16:=by simp at h1; omega
   simp[lstOk,h1]
  rw[h1];repeat first|refine Xa ?_|refine Zb ?_|refine Ya rfl ?_
  refine Yc (λh2=>?_) (λh2=>?_)
  ·have h2:¬d≤8:=by simp at h2; omega
   simp[lstOk,h2]
  have h1:l.length≤16:=by simp at h1; omega
  have h2:d≤8:=by simp at h2; omega
  have hl:lstOk cs t d l=efsOk cs t d l:=by simp[lstOk,h1,h2]
  rw[hl];clear hl;refine Yj (ι:=Nat) (λi vs σ=>vs=[iv i]∧i≤l.length∧efsOk cs t d l=efsOk cs t d (l.drop i)) (λi=>l.length-i) 0 ⟨rfl,by omega,by simp⟩ ?_;rintro i vs σ again ⟨rfl,hi,hu⟩ hag;refine Ya rfl (Ya rfl ?_);refine Yc (λh=>?_) (λh=>?_);rotate_left
  ·have h:i=l.length:=by simp at h; omega
   subst h;rw[List.drop_length,efsOk] at hu;rw[hu]
  have h:i<l.length:=by simpa using h
  have hdr:l.drop i=l[i]::l.drop (i+1):=by rw[YLD h]
  rw[hdr,efsOk] at hu;have hm:l[i]∈l:=List.getElem_mem h;have hsz:=List.sizeOf_lt_of_mem hm;have hfx:=QK hf hm;have ix:=λ(s:List ABlk)=>Yo s efC false false 14 l .i64 i h;generalize l[i]=x at hu hsz hfx ix;refine Xn λkj hkj=>?_;have kk:efOk cs t d x=true→∀s,kj [] s:=by
   intro he s;rw[hkj];refine Ya (Yk ..) ?_;rw[Qf (n:=i) (by omega)];exact hag (i+1) _ _ (by omega) ⟨rfl,by omega,by rw[hu,he,Bool.true_and]⟩
  have bad:efOk cs t d x=false→AVal.bool false=AVal.bool (efsOk cs t d l):=by
   intro he; rw[hu,he]; rfl
  clear hkj hag;refine Ya (ix _) (Ya (ldr (efLd x)) ?_);refine Xx (row:=[iv8 x.op,iv8 x.who,iv8 x.n.op,iv x.n.n,iv8 x.n.who,.rsl false false 4 (x.n.kids.map nmC),.str x.name,iv8 x.c.op,iv8 x.c.who,.str x.c.name,.rsl false false 4 (x.c.nums.map nmC),.rsl false false 5 (x.c.kids.map cnC),.rsl false false 14 (x.thn.map efC),.rsl false false 14 (x.els.map efC)]) (row':=[iv8 x.op,iv8 x.who,iv8 x.n.op,iv x.n.n,iv8 x.n.who,.rsl false false 4 (x.n.kids.map nmC),.str x.name,iv8 x.c.op,iv8 x.c.who,.str x.c.name,.rsl false false 4 (x.c.nums.map nmC),.rsl false false 5 (x.c.kids.map cnC),.rsl false false 14 (x.thn.map efC),.rsl false false 14 (x.els.map efC)]) (by rw[ZG]; rfl) rfl rfl ?_;have hB0:=Zm σ (ABlk.box [iv8 x.op,iv8 x.who,iv8 x.n.op,iv x.n.n,iv8 x.n.who,.rsl false false 4 (x.n.kids.map nmC),.str x.name,iv8 x.c.op,iv8 x.c.who,.str x.c.name,.rsl false false 4 (x.c.nums.map nmC),.rsl false false 5 (x.c.kids.map cnC),.rsl false false 14 (x.thn.map efC),.rsl false false 14 (x.els.map efC)]);generalize σ++[ABlk.box [iv8 x.op,iv8 x.who,iv8 x.n.op,iv x.n.n,iv8 x.n.who,.rsl false false 4 (x.n.kids.map nmC),.str x.name,iv8 x.c.op,iv8 x.c.who,.str x.c.name,.rsl false false 4 (x.c.nums.map nmC),.rsl false false 5 (x.c.kids.map cnC),.rsl false false 14 (x.thn.map efC),.rsl false false 14 (x.els.map efC)]]=base at hB0 ⊢;generalize σ.length=b at hB0 ⊢;have hN:Zd true 4 [.bptr b 2] base=.ok (.agg (nmC x.n)) [b] []:=ld hB0 (by rw[Yx]; rfl);have hC:Zd true 5 [.bptr b 7] base=.ok (.agg (cnC x.c)) [b] []:=ld hB0 (by rw[QF]; rfl);rw[ZbW] at kk bad;repeat first|refine Ya hN ?_|refine Ya hC ?_|refine Ya (ld hB0 rfl) ?_|refine Ya (Xf ..) ?_|refine Ya (Zg ..) ?_|refine Ya rfl ?_
  rcases YBE (decide (x.op<0)) with a1|a1
  ·rw[a1];repeat first|refine Yb rfl ?_|refine Zc rfl ?_|refine Xc rfl ?_|refine Xd rfl ?_|refine Ya rfl ?_
   refine Ze (bad ?_);have a1:¬0≤x.op:=by simp at a1; omega
   simp[a1]
  rw[a1];repeat first|refine Xa ?_|refine Zb ?_|refine Ya (ldr (row:=chk cs t) rfl) ?_|refine Ya hN ?_|refine Ya hC ?_|refine Ya (ld hB0 rfl) ?_|refine Ya (Xf ..) ?_|refine Ya (Zg ..) ?_|refine Ya rfl ?_
  refine Yc (λa2=>bad ?_) (λa2=>?_)
  ·have a2:¬x.op≤8:=by simp at a2; omega
   simp[a2]
  have a1:0≤x.op:=by simpa using a1
  have a2:x.op≤8:=by simpa using a2
  simp only[a1,a2,decide_true,Bool.true_and] at kk bad;repeat first|refine Ya hN ?_|refine Ya hC ?_|refine Ya (ld hB0 rfl) ?_|refine Ya (Xf ..) ?_|refine Ya (Zg ..) ?_|refine Ya rfl ?_
  refine Yc (λa3=>?_) (λa3=>?_)
  ·have a3:x.op=8:=by simpa using a3
   rw[if_pos a3] at kk bad;repeat first|refine Ya hN ?_|refine Ya hC ?_|refine Ya (ld hB0 rfl) ?_|refine Ya (Xf ..) ?_|refine Ya (Zg ..) ?_|refine Ya rfl ?_
   rcases YBE (x.who != 0) with a4|a4
   ·rw[a4];repeat first|refine Yb rfl ?_|refine Zc rfl ?_|refine Xc rfl ?_|refine Xd rfl ?_|refine Ya rfl ?_
    refine Ze (bad ?_);have a4:x.who≠0:=by simpa using a4
    simp[a4]
   rw[a4];repeat first|refine Xa ?_|refine Zb ?_|refine Ya (ldr (row:=chk cs t) rfl) ?_|refine Ya hN ?_|refine Ya hC ?_|refine Ya (ld hB0 rfl) ?_|refine Ya (Xf ..) ?_|refine Ya (Zg ..) ?_|refine Ya rfl ?_
   refine Yd (c225 _) rfl g225_ok.plain (nmRo _) ?_;repeat first|refine Xa ?_|refine Zb ?_|refine Ya (ldr (row:=chk cs t) rfl) ?_|refine Ya hN ?_|refine Ya hC ?_|refine Ya (ld hB0 rfl) ?_|refine Ya (Xf ..) ?_|refine Ya (Zg ..) ?_|refine Ya rfl ?_
   rcases YBE (!noNum x.n) with a5|a5
   ·rw[a5];repeat first|refine Yb rfl ?_|refine Zc rfl ?_|refine Xc rfl ?_|refine Xd rfl ?_|refine Ya rfl ?_
    refine Ze (bad ?_);have a5:noNum x.n=false:=by simpa using a5
    simp[a5]
   rw[a5];repeat first|refine Xa ?_|refine Zb ?_|refine Ya (ldr (row:=chk cs t) rfl) ?_|refine Ya hN ?_|refine Ya hC ?_|refine Ya (ld hB0 rfl) ?_|refine Ya (Xf ..) ?_|refine Ya (Zg ..) ?_|refine Ya rfl ?_
   rcases YBE (!(x.name==[])) with a6|a6
   ·rw[a6];repeat first|refine Yb rfl ?_|refine Zc rfl ?_|refine Xc rfl ?_|refine Xd rfl ?_|refine Ya rfl ?_
    refine Ze (bad ?_);have a6:(x.name==[])=false:=by simpa using a6
    rw[a6]; simp
   rw[a6];repeat first|refine Xa ?_|refine Zb ?_|refine Ya (ldr (row:=chk cs t) rfl) ?_|refine Ya hN ?_|refine Ya hC ?_|refine Ya (ld hB0 rfl) ?_|refine Ya (Xf ..) ?_|refine Ya (Zg ..) ?_|refine Ya rfl ?_
   refine Yd (c226 cs hcs t _ (ZX hfx)) rfl g226_ok.plain (cnRo2 ..) ?_;repeat first|refine Xa ?_|refine Zb ?_|refine Ya (ldr (row:=chk cs t) rfl) ?_|refine Ya hN ?_|refine Ya hC ?_|refine Ya (ld hB0 rfl) ?_|refine Ya (Xf ..) ?_|refine Ya (Zg ..) ?_|refine Ya rfl ?_
   rcases YBE (!cnOk cs t x.c) with a7|a7
   ·rw[a7];repeat first|refine Yb rfl ?_|refine Zc rfl ?_|refine Xc rfl ?_|refine Xd rfl ?_|refine Ya rfl ?_
    refine Ze (bad ?_);have a7:cnOk cs t x.c=false:=by simpa using a7
    simp[a7]
   rw[a7];repeat first|refine Xa ?_|refine Zb ?_|refine Ya (ldr (row:=chk cs t) rfl) ?_|refine Ya hN ?_|refine Ya hC ?_|refine Ya (ld hB0 rfl) ?_|refine Ya (Xf ..) ?_|refine Ya (Zg ..) ?_|refine Ya rfl ?_
   have hs2:=XU x;rw[wrapI (n:=d+1) (by omega) (by omega)];refine Yd (c188' cs hcs t k x.thn (d+1) (by omega) (QG hfx) (by omega)) rfl g188_ok.plain rfl ?_;repeat first|refine Xa ?_|refine Zb ?_|refine Ya (ldr (row:=chk cs t) rfl) ?_|refine Ya hN ?_|refine Ya hC ?_|refine Ya (ld hB0 rfl) ?_|refine Ya (Xf ..) ?_|refine Ya (Zg ..) ?_|refine Ya rfl ?_
   rcases YBE (!lstOk cs t (d+1) x.thn) with a8|a8
   ·rw[a8];repeat first|refine Yb rfl ?_|refine Zc rfl ?_|refine Xc rfl ?_|refine Xd rfl ?_|refine Ya rfl ?_
    refine Ze (bad ?_);have a8:lstOk cs t (d+1) x.thn=false:=by simpa using a8
    simp[a8]
   rw[a8];repeat first|refine Xa ?_|refine Zb ?_|refine Ya (ldr (row:=chk cs t) rfl) ?_|refine Ya hN ?_|refine Ya hC ?_|refine Ya (ld hB0 rfl) ?_|refine Ya (Xf ..) ?_|refine Ya (Zg ..) ?_|refine Ya rfl ?_
   rw[wrapI (n:=d+1) (by omega) (by omega)];refine Yd (c188' cs hcs t k x.els (d+1) (by omega) (XG hfx) (by omega)) rfl g188_ok.plain rfl ?_;repeat first|refine Xa ?_|refine Zb ?_|refine Ya (ldr (row:=chk cs t) rfl) ?_|refine Ya hN ?_|refine Ya hC ?_|refine Ya (ld hB0 rfl) ?_|refine Ya (Xf ..) ?_|refine Ya (Zg ..) ?_|refine Ya rfl ?_
   refine Yc (λa9=>bad ?_) (λa9=>kk ?_ _)
   ·have a9:lstOk cs t (d+1) x.els=false:=by simpa using a9
    simp[a9]
   ·simp at a4 a5 a6 a7 a8 a9;simp[a4,a5,a6,a7,a8,a9]
  have a3:x.op≠8:=by simpa using a3
  rw[if_neg a3] at kk bad;repeat first|refine Ya hN ?_|refine Ya hC ?_|refine Ya (ld hB0 rfl) ?_|refine Ya (Xf ..) ?_|refine Ya (Zg ..) ?_|refine Ya rfl ?_
  refine Yd (c227 _) rfl g227_ok.plain (cnRo _) ?_;repeat first|refine Ya hN ?_|refine Ya hC ?_|refine Ya (ld hB0 rfl) ?_|refine Ya (Xf ..) ?_|refine Ya (Zg ..) ?_|refine Ya rfl ?_
  rcases YBE (!noCond x.c) with a4|a4
  ·rw[a4];repeat first|refine Yb rfl ?_|refine Zc rfl ?_|refine Xc rfl ?_|refine Xd rfl ?_|refine Ya rfl ?_
   refine Ze (bad ?_);have a4:noCond x.c=false:=by simpa using a4
   simp[a4]
  rw[a4];repeat first|refine Xa ?_|refine Zb ?_|refine Ya (ldr (row:=chk cs t) rfl) ?_|refine Ya hN ?_|refine Ya hC ?_|refine Ya (ld hB0 rfl) ?_|refine Ya (Xf ..) ?_|refine Ya (Zg ..) ?_|refine Ya rfl ?_
  rcases YBE (decide (((x.thn.map efC).length:Int)>0)) with a5|a5
  ·rw[a5];repeat first|refine Yb rfl ?_|refine Zc rfl ?_|refine Xc rfl ?_|refine Xd rfl ?_|refine Ya rfl ?_
   refine Ze (bad ?_);have a5:x.thn.length≠0:=by simp at a5; omega
   simp[a5]
  rw[a5];repeat first|refine Xa ?_|refine Zb ?_|refine Ya (ldr (row:=chk cs t) rfl) ?_|refine Ya hN ?_|refine Ya hC ?_|refine Ya (ld hB0 rfl) ?_|refine Ya (Xf ..) ?_|refine Ya (Zg ..) ?_|refine Ya rfl ?_
  refine Yc (λa6=>bad ?_) (λa6=>?_)
  ·have a6:x.els.length≠0:=by simp at a6; omega
   simp[a6]
  have a4:noCond x.c=true:=by simpa using a4
  have a5:x.thn.length=0:=by simp at a5; simpa using a5
  have a6:x.els.length=0:=by simp at a6; simpa using a6
  simp only[a4,a5,a6,decide_true,Bool.true_and] at kk bad;repeat first|refine Ya hN ?_|refine Ya hC ?_|refine Ya (ld hB0 rfl) ?_|refine Ya (Xf ..) ?_|refine Ya (Zg ..) ?_|refine Ya rfl ?_
  refine Yd (c130 _) rfl g130_ok.plain rfl ?_;apply cutF ((if cntOp x.op then nmOk t x.n else noNum x.n)=true)
  ·intro hR;rcases YBE (cntOp x.op) with c1|c1
   ·rw[c1];repeat first|refine Xa ?_|refine Zb ?_|refine Ya (ldr (row:=chk cs t) rfl) ?_|refine Ya hN ?_|refine Ya hC ?_|refine Ya (ld hB0 rfl) ?_|refine Ya (Xf ..) ?_|refine Ya (Zg ..) ?_|refine Ya rfl ?_
    refine Yd (c77 cs t _ (Z0 hfx)) rfl g77_ok.plain (nmRo2 ..) ?_;repeat first|refine Xa ?_|refine Zb ?_|refine Ya (ldr (row:=chk cs t) rfl) ?_|refine Ya hN ?_|refine Ya hC ?_|refine Ya (ld hB0 rfl) ?_|refine Ya (Xf ..) ?_|refine Ya (Zg ..) ?_|refine Ya rfl ?_
    rcases YBE (!nmOk t x.n) with c2|c2
    ·rw[c2];repeat first|refine Yb rfl ?_|refine Zc rfl ?_|refine Xc rfl ?_|refine Xd rfl ?_|refine Ya rfl ?_
     refine Ze (bad ?_);have c2:nmOk t x.n=false:=by simpa using c2
     simp[c1,c2]
    rw[c2];repeat first|refine Xa ?_|refine Zb ?_|refine Ya (ldr (row:=chk cs t) rfl) ?_|refine Ya hN ?_|refine Ya hC ?_|refine Ya (ld hB0 rfl) ?_|refine Ya (Xf ..) ?_|refine Ya (Zg ..) ?_|refine Ya rfl ?_
    refine Yd (c130 _) rfl g130_ok.plain rfl ?_;rw[c1];repeat first|refine Xa ?_|refine Zb ?_|refine Yb rfl ?_|refine Zc rfl ?_|refine Xc rfl ?_|refine Xd rfl ?_|refine Ya (ldr (row:=chk cs t) rfl) ?_|refine Ya hN ?_|refine Ya hC ?_|refine Ya (ld hB0 rfl) ?_|refine Ya (Xf ..) ?_|refine Ya (Zg ..) ?_|refine Ya rfl ?_
    refine Qi ?_;exact hR (by have c2:nmOk t x.n=true:=(by simpa using c2); simp[c1,c2])
   rw[c1];repeat first|refine Xa ?_|refine Zb ?_|refine Yb rfl ?_|refine Zc rfl ?_|refine Xc rfl ?_|refine Xd rfl ?_|refine Ya (ldr (row:=chk cs t) rfl) ?_|refine Ya hN ?_|refine Ya hC ?_|refine Ya (ld hB0 rfl) ?_|refine Ya (Xf ..) ?_|refine Ya (Zg ..) ?_|refine Ya rfl ?_
   refine Yd (c130 _) rfl g130_ok.plain rfl ?_;rw[c1];repeat first|refine Xa ?_|refine Zb ?_|refine Ya (ldr (row:=chk cs t) rfl) ?_|refine Ya hN ?_|refine Ya hC ?_|refine Ya (ld hB0 rfl) ?_|refine Ya (Xf ..) ?_|refine Ya (Zg ..) ?_|refine Ya rfl ?_
   refine Yd (c225 _) rfl g225_ok.plain (nmRo _) ?_;repeat first|refine Xa ?_|refine Zb ?_|refine Ya (ldr (row:=chk cs t) rfl) ?_|refine Ya hN ?_|refine Ya hC ?_|refine Ya (ld hB0 rfl) ?_|refine Ya (Xf ..) ?_|refine Ya (Zg ..) ?_|refine Ya rfl ?_
   refine Yc (λc2=>bad ?_) (λc2=>hR ?_)
   ·have c2:noNum x.n=false:=by simpa using c2
    simp[c1,c2]
   ·have c2:noNum x.n=true:=by simpa using c2
    simp[c1,c2]
  intro b1;rw[b1,Bool.true_and] at kk bad;repeat first|refine Ya hN ?_|refine Ya hC ?_|refine Ya (ld hB0 rfl) ?_|refine Ya (Xf ..) ?_|refine Ya (Zg ..) ?_|refine Ya rfl ?_
  apply cutF ((if x.op=7 then findC cs x.name true else x.name==[])=true)
  ·intro hR;rcases YBE (decide (x.op=7)) with c1|c1
   ·rw[c1];repeat first|refine Xa ?_|refine Zb ?_|refine Ya (ldr (row:=chk cs t) rfl) ?_|refine Ya hN ?_|refine Ya hC ?_|refine Ya (ld hB0 rfl) ?_|refine Ya (Xf ..) ?_|refine Ya (Zg ..) ?_|refine Ya rfl ?_
    refine Yd (c228 cs hcs t _ _) rfl g228_ok.plain rfl ?_;repeat first|refine Xa ?_|refine Zb ?_|refine Ya (ldr (row:=chk cs t) rfl) ?_|refine Ya hN ?_|refine Ya hC ?_|refine Ya (ld hB0 rfl) ?_|refine Ya (Xf ..) ?_|refine Ya (Zg ..) ?_|refine Ya rfl ?_
    have c1:x.op=7:=by simpa using c1
    rcases YBE (!findC cs x.name true) with c2|c2
    ·rw[c2];repeat first|refine Yb rfl ?_|refine Zc rfl ?_|refine Xc rfl ?_|refine Xd rfl ?_|refine Ya rfl ?_
     refine Ze (bad ?_);have c2:findC cs x.name true=false:=by simpa using c2
     simp[c1,c2]
    rw[c2];repeat first|refine Xa ?_|refine Zb ?_|refine Ya (ldr (row:=chk cs t) rfl) ?_|refine Ya hN ?_|refine Ya hC ?_|refine Ya (ld hB0 rfl) ?_|refine Ya (Xf ..) ?_|refine Ya (Zg ..) ?_|refine Ya rfl ?_
    have c3:(x.op != 7)=false:=by simpa using c1
    rw[c3];repeat first|refine Xa ?_|refine Zb ?_|refine Yb rfl ?_|refine Zc rfl ?_|refine Xc rfl ?_|refine Xd rfl ?_|refine Ya (ldr (row:=chk cs t) rfl) ?_|refine Ya hN ?_|refine Ya hC ?_|refine Ya (ld hB0 rfl) ?_|refine Ya (Xf ..) ?_|refine Ya (Zg ..) ?_|refine Ya rfl ?_
    refine Qi ?_;exact hR (by have c2:findC cs x.name true=true:=(by simpa using c2); simp[c1,c2])
   rw[c1];repeat first|refine Xa ?_|refine Zb ?_|refine Yb rfl ?_|refine Zc rfl ?_|refine Xc rfl ?_|refine Xd rfl ?_|refine Ya (ldr (row:=chk cs t) rfl) ?_|refine Ya hN ?_|refine Ya hC ?_|refine Ya (ld hB0 rfl) ?_|refine Ya (Xf ..) ?_|refine Ya (Zg ..) ?_|refine Ya rfl ?_
   have c1:x.op≠7:=by simpa using c1
   have c3:(x.op != 7)=true:=by simpa using c1
   rw[c3];repeat first|refine Xa ?_|refine Zb ?_|refine Ya (ldr (row:=chk cs t) rfl) ?_|refine Ya hN ?_|refine Ya hC ?_|refine Ya (ld hB0 rfl) ?_|refine Ya (Xf ..) ?_|refine Ya (Zg ..) ?_|refine Ya rfl ?_
   refine Yc (λc2=>bad ?_) (λc2=>hR ?_)
   ·have c2:(x.name==[])=false:=by simpa using c2
    rw[if_neg c1,c2]; rfl
   ·have c2:(x.name==[])=true:=by simpa using c2
    rw[if_neg c1,c2]
  intro b2;rw[b2,Bool.true_and] at kk bad;repeat first|refine Ya hN ?_|refine Ya hC ?_|refine Ya (ld hB0 rfl) ?_|refine Ya (Xf ..) ?_|refine Ya (Zg ..) ?_|refine Ya rfl ?_
  have fin:∀s,VV.rd (Xo .not [.bool (efEnd t x.op x.who)] s) λt177_151=>VV.test t177_151 (AVal.bool false=AVal.bool (efsOk cs t d l)) (kj [] s):=by
   intro s;refine Ya rfl ?_;refine Yc (λc=>bad ?_) (λc=>kk ?_ _)
   ·simpa using c
   ·simpa using c
  rcases YBE (decide (x.op=0)) with e1|e1
  ·rw[e1];repeat first|refine Xa ?_|refine Zb ?_|refine Yb rfl ?_|refine Zc rfl ?_|refine Xc rfl ?_|refine Xd rfl ?_|refine Ya (ldr (row:=chk cs t) rfl) ?_|refine Ya hN ?_|refine Ya hC ?_|refine Ya (ld hB0 rfl) ?_|refine Ya (Xf ..) ?_|refine Ya (Zg ..) ?_|refine Ya rfl ?_
   have e1:x.op=0:=by simpa using e1
   refine Xn λk1 hk1=>?_;have m1:k1 [.bool (efMid t x.op x.who)] base:=by
    rw[hk1];repeat first|refine Ya hN ?_|refine Ya hC ?_|refine Ya (ld hB0 rfl) ?_|refine Ya (Xf ..) ?_|refine Ya (Zg ..) ?_|refine Ya rfl ?_
    rw[show decide (x.op=2)=false by simp[e1]];repeat first|refine Xa ?_|refine Zb ?_|refine Ya (ldr (row:=chk cs t) rfl) ?_|refine Ya hN ?_|refine Ya hC ?_|refine Ya (ld hB0 rfl) ?_|refine Ya (Xf ..) ?_|refine Ya (Zg ..) ?_|refine Ya rfl ?_
    rw[show decide (x.op=4)=false by simp[e1]];repeat first|refine Xa ?_|refine Zb ?_|refine Ya (ldr (row:=chk cs t) rfl) ?_|refine Ya hN ?_|refine Ya hC ?_|refine Ya (ld hB0 rfl) ?_|refine Ya (Xf ..) ?_|refine Ya (Zg ..) ?_|refine Ya rfl ?_
    rw[show decide (x.op=6)=false by simp[e1]];refine Xae (Qi ?_);have:=fin base;rw[show efEnd t x.op x.who=efMid t x.op x.who by simp[efEnd,e1]] at this;exact this
   clear hk1;refine Ze ?_;repeat first|refine Ya hN ?_|refine Ya hC ?_|refine Ya (ld hB0 rfl) ?_|refine Ya (Xf ..) ?_|refine Ya (Zg ..) ?_|refine Ya rfl ?_
   refine Yd (c121 _) rfl g121_ok.plain rfl ?_;rw[show efMid t x.op x.who=(sdOp x.who||(decide (x.who=2)&&t)) by simp[efMid,e1]] at m1;rcases YBE (sdOp x.who) with e2|e2
   ·rw[e2] at m1 ⊢;repeat first|refine Xa ?_|refine Zb ?_|refine Yb rfl ?_|refine Zc rfl ?_|refine Xc rfl ?_|refine Xd rfl ?_|refine Ya (ldr (row:=chk cs t) rfl) ?_|refine Ya hN ?_|refine Ya hC ?_|refine Ya (ld hB0 rfl) ?_|refine Ya (Xf ..) ?_|refine Ya (Zg ..) ?_|refine Ya rfl ?_
    exact m1
   rw[e2] at m1 ⊢;repeat first|refine Xa ?_|refine Zb ?_|refine Ya (ldr (row:=chk cs t) rfl) ?_|refine Ya hN ?_|refine Ya hC ?_|refine Ya (ld hB0 rfl) ?_|refine Ya (Xf ..) ?_|refine Ya (Zg ..) ?_|refine Ya rfl ?_
   rcases YBE (decide (x.who=2)) with e3|e3
   ·rw[e3] at m1 ⊢;repeat first|refine Xa ?_|refine Zb ?_|refine Yb rfl ?_|refine Zc rfl ?_|refine Xc rfl ?_|refine Xd rfl ?_|refine Ya (ldr (row:=chk cs t) rfl) ?_|refine Ya hN ?_|refine Ya hC ?_|refine Ya (ld hB0 rfl) ?_|refine Ya (Xf ..) ?_|refine Ya (Zg ..) ?_|refine Ya rfl ?_
    exact m1
   rw[e3] at m1 ⊢;repeat first|refine Xa ?_|refine Zb ?_|refine Yb rfl ?_|refine Zc rfl ?_|refine Xc rfl ?_|refine Xd rfl ?_|refine Ya (ldr (row:=chk cs t) rfl) ?_|refine Ya hN ?_|refine Ya hC ?_|refine Ya (ld hB0 rfl) ?_|refine Ya (Xf ..) ?_|refine Ya (Zg ..) ?_|refine Ya rfl ?_
   exact m1
  rw[e1];repeat first|refine Xa ?_|refine Zb ?_|refine Ya (ldr (row:=chk cs t) rfl) ?_|refine Ya hN ?_|refine Ya hC ?_|refine Ya (ld hB0 rfl) ?_|refine Ya (Xf ..) ?_|refine Ya (Zg ..) ?_|refine Ya rfl ?_
  have e1:x.op≠0:=by simpa using e1
  refine Xn λk1 hk1=>?_;have m1:k1 [.bool (efMid t x.op x.who)] base:=by
   rw[hk1];repeat first|refine Ya hN ?_|refine Ya hC ?_|refine Ya (ld hB0 rfl) ?_|refine Ya (Xf ..) ?_|refine Ya (Zg ..) ?_|refine Ya rfl ?_
   rcases YBE (decide (x.op=2)) with e3|e3
   ·rw[e3];repeat first|refine Xa ?_|refine Zb ?_|refine Yb rfl ?_|refine Zc rfl ?_|refine Xc rfl ?_|refine Xd rfl ?_|refine Ya (ldr (row:=chk cs t) rfl) ?_|refine Ya hN ?_|refine Ya hC ?_|refine Ya (ld hB0 rfl) ?_|refine Ya (Xf ..) ?_|refine Ya (Zg ..) ?_|refine Ya rfl ?_
    have e3:x.op=2:=by simpa using e3
    refine Xae (Ze ?_);repeat first|refine Ya hN ?_|refine Ya hC ?_|refine Ya (ld hB0 rfl) ?_|refine Ya (Xf ..) ?_|refine Ya (Zg ..) ?_|refine Ya rfl ?_
    refine Yd (c121 _) rfl g121_ok.plain rfl ?_;have:=fin base;rw[show efEnd t x.op x.who=sdOp x.who by simp[efEnd,e3]] at this;exact this
   rw[e3];repeat first|refine Xa ?_|refine Zb ?_|refine Ya (ldr (row:=chk cs t) rfl) ?_|refine Ya hN ?_|refine Ya hC ?_|refine Ya (ld hB0 rfl) ?_|refine Ya (Xf ..) ?_|refine Ya (Zg ..) ?_|refine Ya rfl ?_
   rcases YBE (decide (x.op=4)) with e4|e4
   ·rw[e4];repeat first|refine Xa ?_|refine Zb ?_|refine Yb rfl ?_|refine Zc rfl ?_|refine Xc rfl ?_|refine Xd rfl ?_|refine Ya (ldr (row:=chk cs t) rfl) ?_|refine Ya hN ?_|refine Ya hC ?_|refine Ya (ld hB0 rfl) ?_|refine Ya (Xf ..) ?_|refine Ya (Zg ..) ?_|refine Ya rfl ?_
    have e4:x.op=4:=by simpa using e4
    refine Xae (Ze ?_);repeat first|refine Ya hN ?_|refine Ya hC ?_|refine Ya (ld hB0 rfl) ?_|refine Ya (Xf ..) ?_|refine Ya (Zg ..) ?_|refine Ya rfl ?_
    refine Yd (c121 _) rfl g121_ok.plain rfl ?_;have:=fin base;rw[show efEnd t x.op x.who=sdOp x.who by simp[efEnd,e4]] at this;exact this
   rw[e4];repeat first|refine Xa ?_|refine Zb ?_|refine Ya (ldr (row:=chk cs t) rfl) ?_|refine Ya hN ?_|refine Ya hC ?_|refine Ya (ld hB0 rfl) ?_|refine Ya (Xf ..) ?_|refine Ya (Zg ..) ?_|refine Ya rfl ?_
   refine Xae (Yc (λe5=>?_) (λe5=>?_))
   ·have e5:x.op=6:=by simpa using e5
    repeat first|refine Ya hN ?_|refine Ya hC ?_|refine Ya (ld hB0 rfl) ?_|refine Ya (Xf ..) ?_|refine Ya (Zg ..) ?_|refine Ya rfl ?_
    refine Yd (c121 _) rfl g121_ok.plain rfl ?_;have:=fin base;rw[show efEnd t x.op x.who=sdOp x.who by simp[efEnd,e5]] at this;exact this
   ·simp at e3 e4 e5;have:=fin base;rw[show efEnd t x.op x.who=efMid t x.op x.who by simp[efEnd,e3,e4,e5]] at this;exact this
  clear hk1;refine Yc (λe2=>?_) (λe2=>?_);rotate_left
  ·have e2:x.op≠1:=by simpa using e2
   rw[show efMid t x.op x.who=decide (x.who=0) by simp[efMid,e1,e2]] at m1;exact m1
  have e2:x.op=1:=by simpa using e2
  repeat first|refine Ya hN ?_|refine Ya hC ?_|refine Ya (ld hB0 rfl) ?_|refine Ya (Xf ..) ?_|refine Ya (Zg ..) ?_|refine Ya rfl ?_
  refine Yd (c121 _) rfl g121_ok.plain rfl ?_;rw[show efMid t x.op x.who=(sdOp x.who||(decide (x.who=2)&&t)) by simp[efMid,e2]] at m1;rcases YBE (sdOp x.who) with e2|e2
  ·rw[e2] at m1 ⊢;repeat first|refine Xa ?_|refine Zb ?_|refine Yb rfl ?_|refine Zc rfl ?_|refine Xc rfl ?_|refine Xd rfl ?_|refine Ya (ldr (row:=chk cs t) rfl) ?_|refine Ya hN ?_|refine Ya hC ?_|refine Ya (ld hB0 rfl) ?_|refine Ya (Xf ..) ?_|refine Ya (Zg ..) ?_|refine Ya rfl ?_
   exact m1
  rw[e2] at m1 ⊢;repeat first|refine Xa ?_|refine Zb ?_|refine Ya (ldr (row:=chk cs t) rfl) ?_|refine Ya hN ?_|refine Ya hC ?_|refine Ya (ld hB0 rfl) ?_|refine Ya (Xf ..) ?_|refine Ya (Zg ..) ?_|refine Ya rfl ?_
  rcases YBE (decide (x.who=2)) with e3|e3
  ·rw[e3] at m1 ⊢;repeat first|refine Xa ?_|refine Zb ?_|refine Yb rfl ?_|refine Zc rfl ?_|refine Xc rfl ?_|refine Xd rfl ?_|refine Ya (ldr (row:=chk cs t) rfl) ?_|refine Ya hN ?_|refine Ya hC ?_|refine Ya (ld hB0 rfl) ?_|refine Ya (Xf ..) ?_|refine Ya (Zg ..) ?_|refine Ya rfl ?_
   exact m1
  rw[e3] at m1 ⊢;repeat first|refine Xa ?_|refine Zb ?_|refine Yb rfl ?_|refine Zc rfl ?_|refine Xc rfl ?_|refine Xd rfl ?_|refine Ya (ldr (row:=chk cs t) rfl) ?_|refine Ya hN ?_|refine Ya hC ?_|refine Ya (ld hB0 rfl) ?_|refine Ya (Xf ..) ?_|refine Ya (Zg ..) ?_|refine Ya rfl ?_
  exact m1
theorem c188(cs:List Cd)(hcs:cs.length≤big)(t:Bool)(l:List Ef)(d:Int)(hf:lsFit l=true)(hd:0≤d):PC 188 [.rptr (chk cs t) 0,efV l,iv d] (.bool (lstOk cs t d l)):=c188' cs hcs t _ l d (Nat.le_refl _) hf hd
end Go.Ah.Tz
end
section
namespace Go.Ah.Tz
open Go.Proofs.Tryz (prog)
def isLet(x:Int):Bool:=decide ((97≤x∧x≤122)∨(65≤x∧x≤90)∨(192≤x∧x≤591∧x≠215∧x≠247))
def isDig(x:Int):Bool:=decide (48≤x∧x≤57)
def shl6(x:Int):Int:=IntKind.i64.wrap (x*2 ^ (min 6 IntKind.i64.bits))
def rStep(x:Int)(c:UInt8):Int:=bits .or .i64 (shl6 x) (IntKind.i64.wrap (bits .and .u8 (c.toNat:Int) 63))
def rCont(c:UInt8):Bool:=(bits .and .u8 (c.toNat:Int) 192 != 128)
def rTail(s:Tx)(at_:Nat):Nat→Nat→Int→Option Int
 |0,_,x=>some x
 |m+1,i,x=>match s[at_+i]? with
  |none=>none
  |some c=>if rCont c then none else rTail s at_ m (i+1) (rStep x c)
def rHead(c:Int):Option (Nat×Int×Int):=
 if 192≤c∧c<224 then some (2,bits .and .i64 c 31,128) else if 224≤c∧c<240 then some (3,bits .and .i64 c 15,2048) else if 240≤c∧c<248 then some (4,bits .and .i64 c 7,65536) else if 128≤c then none else some (1,c,0)
def rEnd(n:Nat)(least:Int):Option Int→Int×Nat
 |none=>(0,0)
 |some y=>if y<least∨1114111<y∨(55296≤y∧y≤57343) then (0,0) else (y,n)
def runeR(s:Tx)(at_:Nat):Int×Nat:=match s[at_]? with
 |none=>(0,0)
 |some c=>match rHead c.toNat with
  |none=>(0,0)
  |some (n,x,least)=>rEnd n least (rTail s at_ (n-1) 1 x)
def Yap(s:Tx)(at_ n:Nat):Prop:=(runeR s at_).2=0∨(isLet (runeR s at_).1=false∧(n=0∨(isDig (runeR s at_).1=false∧(runeR s at_).1≠39)))
instance (s:Tx) (at_ n:Nat):Decidable (Yap s at_ n):=inferInstanceAs (Decidable (_∨_))
def nameR(s:Tx)(at_ n:Nat):Nat×Nat:=
 if _h:at_<s.length then (if hk:Yap s at_ n then (at_,n) else nameR s (at_+(runeR s at_).2) (n+1)) else (at_,n)
termination_by s.length-at_
decreasing_by
 have:(runeR s at_).2≠0:=λe=>hk (Or.inl e);omega
def ownIn:List Tx→Tx→Bool
 |[],_=>false
 |k::l,s=>k==s||ownIn l s
def keysR:List Tx:=[[99,97,114,100],
 [117,110,105,116],
 [99,104,97,114,109],
 [102,111,114,109,97,116],
 [112,108,97,121,101,100],
 [100,101,97,100],
 [100,97,119,110],
 [97,117,114,97],
 [115,104,105,101,108,100],
 [104,97,114,109],
 [109,101,110,100],
 [100,114,97,119],
 [103,97,105,110],
 [100,114,111,112],
 [108,111,111,107],
 [115,104,111,119],
 [115,117,109,109,111,110],
 [105,102],
 [101,108,115,101],
 [109,101],
 [102,111,101],
 [116,97,114,103,101,116],
 [108,105,102,101],
 [104,97,110,100],
 [100,101,99,107],
 [117,110,105,116,115],
 [109,97,110,97],
 [99,111,115,116],
 [116,111,112],
 [112,111,119,101,114],
 [109,105,110],
 [109,97,120],
 [110,111,116],
 [97,110,100],
 [111,114],
 [104,111,108,100,115],
 [108,101,97,115,116],
 [109,111,115,116],
 [99,111,112,105,101,115],
 [98,97,110,110,101,100],
 [115,105,110,103,108,101]]
def nameOk(s:Tx):Bool:=decide (1≤(nameR s 0 0).2)&&(decide ((nameR s 0 0).2≤24)&&(decide ((nameR s 0 0).1=s.length)&&(decide (s.length≤40) && !ownIn keysR s)))
attribute [local irreducible] Ans.rd Ans.pu Ans.wr Ans.dr Ans.gr Ans.gw Ans.gl Ans.gd Ans.opt joinK W
theorem X2{P:Program}{GL:Globs}{c d:Bool}{K:AVal→Prop}{r1:SRes}{f2:AVal→SRes}{σ:List ABlk}{v1:AVal}(h1:r1=.ok v1 [] [])(h2:f2 v1=.ok (.bool d) [] [])(hK:K (.bool (c&&d))) :
  (W P GL).gr (.bool c) true (λk=>(W P GL).rd r1 k) λt1=>(W P GL).gr (.bool c) true (λk=>(W P GL).rd (f2 t1) k) λt2=>(W P GL).rd (Ym [.bool c,t2,.bool false] σ) K:=by
 cases c with
 |true=>exact Xa (Ya h1 (Xa (Ya h2 (Ya rfl hK))))
 |false=>exact Yb rfl (Yb rfl (Ya rfl hK))
theorem c198(x:Int):PC 198 [iv x] (.bool (isDig x)):=by
 refine Qd hP g198_ok rfl rfl ?_;unfold g198;refine Ya rfl ?_;rcases YBE (decide (x ≥ 48)) with h|h
 rotate_left
 ·rw[h];repeat first|refine Yb rfl ?_|refine Zc rfl ?_|refine Xc rfl ?_|refine Xd rfl ?_|refine Ya rfl ?_
  have h:¬48≤x:=by simpa using h
  simp[isDig,h]
 rw[h];repeat first|refine Xa ?_|refine Zb ?_|refine Ya rfl ?_
 have h:48≤x:=by simpa using h
 exact congrArg AVal.bool (by rw[Bool.eq_iff_iff]; simp[isDig,h])
theorem c197(x:Int):PC 197 [iv x] (.bool (isLet x)):=by
 refine Qd hP g197_ok rfl rfl ?_;unfold g197;refine Ya rfl ?_;apply cutF (¬(97≤x∧x≤122))
 ·intro hR;rcases YBE (decide (x ≥ 97)) with h|h
  ·rw[h];repeat first|refine Xa ?_|refine Zb ?_|refine Ya rfl ?_
   have h:97≤x:=by simpa using h
   rcases YBE (decide (x≤122)) with h2|h2
   ·rw[h2];repeat first|refine Xa ?_|refine Zb ?_|refine Yb rfl ?_|refine Zc rfl ?_|refine Xc rfl ?_|refine Xd rfl ?_|refine Ya rfl ?_
    have h2:x≤122:=by simpa using h2
    simp[isLet,h,h2]
   rw[h2];have h2:¬x≤122:=by simpa using h2
   repeat first|refine Xa ?_|refine Zb ?_|refine Yb rfl ?_|refine Zc rfl ?_|refine Xc rfl ?_|refine Xd rfl ?_|refine Ya rfl ?_
   exact hR (by omega)
  rw[h];have h:¬97≤x:=by simpa using h
  repeat first|refine Xa ?_|refine Zb ?_|refine Yb rfl ?_|refine Zc rfl ?_|refine Xc rfl ?_|refine Xd rfl ?_|refine Ya rfl ?_
  exact hR (by omega)
 intro n1;apply cutF (¬(65≤x∧x≤90))
 ·intro hR;rcases YBE (decide (x ≥ 65)) with h|h
  ·rw[h];repeat first|refine Xa ?_|refine Zb ?_|refine Ya rfl ?_
   have h:65≤x:=by simpa using h
   rcases YBE (decide (x≤90)) with h2|h2
   ·rw[h2];repeat first|refine Xa ?_|refine Zb ?_|refine Yb rfl ?_|refine Zc rfl ?_|refine Xc rfl ?_|refine Xd rfl ?_|refine Ya rfl ?_
    have h2:x≤90:=by simpa using h2
    simp[isLet,h,h2]
   rw[h2];have h2:¬x≤90:=by simpa using h2
   repeat first|refine Xa ?_|refine Zb ?_|refine Yb rfl ?_|refine Zc rfl ?_|refine Xc rfl ?_|refine Xd rfl ?_|refine Ya rfl ?_
   exact hR (by omega)
  rw[h];have h:¬65≤x:=by simpa using h
  repeat first|refine Xa ?_|refine Zb ?_|refine Yb rfl ?_|refine Zc rfl ?_|refine Xc rfl ?_|refine Xd rfl ?_|refine Ya rfl ?_
  exact hR (by omega)
 intro n2;rcases YBE (decide (x ≥ 192)) with h1|h1
 rotate_left
 ·rw[h1];repeat first|refine Xa ?_|refine Zb ?_|refine Yb rfl ?_|refine Zc rfl ?_|refine Xc rfl ?_|refine Xd rfl ?_|refine Ya rfl ?_
  exact congrArg AVal.bool (by rw[Bool.eq_iff_iff]; simp at h1; simp[isLet]; omega)
 rw[h1];repeat first|refine Xa ?_|refine Zb ?_|refine Ya rfl ?_
 rcases YBE (decide (x≤591)) with h2|h2
 rotate_left
 ·rw[h2];repeat first|refine Xa ?_|refine Zb ?_|refine Yb rfl ?_|refine Zc rfl ?_|refine Xc rfl ?_|refine Xd rfl ?_|refine Ya rfl ?_
  exact congrArg AVal.bool (by rw[Bool.eq_iff_iff]; simp at h2; simp[isLet]; omega)
 rw[h2];repeat first|refine Xa ?_|refine Zb ?_|refine Ya rfl ?_
 rcases YBE (x != 215) with h3|h3
 rotate_left
 ·rw[h3];repeat first|refine Xa ?_|refine Zb ?_|refine Yb rfl ?_|refine Zc rfl ?_|refine Xc rfl ?_|refine Xd rfl ?_|refine Ya rfl ?_
  exact congrArg AVal.bool (by rw[Bool.eq_iff_iff]; simp at h3; simp[isLet]; omega)
 rw[h3];repeat first|refine Xa ?_|refine Zb ?_|refine Ya rfl ?_
 exact congrArg AVal.bool (by rw[Bool.eq_iff_iff]; simp at h1 h2 h3; simp[isLet]; omega)
theorem c196(s:Tx)(hs:s.length≤big)(a:Nat)(ha:a<s.length):PC 196 [.str s,iv a] (.tup [iv (runeR s a).1,iv (runeR s a).2]):=by
 rw[bigE] at hs;refine Qd hP g196_ok rfl rfl ?_;unfold g196;refine Ya (YbV _ s .i64 a ha) (Ya (Zcp ..) ?_);have hc:s[a].toNat<256:=s[a].toNat_lt;rw[wrapI (n:=(s[a].toNat:Int)) (by omega) (by omega)];have hr:runeR s a=match rHead s[a].toNat with
  |none=>(0,0)
  |some (n,x,least)=>rEnd n least (rTail s a (n-1) 1 x):=by
  rw[runeR,List.getElem?_eq_getElem ha]
 generalize s[a].toNat=c0 at hr hc ⊢;obtain⟨c,hcc⟩:∃c:Int,c=(c0:Int):=⟨_,rfl⟩;rw[←hcc] at hr ⊢;have hc2:0≤c∧c<256:=by omega
 clear hcc hc;refine Ya rfl ?_;refine X2 rfl rfl ?_;refine Xn λkj hkj=>?_;have zero:∀y:Option Int,y=none→∀n least,AVal.tup [iv 0,iv 0]=AVal.tup [iv (rEnd n least y).1,iv (rEnd n least y).2]:=by
  rintro _ rfl n least; rfl
 have kk:∀(n:Nat) (x least:Int),1≤n→n≤4→rHead c=some (n,x,least)→kj [iv n,iv x,iv least] []:=by
  intro n x least n1 n4 hh;rw[hkj]; clear hkj kj;rw[hh] at hr
  replace hr:runeR s a=rEnd n least (rTail s a (n-1) 1 x):=hr
  rw[hr];clear hr hh;refine Yj (ι:=Nat) (λi vs σ=>∃y,vs=[iv i,iv y]∧1≤i∧i≤n∧rTail s a (n-1) 1 x=rTail s a (n-i) i y) (λi=>n-i) 1 ⟨x,rfl,by omega,by omega,rfl⟩ ?_;rintro i vs σ again ⟨y,rfl,i1,i2,hu⟩ hag;refine Ya rfl ?_;refine Yc (λh=>?_) (λh=>?_)
  ·have h:i<n:=by simpa using h
   have hadd:∀σ,Xh .add false [iv a,iv i] σ=.ok (iv ((a+i:Nat):Int)) [] []:=λσ=>by
    rw[Yk,wrapI (by omega) (by omega)]; rfl
   have hni:n-i=(n-(i+1))+1:=by omega
   rw[hni,rTail] at hu;refine Ya (hadd _) (Ya rfl (Ya rfl ?_));rcases YBE (decide (((a+i:Nat):Int) ≥ (s.length:Int))) with h1|h1
   ·rw[h1];repeat first|refine Xa ?_|refine Zb ?_|refine Yb rfl ?_|refine Zc rfl ?_|refine Xc rfl ?_|refine Xd rfl ?_|refine Ya rfl ?_
    refine Ze ?_;have h1:s.length≤a+i:=by simp at h1; omega
    rw[List.getElem?_eq_none h1] at hu;exact zero _ hu _ _
   rw[h1];have h1:a+i<s.length:=by simp at h1; omega
   have hix:∀σ,Yv [.str s,iv ((a+i:Nat):Int)] σ=.ok (.int .u8 s[a+i].toNat) [] []:=λσ=>YbV _ s .i64 (a+i) h1;rw[List.getElem?_eq_getElem h1] at hu;generalize s[a+i]=q at hu hix;repeat first|refine Xa ?_|refine Ya (hadd _) ?_|refine Ya (hix _) ?_|refine Ya rfl ?_
   refine Yc (λh2=>?_) (λh2=>?_)
   ·have h2:rCont q=true:=h2;simp only[h2,if_true] at hu;exact zero _ hu _ _
   ·have h2:rCont q=false:=h2;simp only[h2,Bool.false_eq_true,if_false] at hu;refine Ya rfl (Ya (hadd _) (Ya (hix _) (Ya rfl (Ya (Zcp ..) (Ya rfl (Ya (Yk ..) ?_))))));rw[Qf (n:=i) (by omega)];exact hag (i+1) _ _ (by omega) ⟨_,rfl,by omega,by omega,hu⟩
  ·have h:i=n:=by simp at h; omega
   subst h;rw[Nat.sub_self,rTail] at hu;rw[hu];clear hu hag zero;refine Ya rfl ?_;have bad:(y<least∨1114111<y∨(55296≤y∧y≤57343))→AVal.tup [iv 0,iv 0]=AVal.tup [iv (rEnd i least (some y)).1,iv (rEnd i least (some y)).2]:=by
    intro hb; rw[rEnd,if_pos hb]; rfl
   have good:¬(y<least∨1114111<y∨(55296≤y∧y≤57343))→AVal.tup [iv y,iv i]=AVal.tup [iv (rEnd i least (some y)).1,iv (rEnd i least (some y)).2]:=by
    intro hb; rw[rEnd,if_neg hb]
   rcases YBE (decide (y<least)) with h1|h1
   ·rw[h1];repeat first|refine Xa ?_|refine Zb ?_|refine Yb rfl ?_|refine Zc rfl ?_|refine Xc rfl ?_|refine Xd rfl ?_|refine Ya rfl ?_
    exact Ze (bad (by simp at h1; omega))
   rw[h1];repeat first|refine Xa ?_|refine Zb ?_|refine Ya rfl ?_
   rcases YBE (decide (y>1114111)) with h2|h2
   ·rw[h2];repeat first|refine Xa ?_|refine Zb ?_|refine Yb rfl ?_|refine Zc rfl ?_|refine Xc rfl ?_|refine Xd rfl ?_|refine Ya rfl ?_
    exact Ze (bad (by simp at h2; omega))
   rw[h2];repeat first|refine Xa ?_|refine Zb ?_|refine Ya rfl ?_
   rcases YBE (decide (y ≥ 55296)) with h3|h3
   ·rw[h3];repeat first|refine Xa ?_|refine Zb ?_|refine Ya rfl ?_
    refine Yc (λh4=>bad ?_) (λh4=>good ?_)
    ·simp at h3 h4; omega
    ·simp at h1 h2 h3 h4; omega
   rw[h3];repeat first|refine Xa ?_|refine Zb ?_|refine Yb rfl ?_|refine Zc rfl ?_|refine Xc rfl ?_|refine Xd rfl ?_|refine Ya rfl ?_
   exact Qi (good (by simp at h1 h2 h3; omega))
 clear hkj;refine Yc (λh=>?_) (λn1=>?_)
 ·have h:192≤c∧c<224:=by simpa using h
  refine Ya rfl (kk 2 _ _ (by omega) (by omega) ?_);rw[rHead,if_pos h]
 have n1:¬(192≤c∧c<224):=by simp at n1; omega
 refine Ya rfl (X2 rfl rfl ?_);refine Yc (λh=>?_) (λn2=>?_)
 ·have h:224≤c∧c<240:=by simpa using h
  refine Ya rfl (kk 3 _ _ (by omega) (by omega) ?_);rw[rHead,if_neg n1,if_pos h]
 have n2:¬(224≤c∧c<240):=by simp at n2; omega
 refine Ya rfl (X2 rfl rfl ?_);refine Yc (λh=>?_) (λn3=>?_)
 ·have h:240≤c∧c<248:=by simpa using h
  refine Ya rfl (kk 4 _ _ (by omega) (by omega) ?_);rw[rHead,if_neg n1,if_neg n2,if_pos h]
 have n3:¬(240≤c∧c<248):=by simp at n3; omega
 refine Ya rfl ?_;refine Yc (λh=>?_) (λh=>?_)
 ·have h:128≤c:=by simpa using h
  have e:rHead c=none:=by rw[rHead,if_neg n1,if_neg n2,if_neg n3,if_pos h]
  rw[hr,e]; rfl
 ·have h:¬128≤c:=by simpa using h
  exact kk 1 _ _ (by omega) (by omega) (by rw[rHead,if_neg n1,if_neg n2,if_neg n3,if_neg h])
theorem Yci{c:Int}{n:Nat}{x least:Int}(h:rHead c=some (n,x,least)):n≤4:=by
 unfold rHead at h;repeat (split at h; first|(cases h; omega)|skip)
 all_goals first|(cases h; omega)|cases h
theorem Xbz(s:Tx)(a:Nat):(runeR s a).2≤4:=by
 unfold runeR;split
 ·simp
 ·split
  ·simp
  ·rename_i n x least h;have:=Yci h;cases rTail s a (n-1) 1 x with
   |none=>simp[rEnd]
   |some y=>rw[rEnd]; split<;>simp; omega
theorem c193(s:Tx)(hs:s.length≤big)(a0:Nat)(ha0:a0≤s.length):PC 193 [.str s,iv a0] (.tup [iv (nameR s a0 0).1,iv (nameR s a0 0).2]):=by
 have hs2:=hs;rw[bigE] at hs2;refine Qd hP g193_ok rfl rfl ?_;unfold g193;refine Xn λk0 hk0=>?_;have kk:∀a n:Nat,nameR s a0 0=(a,n)→k0 [iv a,iv n] []:=by
  intro a n e;rw[hk0,e]; exact rfl
 clear hk0;refine Yj (ι:=Nat) (λa vs σ=>∃n:Nat,vs=[iv a,iv n]∧σ=[]∧n≤a∧a≤s.length+4∧nameR s a0 0=nameR s a n) (λa=>s.length+10-a) a0 ⟨0,rfl,rfl,by omega,by omega,rfl⟩ ?_;rintro a vs σ again ⟨n,rfl,rfl,i1,i2,hu⟩ hag;refine Ya rfl (Ya rfl ?_);refine Yc (λh=>?_) (λh=>?_);rotate_left
 ·have h:¬a<s.length:=by simpa using h
  exact kk a n (by rw[hu,nameR,dif_neg h])
 have h:a<s.length:=by simpa using h
 refine Yd (c196 s hs a h) rfl g196_ok.plain rfl ?_;refine Ya rfl (Ya rfl ?_);have stp:Yap s a n→k0 [iv a,iv n] []:=λhst=>kk a n (by rw[hu,nameR,dif_pos h,dif_pos hst]);have cont:¬Yap s a n→again [iv ((a+(runeR s a).2:Nat):Int),iv ((n+1:Nat):Int)] []:=by
  intro hst;have h1:(runeR s a).2≠0:=λe=>hst (Or.inl e);have h4:=Xbz s a;exact hag _ _ _ (by omega) ⟨n+1,rfl,rfl,by omega,by omega,by rw[hu,nameR,dif_pos h,dif_neg hst]⟩
 have h4:=Xbz s a;unfold Yap at stp cont;clear hag hu kk;generalize (runeR s a).1=x at stp cont ⊢;generalize (runeR s a).2=k at stp cont h4 ⊢;have go:¬(k=0∨(isLet x=false∧(n=0∨(isDig x=false∧x≠39))))→VV.rd (Xh .add false [iv a,iv k] []) λt41_27=>VV.rd (Xh .add false [iv n,(.int .i64 1)] []) λt43_28=>again [t41_27,t43_28] []:=by
  intro hst;refine Ya (Yk ..) (Ya (Yk ..) ?_);rw[Qf (n:=n) (by omega),wrapI (n:=(a:Int)+(k:Int)) (by omega) (by omega)];exact cont hst
 refine Ya rfl ?_;rcases YBE ((k:Int)==0) with h1|h1
 ·rw[h1];repeat first|refine Xa ?_|refine Zb ?_|refine Yb rfl ?_|refine Zc rfl ?_|refine Xc rfl ?_|refine Xd rfl ?_|refine Ya rfl ?_
  exact Ze (stp (Or.inl (by simpa using h1)))
 rw[h1];have h1:k≠0:=by simpa using h1
 repeat first|refine Xa ?_|refine Zb ?_|refine Ya rfl ?_
 refine Yd (c197 _) rfl g197_ok.plain rfl ?_;repeat first|refine Xa ?_|refine Zb ?_|refine Ya rfl ?_
 rcases YBE (!isLet x) with h2|h2
 rotate_left
 ·rw[h2];repeat first|refine Xa ?_|refine Zb ?_|refine Yb rfl ?_|refine Zc rfl ?_|refine Xc rfl ?_|refine Xd rfl ?_|refine Ya rfl ?_
  exact Qi (go (by have h2:isLet x=true:=(by simpa using h2); simp[h1,h2]))
 rw[h2];have h2:isLet x=false:=by simpa using h2
 repeat first|refine Xa ?_|refine Zb ?_|refine Ya rfl ?_
 rcases YBE ((n:Int)==0) with h3|h3
 ·rw[h3];repeat first|refine Xa ?_|refine Zb ?_|refine Yb rfl ?_|refine Zc rfl ?_|refine Xc rfl ?_|refine Xd rfl ?_|refine Ya rfl ?_
  exact Ze (stp (Or.inr ⟨h2,Or.inl (by simpa using h3)⟩))
 rw[h3];have h3:n≠0:=by simpa using h3
 repeat first|refine Xa ?_|refine Zb ?_|refine Ya rfl ?_
 refine Yd (c198 _) rfl g198_ok.plain rfl ?_;repeat first|refine Xa ?_|refine Zb ?_|refine Ya rfl ?_
 rcases YBE (!isDig x) with h5|h5
 rotate_left
 ·rw[h5];repeat first|refine Xa ?_|refine Zb ?_|refine Yb rfl ?_|refine Zc rfl ?_|refine Xc rfl ?_|refine Xd rfl ?_|refine Ya rfl ?_
  exact Qi (go (by have h5:isDig x=true:=(by simpa using h5); simp[h1,h3,h5]))
 rw[h5];have h5:isDig x=false:=by simpa using h5
 repeat first|refine Xa ?_|refine Zb ?_|refine Ya rfl ?_
 refine Yc (λh6=>stp ?_) (λh6=>go ?_)
 ·exact Or.inr ⟨h2,Or.inr ⟨h5,by simpa using h6⟩⟩
 ·have h6:x=39:=by simpa using h6
  simp[h1,h3,h6]
theorem c229:∃e n,PC 229 [] (.rsl e n 1 (keysR.map txC)):=by
 have hw:∃v bs,g229 VV [] [] (λv' σ=>v'=v∧σ=bs)∧∃e n,frz bs v=some (.rsl e n 1 (keysR.map txC)):=by
  unfold g229;apply Exists.intro;apply Exists.intro;apply And.intro
  ·refine Zf rfl rfl ?_;exact⟨rfl,rfl⟩
  ·exact⟨_,_,rfl⟩
 obtain⟨v,bs,h1,e,n,h2⟩:=hw;exact⟨e,n,Xa5 hP g229_ok rfl ⟨v,bs,h2,h1⟩⟩
theorem txLd(x:Tx):partA false 0 1 (txC x)=some (.str x):=rfl
theorem c194(s:Tx):PC 194 [.str s] (.bool (ownIn keysR s)):=by
 refine Qd hP g194_ok rfl rfl ?_;unfold g194;obtain⟨e,n,hk⟩:=c229;refine Yd hk rfl g229_ok.plain rfl ?_;have hlen:keysR.length=41:=rfl;generalize keysR=l at hlen ⊢;refine Yj (ι:=Nat) (λi vs σ=>vs=[iv i]∧i≤l.length∧ownIn l s=ownIn (l.drop i) s) (λi=>l.length-i) 0 ⟨rfl,by omega,by simp⟩ ?_;rintro i vs σ again ⟨rfl,hi,hu⟩ hag;refine Ya rfl (Ya rfl ?_);refine Yc (λh=>?_) (λh=>?_)
 ·have h:i<l.length:=by simpa using h
  have hdr:l.drop i=l[i]::l.drop (i+1):=by rw[YLD h]
  rw[hdr,ownIn] at hu;refine Ya (Yo _ txC _ _ _ l .i64 i h) (Ya (ldr (txLd _)) (Ya (Zg ..) ?_));refine Yc (λh=>?_) (λh=>?_)
  ·rw[hu,h]; rfl
  ·rw[h,Bool.false_or] at hu;refine Ya (Yk ..) ?_;rw[Qf (n:=i) (by omega)];exact hag (i+1) _ _ (by omega) ⟨rfl,by omega,hu⟩
 ·have h:i=l.length:=by simp at h; omega
  subst h;rw[List.drop_length] at hu;rw[hu]; rfl
theorem c147(s:Tx)(hs:s.length≤big):PC 147 [.str s] (.bool (nameOk s)):=by
 refine Qd hP g147_ok rfl rfl ?_;unfold g147;have:=c193 s hs 0 (by omega);refine Yd this rfl g193_ok.plain rfl ?_;unfold nameOk;generalize (nameR s 0 0).1=e;generalize (nameR s 0 0).2=n;refine Ya rfl (Ya rfl (Ya rfl ?_));rcases YBE (decide ((n:Int) ≥ 1)) with h1|h1
 rotate_left
 ·rw[h1];repeat first|refine Yb rfl ?_|refine Zc rfl ?_|refine Xc rfl ?_|refine Xd rfl ?_|refine Ya rfl ?_
  have h1:¬1≤n:=by simp at h1; omega
  simp[h1]
 rw[h1];repeat first|refine Xa ?_|refine Zb ?_|refine Ya rfl ?_
 rcases YBE (decide ((n:Int)≤24)) with h2|h2
 rotate_left
 ·rw[h2];repeat first|refine Yb rfl ?_|refine Zc rfl ?_|refine Xc rfl ?_|refine Xd rfl ?_|refine Ya rfl ?_
  have h2:¬n≤24:=by simp at h2; omega
  simp[h2]
 rw[h2];repeat first|refine Xa ?_|refine Zb ?_|refine Ya rfl ?_
 rcases YBE ((e:Int)==(s.length:Int)) with h3|h3
 rotate_left
 ·rw[h3];repeat first|refine Yb rfl ?_|refine Zc rfl ?_|refine Xc rfl ?_|refine Xd rfl ?_|refine Ya rfl ?_
  have h3:¬e=s.length:=by simp at h3; omega
  simp[h3]
 rw[h3];repeat first|refine Xa ?_|refine Zb ?_|refine Ya rfl ?_
 rcases YBE (decide ((s.length:Int)≤40)) with h4|h4
 rotate_left
 ·rw[h4];repeat first|refine Yb rfl ?_|refine Zc rfl ?_|refine Xc rfl ?_|refine Xd rfl ?_|refine Ya rfl ?_
  have h4:¬s.length≤40:=by simp at h4; omega
  simp[h4]
 rw[h4];repeat first|refine Xa ?_|refine Zb ?_|refine Ya rfl ?_
 refine Yd (c194 _) rfl g194_ok.plain rfl ?_;repeat first|refine Xa ?_|refine Zb ?_|refine Ya rfl ?_
 have h1:1≤n:=by simp at h1; omega
 have h2:n≤24:=by simp at h2; omega
 have h3:e=s.length:=by simp at h3; omega
 have h4:s.length≤40:=by simp at h4; omega
 simp[h1,h2,h3,h4]
end Go.Ah.Tz
end
section
namespace Go.Ah.Tz
open Go.Proofs.Tryz (prog)
def in999(n:Int):Bool:=decide (0≤n)&&decide (n≤999)
def cdSum(c:Cd):Bool:=if c.unit then decide (1≤c.health) else decide (c.power+c.health+c.shield+c.aurap+c.aurah≤0)&&decide (c.dead.length+c.dawn.length=0)
def cdW(c:Cd):Int:=min (efsW 0 c.played+efsW 0 c.dead+efsW 0 c.dawn) 1073741824
def cdOk(cs:List Cd)(c:Cd):Bool:=
 nameOk c.name&&(in999 c.cost&&(in999 c.power&&(in999 c.health&&(in999 c.shield&&(in999 c.aurap&&(in999 c.aurah&&(cdSum c&&(decide (cdW c≤200)&&(lstOk cs true 1 c.played&&(lstOk cs false 1 c.dead&&lstOk cs false 1 c.dawn))))))))))
def cdFit(c:Cd):Bool:=decide (c.name.length≤big)&&(lsFit c.played&&(lsFit c.dead&&lsFit c.dawn))
def ZQ(l:List Cd):Bool:=decide (l.length≤big)&&l.all cdFit
def cdsGo(cs:List Cd):List Cd→List Cd→Int×Int
 |_,[]=>(0,0)
 |pre,c::l=>if pre.any λd=>d.name==c.name then (101,c.pl) else if cdOk cs c then cdsGo cs (pre++[c]) l else (130,c.pl)
def cdsChk(cs:List Cd):Int×Int:=if 240<cs.length then (3,0) else cdsGo cs [] cs
attribute [local irreducible] Ans.rd Ans.pu Ans.wr Ans.dr Ans.gr Ans.gw Ans.gl Ans.gd Ans.opt joinK W
set_option maxHeartbeats 1000000
theorem c145(cs:List Cd)(hcs:cs.length≤big)(c:Cd)(hf:cdFit c=true):PC 145 [cdV cs,.agg (cdC c)] (.bool (cdOk cs c)):=by
 simp only[cdFit,Bool.and_eq_true,decide_eq_true_eq] at hf;obtain⟨f0,f1,f2,f3⟩:=hf;refine Qd hP g145_ok rfl rfl ?_;unfold g145;refine Zf rfl rfl ?_;generalize hB:([]++[ABlk.box (cdC c)]:List ABlk)=base;have hB0:hget base 0=.box (cdC c):=by rw[←hB]; rfl
 refine Ya rfl (Ya (ld hB0 rfl) ?_);refine Yd (c147 _ f0) rfl g147_ok.plain rfl ?_;refine Ya rfl ?_;rcases YBE (!nameOk c.name) with a0|a0
 ·rw[a0];repeat first|refine Xa ?_|refine Zb ?_|refine Yb rfl ?_|refine Zc rfl ?_|refine Xc rfl ?_|refine Xd rfl ?_|refine Ya (ld hB0 rfl) ?_|refine Ya rfl ?_
  refine Ze ?_;have a0:nameOk c.name=false:=by simpa using a0
  simp[cdOk,a0]
 rw[a0];repeat first|refine Xa ?_|refine Zb ?_|refine Ya (ld hB0 rfl) ?_|refine Ya rfl ?_
 refine Yd (c187 _) rfl g187_ok.plain rfl ?_;repeat first|refine Xa ?_|refine Zb ?_|refine Ya (ld hB0 rfl) ?_|refine Ya rfl ?_
 rcases YBE (!(decide (0≤c.cost)&&decide (c.cost≤999))) with a1|a1
 ·rw[a1];repeat first|refine Xa ?_|refine Zb ?_|refine Yb rfl ?_|refine Zc rfl ?_|refine Xc rfl ?_|refine Xd rfl ?_|refine Ya (ld hB0 rfl) ?_|refine Ya rfl ?_
  refine Ze ?_;have a1:in999 c.cost=false:=by unfold in999; exact(Bool.not_eq_true' _).mp a1
  simp[cdOk,a1]
 rw[a1];repeat first|refine Xa ?_|refine Zb ?_|refine Ya (ld hB0 rfl) ?_|refine Ya rfl ?_
 refine Yd (c187 _) rfl g187_ok.plain rfl ?_;repeat first|refine Xa ?_|refine Zb ?_|refine Ya (ld hB0 rfl) ?_|refine Ya rfl ?_
 rcases YBE (!(decide (0≤c.power)&&decide (c.power≤999))) with a2|a2
 ·rw[a2];repeat first|refine Xa ?_|refine Zb ?_|refine Yb rfl ?_|refine Zc rfl ?_|refine Xc rfl ?_|refine Xd rfl ?_|refine Ya (ld hB0 rfl) ?_|refine Ya rfl ?_
  refine Ze ?_;have a2:in999 c.power=false:=by unfold in999; exact(Bool.not_eq_true' _).mp a2
  simp[cdOk,a2]
 rw[a2];repeat first|refine Xa ?_|refine Zb ?_|refine Ya (ld hB0 rfl) ?_|refine Ya rfl ?_
 refine Yd (c187 _) rfl g187_ok.plain rfl ?_;repeat first|refine Xa ?_|refine Zb ?_|refine Ya (ld hB0 rfl) ?_|refine Ya rfl ?_
 rcases YBE (!(decide (0≤c.health)&&decide (c.health≤999))) with a3|a3
 ·rw[a3];repeat first|refine Xa ?_|refine Zb ?_|refine Yb rfl ?_|refine Zc rfl ?_|refine Xc rfl ?_|refine Xd rfl ?_|refine Ya (ld hB0 rfl) ?_|refine Ya rfl ?_
  refine Ze ?_;have a3:in999 c.health=false:=by unfold in999; exact(Bool.not_eq_true' _).mp a3
  simp[cdOk,a3]
 rw[a3];repeat first|refine Xa ?_|refine Zb ?_|refine Ya (ld hB0 rfl) ?_|refine Ya rfl ?_
 refine Yd (c187 _) rfl g187_ok.plain rfl ?_;repeat first|refine Xa ?_|refine Zb ?_|refine Ya (ld hB0 rfl) ?_|refine Ya rfl ?_
 rcases YBE (!(decide (0≤c.shield)&&decide (c.shield≤999))) with a4|a4
 ·rw[a4];repeat first|refine Xa ?_|refine Zb ?_|refine Yb rfl ?_|refine Zc rfl ?_|refine Xc rfl ?_|refine Xd rfl ?_|refine Ya (ld hB0 rfl) ?_|refine Ya rfl ?_
  refine Ze ?_;have a4:in999 c.shield=false:=by unfold in999; exact(Bool.not_eq_true' _).mp a4
  simp[cdOk,a4]
 rw[a4];repeat first|refine Xa ?_|refine Zb ?_|refine Ya (ld hB0 rfl) ?_|refine Ya rfl ?_
 refine Yd (c187 _) rfl g187_ok.plain rfl ?_;repeat first|refine Xa ?_|refine Zb ?_|refine Ya (ld hB0 rfl) ?_|refine Ya rfl ?_
 rcases YBE (!(decide (0≤c.aurap)&&decide (c.aurap≤999))) with a5|a5
 ·rw[a5];repeat first|refine Xa ?_|refine Zb ?_|refine Yb rfl ?_|refine Zc rfl ?_|refine Xc rfl ?_|refine Xd rfl ?_|refine Ya (ld hB0 rfl) ?_|refine Ya rfl ?_
  refine Ze ?_;have a5:in999 c.aurap=false:=by unfold in999; exact(Bool.not_eq_true' _).mp a5
  simp[cdOk,a5]
 rw[a5];repeat first|refine Xa ?_|refine Zb ?_|refine Ya (ld hB0 rfl) ?_|refine Ya rfl ?_
 refine Yd (c187 _) rfl g187_ok.plain rfl ?_;repeat first|refine Xa ?_|refine Zb ?_|refine Ya (ld hB0 rfl) ?_|refine Ya rfl ?_
 refine Yc (λa6=>?_) (λa6=>?_)
 ·have a6:in999 c.aurah=false:=by unfold in999; exact(Bool.not_eq_true' _).mp a6
  simp[cdOk,a6]
 have a1:in999 c.cost=true:=by simpa[in999] using a1
 have a2:in999 c.power=true:=by simpa[in999] using a2
 have a3:in999 c.health=true:=by simpa[in999] using a3
 have a4:in999 c.shield=true:=by simpa[in999] using a4
 have a5:in999 c.aurap=true:=by simpa[in999] using a5
 have a6:in999 c.aurah=true:=by simpa[in999] using a6
 have a0:nameOk c.name=true:=by simpa using a0
 have b1:=a1; have b2:=a2; have b3:=a3; have b4:=a4; have b5:=a5; have b6:=a6;simp only[in999,Bool.and_eq_true,decide_eq_true_eq] at b1 b2 b3 b4 b5 b6;simp only[cdOk,a0,a1,a2,a3,a4,a5,a6,Bool.true_and];clear a0 a1 a2 a3 a4 a5 a6;repeat first|refine Xa ?_|refine Zb ?_|refine Ya (ld hB0 rfl) ?_|refine Ya rfl ?_
 apply cutF (cdSum c=true)
 ·intro hR;cases hu:c.unit with
  |true=>
   try rw[hu]
   repeat first|refine Xa ?_|refine Zb ?_|refine Ya (ld hB0 rfl) ?_|refine Ya rfl ?_
   rcases YBE (decide (c.health<1)) with h|h
   ·rw[h];repeat first|refine Xa ?_|refine Zb ?_|refine Yb rfl ?_|refine Zc rfl ?_|refine Xc rfl ?_|refine Xd rfl ?_|refine Ya (ld hB0 rfl) ?_|refine Ya rfl ?_
    refine Ze ?_;have h:¬1≤c.health:=by simp at h; omega
    simp[cdSum,hu,h]
   ·rw[h];repeat first|refine Xa ?_|refine Zb ?_|refine Yb rfl ?_|refine Zc rfl ?_|refine Xc rfl ?_|refine Xd rfl ?_|refine Ya (ld hB0 rfl) ?_|refine Ya rfl ?_
    try rw[hu]
    repeat first|refine Xa ?_|refine Zb ?_|refine Yb rfl ?_|refine Zc rfl ?_|refine Xc rfl ?_|refine Xd rfl ?_|refine Ya (ld hB0 rfl) ?_|refine Ya rfl ?_
    refine Qi (hR ?_);have h:1≤c.health:=by simp at h; omega
    simp[cdSum,hu,h]
  |false=>
   try rw[hu]
   repeat first|refine Xa ?_|refine Zb ?_|refine Yb rfl ?_|refine Zc rfl ?_|refine Xc rfl ?_|refine Xd rfl ?_|refine Ya (ld hB0 rfl) ?_|refine Ya rfl ?_
   try rw[hu]
   repeat first|refine Xa ?_|refine Zb ?_|refine Yb rfl ?_|refine Zc rfl ?_|refine Xc rfl ?_|refine Xd rfl ?_|refine Ya (ld hB0 rfl) ?_|refine Ya rfl ?_
   rw[wrapI (n:=c.power+c.health) (by omega) (by omega),wrapI (n:=c.power+c.health+c.shield) (by omega) (by omega),wrapI (n:=c.power+c.health+c.shield+c.aurap) (by omega) (by omega),wrapI (n:=c.power+c.health+c.shield+c.aurap+c.aurah) (by omega) (by omega)];rcases YBE (decide (c.power+c.health+c.shield+c.aurap+c.aurah>0)) with h|h
   ·rw[h];repeat first|refine Xa ?_|refine Zb ?_|refine Yb rfl ?_|refine Zc rfl ?_|refine Xc rfl ?_|refine Xd rfl ?_|refine Ya (ld hB0 rfl) ?_|refine Ya rfl ?_
    refine Ze ?_;have h:¬(c.power+c.health+c.shield+c.aurap+c.aurah≤0):=by simp at h; omega
    simp[cdSum,hu,h]
   rw[h];repeat first|refine Xa ?_|refine Zb ?_|refine Ya (ld hB0 rfl) ?_|refine Ya rfl ?_
   have h:(c.power+c.health+c.shield+c.aurap+c.aurah≤0):=by simp at h; omega
   have l1:=Zz f2;have l2:=Zz f3;rw[bigE] at l1 l2;rw[List.length_map,List.length_map,wrapI (n:=(c.dead.length:Int)+(c.dawn.length:Int)) (by omega) (by omega)];refine Yc (λh2=>?_) (λh2=>hR ?_)
   ·have h2:¬(c.dead.length+c.dawn.length=0):=by simp at h2; omega
    have:cdSum c=false:=by rw[cdSum,hu,decide_eq_false h2]; simp
    simp[this]
   ·have h2:(c.dead.length+c.dawn.length=0):=by simp at h2; omega
    rw[cdSum,hu,decide_eq_true h2,decide_eq_true h]; rfl
 intro b7;rw[b7,Bool.true_and];refine Ya (ld hB0 rfl) ?_;refine Yd (c110 c f1 f2 f3) rfl g110_ok.plain rfl ?_;refine Ya rfl ?_;refine Yc (λh=>?_) (λh=>?_)
 ·have h:¬(cdW c≤200):=by simp at h; unfold cdW; omega
  simp[h]
 have h:cdW c≤200:=by simp at h; unfold cdW; omega
 simp only[h,decide_true,Bool.true_and];subst hB;refine Ya rfl (Zf rfl rfl (Ya rfl (Zf rfl rfl ?_)));refine Ya rfl (Ya rfl ?_);refine Yy (c188 cs hcs true c.played 1 f1 (by omega)) rfl g188_ok.plain rfl rfl ?_;rcases YBE (lstOk cs true 1 c.played) with p1|p1
 rotate_left
 ·rw[p1];repeat first|refine Xa ?_|refine Zb ?_|refine Yb rfl ?_|refine Zc rfl ?_|refine Xc rfl ?_|refine Xd rfl ?_|refine Ya (ld hB0 rfl) ?_|refine Ya rfl ?_
  simp[p1]
 rw[p1];repeat first|refine Xa ?_|refine Zb ?_|refine Ya rfl ?_
 refine Yy (c188 cs hcs false c.dead 1 f2 (by omega)) rfl g188_ok.plain rfl rfl ?_;repeat first|refine Xa ?_|refine Zb ?_|refine Ya rfl ?_
 rcases YBE (lstOk cs false 1 c.dead) with p2|p2
 rotate_left
 ·rw[p2];repeat first|refine Xa ?_|refine Zb ?_|refine Yb rfl ?_|refine Zc rfl ?_|refine Xc rfl ?_|refine Xd rfl ?_|refine Ya rfl ?_
  simp[p1,p2]
 rw[p2];repeat first|refine Xa ?_|refine Zb ?_|refine Ya rfl ?_
 refine Yy (c188 cs hcs false c.dawn 1 f3 (by omega)) rfl g188_ok.plain rfl rfl ?_;repeat first|refine Xa ?_|refine Zb ?_|refine Ya rfl ?_
 simp[p1,p2]
theorem cdLd(x:Cd):partA true 0 12 (cdC x)=some (.agg (cdC x)):=rfl
theorem Qbq(x:Cd):partA false 11 1 (cdC x)=some (iv x.pl):=rfl
theorem c113(cs:List Cd)(hf:ZQ cs=true):PC 113 [cdV cs] (.agg [iv (cdsChk cs).1,iv (cdsChk cs).2]):=by
 simp only[ZQ,Bool.and_eq_true,decide_eq_true_eq] at hf;obtain⟨f0,f1⟩:=hf;have f02:=f0;rw[bigE] at f02;refine Qd hP g113_ok rfl rfl ?_;unfold g113;refine Zf rfl rfl (Ya rfl (Ya rfl ?_));refine Yc (λh=>?_) (λh=>?_)
 ·have h:240<cs.length:=by simp at h; omega
  refine Ya rfl (Zf rfl rfl (Ys rfl ?_));rw[cdsChk,if_pos h]
 have h:¬240<cs.length:=by simp at h; omega
 rw[cdsChk,if_neg h];refine Yj (ι:=Nat) (λi vs σ=>vs=[iv i]∧σ=[.box [iv 0,iv 0]]∧i≤cs.length∧cdsGo cs [] cs=cdsGo cs (cs.take i) (cs.drop i)) (λi=>cs.length-i) 0 ⟨rfl,rfl,by omega,by simp⟩ ?_;rintro i vs σ again ⟨rfl,rfl,hi,hu⟩ hag;refine Ya rfl (Ya rfl ?_);refine Yc (λh=>?_) (λh=>?_);rotate_left
 ·have h:i=cs.length:=by simp at h; omega
  subst h;rw[List.drop_length,cdsGo] at hu;refine Ya rfl (Zf rfl rfl (Ys rfl ?_));rw[hu]
 have hi:i<cs.length:=by simpa using h
 have hdr:cs.drop i=cs[i]::cs.drop (i+1):=by rw[YLD hi]
 have hix:=λ(s:List ABlk)=>Yo s cdC false false 12 cs .i64 i hi;have hfi:=List.all_eq_true.1 f1 _ (List.getElem_mem hi);have htk:cs.take (i+1)=cs.take i++[cs[i]]:=Xv cs i hi;generalize cs[i]=c at hdr hix hfi htk;rw[hdr,cdsGo] at hu;refine Yj (ι:=Nat) (λj vs σ=>vs=[iv j]∧σ=[.box [iv 0,iv 0]]∧j≤i∧(cs.take i).any (λd=>d.name==c.name)=((cs.take i).drop j).any (λd=>d.name==c.name)) (λj=>i-j) 0 ⟨rfl,rfl,by omega,by simp⟩ ?_;rintro j vs σ again2 ⟨rfl,rfl,hj,hv⟩ hag2;refine Ya rfl ?_;refine Yc (λh=>?_) (λh=>?_)
 ·have h:j<i:=by simpa using h
  have hjx:j<(cs.take i).length:=by rw[List.length_take]; omega
  have hdr2:(cs.take i).drop j=(cs.take i)[j]::(cs.take i).drop (j+1):=by rw[YLD hjx]
  rw[List.getElem_take] at hdr2;rw[hdr2,List.any_cons] at hv;refine Ya (Yo _ cdC false false 12 cs .i64 j (by omega)) (Ya rfl (Ya (ldr (cdLd0 _)) (Ya (hix _) (Ya rfl (Ya (ldr (cdLd0 _)) (Ya (Zg ..) ?_))))));refine Yc (λh=>?_) (λh=>?_)
  ·rw[h,Bool.true_or] at hv;rw[hv,if_pos rfl] at hu;refine Ya (hix _) (Ya rfl (Ya (ldr (Qbq _)) (Ya rfl (Zf rfl rfl (Ys rfl ?_)))));rw[hu]
  ·rw[h,Bool.false_or] at hv;refine Ya (Yk ..) ?_;rw[Qf (n:=j) (by omega)];exact hag2 (j+1) _ _ (by omega) ⟨rfl,rfl,by omega,hv⟩
 have h:j=i:=by simp at h; omega
 subst h;rw[List.drop_eq_nil_of_le (by rw[List.length_take]; omega),List.any_nil] at hv;rw[hv] at hu
 replace hu:cdsGo cs [] cs=if cdOk cs c then cdsGo cs (cs.take j++[c]) (cs.drop (j+1)) else (130,c.pl):=hu
 rw[←htk] at hu;refine Ya (hix _) (Ya (ldr (cdLd _)) ?_);refine Yd (c145 cs f0 c hfi) rfl g145_ok.plain rfl ?_;refine Ya rfl ?_;refine Yc (λh=>?_) (λh=>?_)
 ·have h:cdOk cs c=false:=by simpa using h
  rw[h] at hu
  replace hu:cdsGo cs [] cs=(130,c.pl):=hu
  refine Ya (hix _) (Ya rfl (Ya (ldr (Qbq _)) (Ya rfl (Zf rfl rfl (Ys rfl ?_)))));rw[hu]
 ·have h:cdOk cs c=true:=by simpa using h
  rw[h,if_pos rfl] at hu;refine Ya (Yk ..) ?_;rw[Qf (n:=j) (by omega)];exact hag (j+1) _ _ (by omega) ⟨rfl,rfl,by omega,hu⟩
end Go.Ah.Tz
end
section
namespace Go.Ah.Tz
open Go.Proofs.Tryz (prog)
def lbN(a:Int):Int:=if a<0∨3<a then 3 else a
def joinL(a b:Int):Int:=if lbN a=lbN b∨lbN b=0 then lbN a else if lbN a=0 then lbN b else 3
def XaL(a b:Int):Bool:=decide (joinL a b=joinL b b)
mutual
def nmL:Nm→Int
 |.mk op _ _ kids=>if 8≤op∧op≤12 then nmLs (if op=6 then 3 else 0) kids else if op=6 then 3 else 0
def nmLs:Int→List Nm→Int
 |n,[]=>n
 |n,x::l=>nmLs (joinL n (nmL x)) l
end
theorem Zcq(x:Nm):nmL x=if 8≤x.op∧x.op≤12 then nmLs (if x.op=6 then 3 else 0) x.kids else if x.op=6 then 3 else 0:=by cases x; rfl
mutual
def cnL:Cn→Int
 |.mk op who _ nums kids=>if op=6 then (if who=0 then 1 else if who=1 then 2 else 3) else cnLs (nmLs 0 nums) kids
def cnLs:Int→List Cn→Int
 |n,[]=>n
 |n,x::l=>cnLs (joinL n (cnL x)) l
end
theorem Qcn(x:Cn):cnL x=if x.op=6 then (if x.who=0 then 1 else if x.who=1 then 2 else 3) else cnLs (nmLs 0 x.nums) x.kids:=by cases x; rfl
mutual
def efL (u:Int):Ef→Bool
 |.mk op _ n _ c thn els=>if op=5 then XaL (joinL u (nmL n)) 1 else if op=8 then efsL (joinL u (cnL c)) thn&&efsL (joinL u (cnL c)) els else if op=0∨op=1∨op=2∨op=3 then decide (joinL u (nmL n)=0) else decide (joinL u u=0)
def efsL (u:Int):List Ef→Bool
 |[]=>true
 |x::l=>efL u x&&efsL u l
end
theorem Qa0(u:Int)(x:Ef):efL u x=if x.op=5 then XaL (joinL u (nmL x.n)) 1 else if x.op=8 then efsL (joinL u (cnL x.c)) x.thn&&efsL (joinL u (cnL x.c)) x.els else if x.op=0∨x.op=1∨x.op=2∨x.op=3 then decide (joinL u (nmL x.n)=0) else decide (joinL u u=0):=by cases x; rfl
attribute [local irreducible] Ans.rd Ans.pu Ans.wr Ans.dr Ans.gr Ans.gw Ans.gl Ans.gd Ans.opt joinK W
set_option maxHeartbeats 1000000
theorem YB{P:Program}{GL:Globs}{c d:Bool}{K:AVal→Prop}{r1:SRes}{f2:AVal→SRes}{σ:List ABlk}{v1:AVal}(h1:r1=.ok v1 [] [])(h2:f2 v1=.ok (.bool d) [] [])(hK:K (.bool (c||d))) :
  (W P GL).gr (.bool c) false (λk=>(W P GL).rd r1 k) λt1=>(W P GL).gr (.bool c) false (λk=>(W P GL).rd (f2 t1) k) λt2=>(W P GL).rd (Ym [.bool c,.bool true,t2] σ) K:=by
 cases c with
 |false=>exact Xa (Ya h1 (Xa (Ya h2 (Ya rfl hK))))
 |true=>exact Yb rfl (Yb rfl (Ya rfl hK))
theorem Q9{P:Program}{GL:Globs}{c d:Bool}{K:AVal→Prop}{r1:SRes}{f2 f3:AVal→SRes}{σ:List ABlk}{v1 v2:AVal}{q1 q2 q3:List Nat}(h1:r1=.ok v1 q1 [])(h2:f2 v1=.ok v2 q2 [])(h3:f3 v2=.ok (.bool d) q3 [])(hK:K (.bool (c&&d))) :
  (W P GL).gr (.bool c) true (λk=>(W P GL).rd r1 k) λt1=>(W P GL).gr (.bool c) true (λk=>(W P GL).rd (f2 t1) k) λt2=>(W P GL).gr (.bool c) true (λk=>(W P GL).rd (f3 t2) k) λt3=>(W P GL).rd (Ym [.bool c,t3,.bool false] σ) K:=by
 cases c with
 |true=>exact Xa (Ya h1 (Xa (Ya h2 (Xa (Ya h3 (Ya rfl hK))))))
 |false=>exact Yb rfl (Yb rfl (Yb rfl (Ya rfl hK)))
theorem c190(a b:Int):PC 190 [iv8 a,iv8 b] (iv8 (joinL a b)):=by
 refine Qd hP g190_ok rfl rfl ?_;unfold g190;refine Ya rfl (YB rfl rfl ?_);refine Xn λk1 hk1=>?_;have kk:k1 [iv8 (lbN a)] []:=by
  rw[hk1]; clear hk1 k1;refine Ya rfl (YB rfl rfl ?_);refine Xn λk1 hk1=>?_;have kk:k1 [iv8 (lbN b)] []:=by
   rw[hk1]; clear hk1 k1;unfold joinL;generalize lbN a=a;generalize lbN b=b;refine Ya (Xf ..) ?_;have hp:∀K:AVal→Prop,K (.bool (decide (a=b)||decide (b=0)))→VV.gr (.bool (decide (a=b))) false (λk=>VV.rd (Yh [iv8 b] []) k) λt22=>VV.gr (.bool (decide (a=b))) false (λk=>VV.rd (Xh .eql false [t22,(.int .i8 0)] []) k) λt23=>VV.rd (Ym [.bool (decide (a=b)),(.bool true),t23] []) K:=λK hK=>YB rfl (Xf ..) hK;refine hp _ ?_;refine Yc (λh=>?_) (λh=>?_)
   ·rw[if_pos (by simpa using h)]; rfl
   have h:¬(a=b∨b=0):=by simpa using h
   rw[if_neg h];refine Ya (Xf ..) ?_;refine Yc (λh=>?_) (λh=>?_)
   ·rw[if_pos (by simpa using h)]; rfl
   ·rw[if_neg (by simpa using h)]
  refine Yc (λh=>?_) (λh=>?_)
  ·rw[lbN,if_pos (by simpa using h)] at kk; exact kk
  ·rw[lbN,if_neg (by simpa using h)] at kk; exact kk
 refine Yc (λh=>?_) (λh=>?_)
 ·rw[lbN,if_pos (by simpa using h)] at kk; exact kk
 ·rw[lbN,if_neg (by simpa using h)] at kk; exact kk
theorem c189(a b:Int):PC 189 [iv8 a,iv8 b] (.bool (XaL a b)):=by
 refine Qd hP g189_ok rfl rfl ?_;unfold g189;refine Yd (c190 a b) rfl g190_ok.plain rfl ?_;refine Yd (c190 b b) rfl g190_ok.plain rfl ?_;refine Ya (Xf ..) ?_;rfl
theorem c191':∀(k:Nat) (x:Nm),SizeOf.sizeOf x≤k→nmFit x=true→PC 191 [.agg (nmC x)] (iv8 (nmL x))
 |0,x,h,_=>by cases x; simp at h
 |k+1,x,hk,hf=>by
  rw[Yx];refine Qd hP g191_ok rfl rfl ?_;unfold g191;refine Zf rfl rfl ?_;rw[Zcq];have hlen:=ZZ hf;rw[bigE] at hlen;generalize hB:([]++[ABlk.box [iv8 x.op,iv x.n,iv8 x.who,.rsl false false 4 (x.kids.map nmC)]]:List ABlk)=base;have hB0:hget base 0=.box [iv8 x.op,iv x.n,iv8 x.who,.rsl false false 4 (x.kids.map nmC)]:=by rw[←hB]; rfl
  clear hB;refine Ya rfl (Ya (ld hB0 rfl) (Ya (Xf ..) ?_));refine Xn λk1 hk1=>?_;have kk:k1 [iv8 (if x.op=6 then 3 else 0)] base:=by
   rw[hk1]; clear hk1 k1;generalize (if x.op=6 then (3:Int) else 0)=n0;refine Ya rfl (Ya (ld hB0 rfl) (Ya rfl ?_));refine Q9 rfl (ld hB0 rfl) rfl ?_;rw[show (decide (x.op ≥ 8)&&decide (x.op≤12))=decide (8≤x.op∧x.op≤12) by simp];refine Yc (λh=>?_) (λh=>?_);rotate_left
   ·rw[if_neg (by simpa using h)]; rfl
   rw[if_pos (by simpa using h)];refine Yj (ι:=Nat) (λi vs σ=>∃n,vs=[iv i,iv8 n]∧σ=base∧i≤x.kids.length∧nmLs n0 x.kids=nmLs n (x.kids.drop i)) (λi=>x.kids.length-i) 0 ⟨n0,rfl,rfl,by omega,by simp⟩ ?_;rintro i vs σ again ⟨n,rfl,rfl,hi,hu⟩ hag;repeat first|refine Ya (ld hB0 rfl) ?_|refine Ya rfl ?_
   refine Yc (λh=>?_) (λh=>?_)
   ·have h:i<x.kids.length:=by simpa using h
    have hdr:x.kids.drop i=x.kids[i]::x.kids.drop (i+1):=by rw[YLD h]
    rw[hdr,nmLs] at hu;have hm:x.kids[i]∈x.kids:=List.getElem_mem h;refine Ya rfl (Ya (ld hB0 rfl) (Ya (Yo _ nmC _ _ _ x.kids _ i h) (Ya (ldr (nmLd _)) ?_)));refine Yd (c191' k _ (by have:=Xad hm; omega) (ZS hf hm)) rfl g191_ok.plain (nmRo _) ?_;refine Yd (c190 _ _) rfl g190_ok.plain rfl ?_;refine Ya (Yk ..) ?_;rw[Qf (n:=i) (by omega)];exact hag (i+1) _ _ (by omega) ⟨_,rfl,rfl,by omega,hu⟩
   ·have h:i=x.kids.length:=by simp at h; omega
    subst h;rw[List.drop_length,nmLs] at hu;rw[hu]; rfl
  refine Yc (λh=>?_) (λh=>?_)
  ·have e:x.op=6:=by simpa using h
   rw[if_pos e] at kk; exact kk
  ·have e:x.op≠6:=by simpa using h
   rw[if_neg e] at kk; exact kk
theorem c191(x:Nm)(hf:nmFit x=true):PC 191 [.agg (nmC x)] (iv8 (nmL x)):=c191' _ x (Nat.le_refl _) hf
theorem c192':∀(k:Nat) (x:Cn),SizeOf.sizeOf x≤k→cnFit x=true→PC 192 [.agg (cnC x)] (iv8 (cnL x))
 |0,x,h,_=>by cases x; simp at h
 |k+1,x,hk,hf=>by
  rw[QF];refine Qd hP g192_ok rfl rfl ?_;unfold g192;refine Zf rfl rfl ?_;rw[Qcn];have hl1:=YI hf;have hl2:=ZI hf;rw[bigE] at hl1 hl2;generalize hB:([]++[ABlk.box [iv8 x.op,iv8 x.who,.str x.name,.rsl false false 4 (x.nums.map nmC),.rsl false false 5 (x.kids.map cnC)]]:List ABlk)=base;have hB0:hget base 0=.box [iv8 x.op,iv8 x.who,.str x.name,.rsl false false 4 (x.nums.map nmC),.rsl false false 5 (x.kids.map cnC)]:=by rw[←hB]; rfl
  clear hB;refine Ya rfl (Ya (ld hB0 rfl) (Ya (Xf ..) ?_));refine Yc (λh=>?_) (λh=>?_)
  ·rw[if_pos (by simpa using h)];refine Ya rfl (Ya (ld hB0 rfl) (Ya (Xf ..) ?_));refine Yc (λh=>?_) (λh=>?_)
   ·rw[if_pos (by simpa using h)]
   rw[if_neg (by simpa using h)];refine Ya (Xf ..) ?_;refine Yc (λh=>?_) (λh=>?_)
   ·rw[if_pos (by simpa using h)]
   ·rw[if_neg (by simpa using h)]
  rw[if_neg (by simpa using h)];refine Yj (ι:=Nat) (λi vs σ=>∃n,vs=[iv i,iv8 n]∧σ=base∧i≤x.nums.length∧nmLs 0 x.nums=nmLs n (x.nums.drop i)) (λi=>x.nums.length-i) 0 ⟨0,rfl,rfl,by omega,by simp⟩ ?_;rintro i vs σ again ⟨n,rfl,rfl,hi,hu⟩ hag;repeat first|refine Ya (ld hB0 rfl) ?_|refine Ya rfl ?_
  refine Yc (λh=>?_) (λh=>?_)
  ·have h:i<x.nums.length:=by simpa using h
   have hdr:x.nums.drop i=x.nums[i]::x.nums.drop (i+1):=by rw[YLD h]
   rw[hdr,nmLs] at hu;have hm:x.nums[i]∈x.nums:=List.getElem_mem h;refine Ya rfl (Ya (ld hB0 rfl) (Ya (Yo _ nmC _ _ _ x.nums _ i h) (Ya (ldr (nmLd _)) ?_)));refine Yd (c191 _ (QQ hf hm)) rfl g191_ok.plain (nmRo _) ?_;refine Yd (c190 _ _) rfl g190_ok.plain rfl ?_;refine Ya (Yk ..) ?_;rw[Qf (n:=i) (by omega)];exact hag (i+1) _ _ (by omega) ⟨_,rfl,rfl,by omega,hu⟩
  have h:i=x.nums.length:=by simp at h; omega
  subst h;rw[List.drop_length,nmLs] at hu;rw[hu];clear hag hu hi;refine Yj (ι:=Nat) (λi vs s=>∃m,vs=[iv i,iv8 m]∧s=σ∧i≤x.kids.length∧cnLs n x.kids=cnLs m (x.kids.drop i)) (λi=>x.kids.length-i) 0 ⟨n,rfl,rfl,by omega,by simp⟩ ?_;rintro i vs s again ⟨m,rfl,rfl,hi,hu⟩ hag;repeat first|refine Ya (ld hB0 rfl) ?_|refine Ya rfl ?_
  refine Yc (λh=>?_) (λh=>?_)
  ·have h:i<x.kids.length:=by simpa using h
   have hdr:x.kids.drop i=x.kids[i]::x.kids.drop (i+1):=by rw[YLD h]
   rw[hdr,cnLs] at hu;have hm:x.kids[i]∈x.kids:=List.getElem_mem h;refine Ya rfl (Ya (ld hB0 rfl) (Ya (Yo _ cnC _ _ _ x.kids _ i h) (Ya (ldr (cnLd _)) ?_)));refine Yd (c192' k _ (by have:=Xac hm; omega) (XQ hf hm)) rfl g192_ok.plain (cnRo _) ?_;refine Yd (c190 _ _) rfl g190_ok.plain rfl ?_;refine Ya (Yk ..) ?_;rw[Qf (n:=i) (by omega)];exact hag (i+1) _ _ (by omega) ⟨_,rfl,rfl,by omega,hu⟩
  ·have h:i=x.kids.length:=by simp at h; omega
   subst h;rw[List.drop_length,cnLs] at hu;rw[hu]; rfl
theorem c192(x:Cn)(hf:cnFit x=true):PC 192 [.agg (cnC x)] (iv8 (cnL x)):=c192' _ x (Nat.le_refl _) hf
end Go.Ah.Tz
end
section
namespace Go.Ah.Tz
open Go.Proofs.Tryz (prog)
def cdL(c:Cd):Bool:=efsL 0 c.played&&(efsL 0 c.dead&&efsL 0 c.dawn)
def cdsL:List Cd→Int×Int
 |[]=>(0,0)
 |c::l=>if cdL c then cdsL l else (140,c.pl)
attribute [local irreducible] Ans.rd Ans.pu Ans.wr Ans.dr Ans.gr Ans.gw Ans.gl Ans.gd Ans.opt joinK W
set_option maxHeartbeats 1000000
theorem YG{σ:List ABlk}{b j n:Nat}{row:List AVal}{v:AVal}(hb:b<σ.length)(hv:partA true j n row=some v):cellV true n (.bptr b j) (σ.set b (.box row))=some v:=by
 have:hget (σ.set b (.box row)) b=.box row:=QJ (by simp[hb]);simp only[cellV,this,hv]
theorem c146':∀(k:Nat) (l:List Ef) (u:Int),SizeOf.sizeOf l≤k→lsFit l=true→PC 146 [iv8 u,efV l] (.bool (efsL u l))
 |0,l,_,h,_=>by cases l<;>simp at h
 |k+1,l,u,hk,hf=>by
  refine Qd hP g146_ok rfl rfl ?_;unfold g146;have hlen:=Zz hf;rw[bigE] at hlen;refine Yj (ι:=Nat) (λi vs σ=>vs=[iv i]∧i≤l.length∧efsL u l=efsL u (l.drop i)) (λi=>l.length-i) 0 ⟨rfl,by omega,by simp⟩ ?_;rintro i vs σ again ⟨rfl,hi,hu⟩ hag;refine Ya rfl (Ya rfl ?_);refine Yc (λh=>?_) (λh=>?_);rotate_left
  ·have h:i=l.length:=by simp at h; omega
   subst h;rw[List.drop_length,efsL] at hu;rw[hu]
  have h:i<l.length:=by simpa using h
  have hdr:l.drop i=l[i]::l.drop (i+1):=by rw[YLD h]
  rw[hdr,efsL] at hu;have hm:l[i]∈l:=List.getElem_mem h;have hsz:=List.sizeOf_lt_of_mem hm;have hfx:=QK hf hm;have ix:=λ(s:List ABlk)=>Yo s efC false false 14 l .i64 i h;generalize l[i]=x at hu hsz hfx ix;refine Xn λkj hkj=>?_;have kk:efL u x=true→∀s,kj [] s:=by
   intro he s;rw[hkj];refine Ya (Yk ..) ?_;rw[Qf (n:=i) (by omega)];exact hag (i+1) _ _ (by omega) ⟨rfl,by omega,by rw[hu,he,Bool.true_and]⟩
  have bad:efL u x=false→AVal.bool false=AVal.bool (efsL u l):=by
   intro he; rw[hu,he]; rfl
  clear hkj hag;refine Ya (ix _) (Ya (ldr (efLd x)) ?_);refine Xx (row:=[iv8 x.op,iv8 x.who,iv8 x.n.op,iv x.n.n,iv8 x.n.who,.rsl false false 4 (x.n.kids.map nmC),.str x.name,iv8 x.c.op,iv8 x.c.who,.str x.c.name,.rsl false false 4 (x.c.nums.map nmC),.rsl false false 5 (x.c.kids.map cnC),.rsl false false 14 (x.thn.map efC),.rsl false false 14 (x.els.map efC)]) (row':=[iv8 x.op,iv8 x.who,iv8 x.n.op,iv x.n.n,iv8 x.n.who,.rsl false false 4 (x.n.kids.map nmC),.str x.name,iv8 x.c.op,iv8 x.c.who,.str x.c.name,.rsl false false 4 (x.c.nums.map nmC),.rsl false false 5 (x.c.kids.map cnC),.rsl false false 14 (x.thn.map efC),.rsl false false 14 (x.els.map efC)]) (by rw[ZG]; rfl) rfl rfl ?_;have hB0:=Zm σ (ABlk.box [iv8 x.op,iv8 x.who,iv8 x.n.op,iv x.n.n,iv8 x.n.who,.rsl false false 4 (x.n.kids.map nmC),.str x.name,iv8 x.c.op,iv8 x.c.who,.str x.c.name,.rsl false false 4 (x.c.nums.map nmC),.rsl false false 5 (x.c.kids.map cnC),.rsl false false 14 (x.thn.map efC),.rsl false false 14 (x.els.map efC)]);generalize σ++[ABlk.box [iv8 x.op,iv8 x.who,iv8 x.n.op,iv x.n.n,iv8 x.n.who,.rsl false false 4 (x.n.kids.map nmC),.str x.name,iv8 x.c.op,iv8 x.c.who,.str x.c.name,.rsl false false 4 (x.c.nums.map nmC),.rsl false false 5 (x.c.kids.map cnC),.rsl false false 14 (x.thn.map efC),.rsl false false 14 (x.els.map efC)]]=base at hB0 ⊢;generalize σ.length=b at hB0 ⊢;have hN:Zd true 4 [.bptr b 2] base=.ok (.agg (nmC x.n)) [b] []:=ld hB0 (by rw[Yx]; rfl);have hC:Zd true 5 [.bptr b 7] base=.ok (.agg (cnC x.c)) [b] []:=ld hB0 (by rw[QF]; rfl);rw[Qa0] at kk bad;repeat first|refine Ya hN ?_|refine Ya hC ?_|refine Ya (ld hB0 rfl) ?_|refine Ya (Xf ..) ?_|refine Ya rfl ?_
  refine Yc (λa1=>?_) (λa1=>?_)
  ·have a1:x.op=5:=by simpa using a1
   rw[if_pos a1] at kk bad;repeat first|refine Ya hN ?_|refine Ya hC ?_|refine Ya (ld hB0 rfl) ?_|refine Ya (Xf ..) ?_|refine Ya rfl ?_
   refine Yd (c191 _ (Z0 hfx)) rfl g191_ok.plain (nmRo _) ?_;refine Yd (c190 _ _) rfl g190_ok.plain rfl ?_;refine Yd (c189 _ _) rfl g189_ok.plain rfl ?_;refine Ya rfl ?_;exact Yc (λh=>bad (by simpa using h)) (λh=>kk (by simpa using h) _)
  have a1:x.op≠5:=by simpa using a1
  rw[if_neg a1] at kk bad;repeat first|refine Ya hN ?_|refine Ya hC ?_|refine Ya (ld hB0 rfl) ?_|refine Ya (Xf ..) ?_|refine Ya rfl ?_
  refine Yc (λa2=>?_) (λa2=>?_)
  ·have a2:x.op=8:=by simpa using a2
   rw[if_pos a2] at kk bad;have hs2:=XU x;repeat first|refine Ya hN ?_|refine Ya hC ?_|refine Ya (ld hB0 rfl) ?_|refine Ya (Xf ..) ?_|refine Ya rfl ?_
   refine Yd (c192 _ (ZX hfx)) rfl g192_ok.plain (cnRo _) ?_;refine Yd (c190 _ _) rfl g190_ok.plain rfl ?_;repeat first|refine Ya hN ?_|refine Ya hC ?_|refine Ya (ld hB0 rfl) ?_|refine Ya (Xf ..) ?_|refine Ya rfl ?_
   refine Yd (c146' k x.thn _ (by omega) (QG hfx)) rfl g146_ok.plain rfl ?_;repeat first|refine Ya hN ?_|refine Ya hC ?_|refine Ya (ld hB0 rfl) ?_|refine Ya (Xf ..) ?_|refine Ya rfl ?_
   rcases YBE (!efsL (joinL u (cnL x.c)) x.thn) with a3|a3
   ·rw[a3];repeat first|refine Xa ?_|refine Zb ?_|refine Yb rfl ?_|refine Zc rfl ?_|refine Xc rfl ?_|refine Xd rfl ?_|refine Ya (ld hB0 rfl) ?_|refine Ya rfl ?_
    refine Ze (bad ?_);have a3:efsL (joinL u (cnL x.c)) x.thn=false:=by simpa using a3
    simp[a3]
   rw[a3];repeat first|refine Xa ?_|refine Zb ?_|refine Ya (ld hB0 rfl) ?_|refine Ya rfl ?_
   have a3:efsL (joinL u (cnL x.c)) x.thn=true:=by simpa using a3
   refine Yd (c146' k x.els _ (by omega) (XG hfx)) rfl g146_ok.plain rfl ?_;repeat first|refine Xa ?_|refine Zb ?_|refine Ya (ld hB0 rfl) ?_|refine Ya rfl ?_
   refine Yc (λh=>bad ?_) (λh=>kk ?_ _)
   ·have h:efsL (joinL u (cnL x.c)) x.els=false:=by simpa using h
    simp[h]
   ·have h:efsL (joinL u (cnL x.c)) x.els=true:=by simpa using h
    simp[a3,h]
  have a2:x.op≠8:=by simpa using a2
  rw[if_neg a2] at kk bad;repeat first|refine Ya hN ?_|refine Ya hC ?_|refine Ya (ld hB0 rfl) ?_|refine Ya (Xf ..) ?_|refine Ya rfl ?_
  refine Xn λk1 hk1=>?_;have m1:∀c:Bool,c=decide (x.op=0∨x.op=1∨x.op=2∨x.op=3)→k1 [.bool c] base:=by
   rintro c hc;rw[hk1];refine Yc (λh=>?_) (λh=>?_)
   ·rw[h] at hc;rw[if_pos (by simpa using hc.symm)] at kk bad;repeat first|refine Ya hN ?_|refine Ya hC ?_|refine Ya (ld hB0 rfl) ?_|refine Ya (Xf ..) ?_|refine Ya rfl ?_
    refine Yd (c191 _ (Z0 hfx)) rfl g191_ok.plain (nmRo _) ?_;refine Yd (c190 _ _) rfl g190_ok.plain rfl ?_;refine Ya rfl ?_;exact Yc (λh=>bad (by simpa using h)) (λh=>kk (by simpa using h) _)
   ·rw[h] at hc;rw[if_neg (by simpa using hc.symm)] at kk bad;refine Yd (c190 _ _) rfl g190_ok.plain rfl ?_;refine Ya rfl ?_;exact Yc (λh=>bad (by simpa using h)) (λh=>kk (by simpa using h) _)
  clear hk1;refine Yc (λh=>m1 _ ?_) (λh=>?_)
  ·simp at h; simp[h]
  refine Ya (Xf ..) (Yc (λh2=>m1 _ ?_) (λh2=>?_))
  ·simp at h2; simp[h2]
  refine Ya (Xf ..) (Yc (λh3=>m1 _ ?_) (λh3=>?_))
  ·simp at h3; simp[h3]
  refine Ya (Xf ..) (m1 _ ?_);simp at h h2 h3; simp[h,h2,h3]
theorem c146(l:List Ef)(u:Int)(hf:lsFit l=true):PC 146 [iv8 u,efV l] (.bool (efsL u l)):=c146' _ l u (Nat.le_refl _) hf
theorem c114(cs:List Cd)(hf:ZQ cs=true):PC 114 [cdV cs] (.agg [iv (cdsL cs).1,iv (cdsL cs).2]):=by
 simp only[ZQ,Bool.and_eq_true,decide_eq_true_eq] at hf;obtain⟨f0,f1⟩:=hf;rw[bigE] at f0;refine Qd hP g114_ok rfl rfl ?_;unfold g114;refine Zf rfl rfl ?_;refine Yj (ι:=Nat) (λi vs σ=>vs=[iv i]∧hget σ 0=.box [iv 0,iv 0]∧0<σ.length∧i≤cs.length∧cdsL cs=cdsL (cs.drop i)) (λi=>cs.length-i) 0 ⟨rfl,rfl,by simp,by omega,by simp⟩ ?_;rintro i vs σ again ⟨rfl,hz,hz2,hi,hu⟩ hag;refine Ya rfl (Ya rfl ?_);refine Yc (λh=>?_) (λh=>?_);rotate_left
 ·have h:i=cs.length:=by simp at h; omega
  subst h;rw[List.drop_length,cdsL] at hu;refine Ya rfl (Zf (stv hz rfl rfl rfl) (Xp _ hz2) (Ys (YG hz2 rfl) ?_));rw[hu]
 have hi:i<cs.length:=by simpa using h
 have hdr:cs.drop i=cs[i]::cs.drop (i+1):=by rw[YLD hi]
 have hix:=λ(s:List ABlk)=>Yo s cdC false false 12 cs .i64 i hi;have hfi:=List.all_eq_true.1 f1 _ (List.getElem_mem hi);generalize cs[i]=c at hdr hix hfi;rw[hdr,cdsL] at hu;simp only[cdFit,Bool.and_eq_true,decide_eq_true_eq] at hfi;obtain⟨g0,g1,g2,g3⟩:=hfi;refine Ya (hix _) (Ya (ldr (cdLd _)) (Xx (row:=cdC c) (row':=cdC c) rfl rfl rfl ?_));have hB0:=Zm σ (ABlk.box (cdC c));have hz':hget (σ++[ABlk.box (cdC c)]) 0=.box [iv 0,iv 0]:=Zn _ hz (by simp);have hz2':0<(σ++[ABlk.box (cdC c)]).length:=by simp
 generalize σ++[ABlk.box (cdC c)]=base at hB0 hz' hz2' ⊢;generalize σ.length=b at hB0 ⊢;clear hz hz2;repeat first|refine Ya (ld hB0 rfl) ?_|refine Ya rfl ?_
 refine Yd (c146 _ 0 g1) rfl g146_ok.plain rfl ?_;repeat first|refine Ya (ld hB0 rfl) ?_|refine Ya rfl ?_
 have bad:cdL c=false→VV.rd (Za 11 [.bptr b 0] base) λt31_22=>True:=λ_=>Ya rfl trivial;clear bad;apply cutF (cdL c=false)
 ·intro hR;have good:cdL c=true→VV.rd (Xh .add false [iv i,(.int .i64 1)] base) λt10_26=>again [t10_26] base:=by
   intro hc;rw[hc,if_pos rfl] at hu;refine Ya (Yk ..) ?_;rw[Qf (n:=i) (by omega)];exact hag (i+1) _ _ (by omega) ⟨rfl,hz',hz2',by omega,hu⟩
  rcases YBE (!efsL 0 c.played) with a1|a1
  ·rw[a1];repeat first|refine Xa ?_|refine Zb ?_|refine Yb rfl ?_|refine Zc rfl ?_|refine Xc rfl ?_|refine Xd rfl ?_|refine Ya (ld hB0 rfl) ?_|refine Ya rfl ?_
   refine Ze (hR ?_);have a1:efsL 0 c.played=false:=by simpa using a1
   simp[cdL,a1]
  rw[a1];repeat first|refine Xa ?_|refine Zb ?_|refine Ya (ld hB0 rfl) ?_|refine Ya rfl ?_
  have a1:efsL 0 c.played=true:=by simpa using a1
  refine Yd (c146 _ 0 g2) rfl g146_ok.plain rfl ?_;repeat first|refine Xa ?_|refine Zb ?_|refine Ya (ld hB0 rfl) ?_|refine Ya rfl ?_
  rcases YBE (!efsL 0 c.dead) with a2|a2
  ·rw[a2];repeat first|refine Xa ?_|refine Zb ?_|refine Yb rfl ?_|refine Zc rfl ?_|refine Xc rfl ?_|refine Xd rfl ?_|refine Ya (ld hB0 rfl) ?_|refine Ya rfl ?_
   refine Ze (hR ?_);have a2:efsL 0 c.dead=false:=by simpa using a2
   simp[cdL,a2]
  rw[a2];repeat first|refine Xa ?_|refine Zb ?_|refine Ya (ld hB0 rfl) ?_|refine Ya rfl ?_
  have a2:efsL 0 c.dead=true:=by simpa using a2
  refine Yd (c146 _ 0 g3) rfl g146_ok.plain rfl ?_;repeat first|refine Xa ?_|refine Zb ?_|refine Ya (ld hB0 rfl) ?_|refine Ya rfl ?_
  refine Yc (λa3=>hR ?_) (λa3=>good ?_)
  ·have a3:efsL 0 c.dawn=false:=by simpa using a3
   simp[cdL,a3]
  ·have a3:efsL 0 c.dawn=true:=by simpa using a3
   simp[cdL,a1,a2,a3]
 intro hc;rw[hc] at hu
 replace hu:cdsL cs=(140,c.pl):=hu
 refine Ya rfl (Ya (ld hB0 rfl) (Ya rfl (Zf (stv hz' rfl rfl rfl) (Xp _ hz2') (Ys (YG hz2' rfl) ?_))));rw[hu]
end Go.Ah.Tz
end
section
namespace Go.Ah.Tz
open Go.Proofs.Tryz (prog)
def fndI:Nat→List Cd→Tx→Nat×Bool
 |_,[],_=>(0,false)
 |i,c::l,t=>if c.name==t then (i,true) else fndI (i+1) l t
def nmsGo(cs:List Cd):List Tx→List Tx→Bool
 |_,[]=>true
 |pre,t::l=>((fndI 0 cs t).2&&pre.all λp=>!(p==t))&&nmsGo cs (pre++[t]) l
def fmtOk(b:Bk)(pre:List Fo)(f:Fo):Bool:=
 !(pre.any λg=>g.name==f.name)&&(decide (pre.length<240)&&(nameOk f.name&&(decide (0≤f.least)&&(decide (f.least≤f.most)&&(decide (f.most≤60)&&(decide (0≤f.copies)&&(decide (f.copies≤999)&&(nmsGo b.cards [] f.banned&&nmsGo b.cards [] f.single))))))))
def fmtGo(b:Bk):List Fo→List Fo→Int×Int
 |_,[]=>(0,0)
 |pre,f::l=>if fmtOk b pre f then fmtGo b (pre++[f]) l else (151,f.pl)
def bkR(b:Bk):Int×Int:=if (cdsChk b.cards).1≠0 then cdsChk b.cards else if (cdsL b.cards).1≠0 then cdsL b.cards else fmtGo b [] b.formats
def foFit(f:Fo):Bool:=decide (f.name.length≤big)&&(decide (f.banned.length≤big)&&decide (f.single.length≤big))
def bkFit(b:Bk):Bool:=ZQ b.cards&&(decide (b.formats.length≤big)&&b.formats.all foFit)
attribute [local irreducible] Ans.rd Ans.pu Ans.wr Ans.dr Ans.gr Ans.gw Ans.gl Ans.gd Ans.opt joinK W
set_option maxHeartbeats 1000000
theorem c195(b:Bk)(hc:b.cards.length≤big)(t:Tx):PC 195 [bkV b,.str t] (.tup [iv (fndI 0 b.cards t).1,.bool (fndI 0 b.cards t).2]):=by
 rw[bigE] at hc;refine Qd hP g195_ok rfl rfl ?_;unfold g195;refine Zf rfl rfl ?_;generalize hB:([]++[ABlk.box [cdV b.cards,foV b.formats]]:List ABlk)=base;have hB0:hget base 0=.box [cdV b.cards,foV b.formats]:=by rw[←hB]; rfl
 clear hB;generalize b.cards=cs at hc hB0 ⊢;refine Yj (ι:=Nat) (λi vs σ=>vs=[iv i]∧σ=base∧i≤cs.length∧fndI 0 cs t=fndI i (cs.drop i) t) (λi=>cs.length-i) 0 ⟨rfl,rfl,by omega,by simp⟩ ?_;rintro i vs σ again ⟨rfl,rfl,hi,hu⟩ hag;repeat first|refine Ya (ld hB0 rfl) ?_|refine Ya rfl ?_
 refine Yc (λh=>?_) (λh=>?_)
 ·have h:i<cs.length:=by simpa using h
  have hdr:cs.drop i=cs[i]::cs.drop (i+1):=by rw[YLD h]
  rw[hdr,fndI] at hu;refine Ya rfl (Ya (ld hB0 rfl) (Ya (Yo _ cdC false false 12 cs .i64 i h) (Ya rfl (Ya (ldr (cdLd0 _)) (Ya (Zg ..) ?_)))));refine Yc (λh=>?_) (λh=>?_)
  ·rw[if_pos h] at hu;rw[hu]; rfl
  ·rw[if_neg (by simpa using h)] at hu;refine Ya (Yk ..) ?_;rw[Qf (n:=i) (by omega)];exact hag (i+1) _ _ (by omega) ⟨rfl,rfl,by omega,hu⟩
 ·have h:i=cs.length:=by simp at h; omega
  subst h;rw[List.drop_length,fndI] at hu;rw[hu]; rfl
theorem c148(b:Bk)(hc:b.cards.length≤big)(l:List Tx)(hl:l.length≤big):PC 148 [bkV b,txV l] (.bool (nmsGo b.cards [] l)):=by
 rw[bigE] at hl;refine Qd hP g148_ok rfl rfl ?_;unfold g148;refine Zf rfl rfl ?_;refine Yj (ι:=Nat) (λi vs σ=>vs=[iv i]∧σ=[]++[ABlk.box [cdV b.cards,foV b.formats]]∧i≤l.length∧nmsGo b.cards [] l=nmsGo b.cards (l.take i) (l.drop i)) (λi=>l.length-i) 0 ⟨rfl,rfl,by omega,by simp⟩ ?_;rintro i vs σ again ⟨rfl,rfl,hi,hu⟩ hag;refine Ya rfl (Ya rfl ?_);refine Yc (λh=>?_) (λh=>?_);rotate_left
 ·have h:i=l.length:=by simp at h; omega
  subst h;rw[List.drop_length,nmsGo] at hu;rw[hu]
 have h:i<l.length:=by simpa using h
 have hdr:l.drop i=l[i]::l.drop (i+1):=by rw[YLD h]
 have hix:=λ(s:List ABlk)=>Yo s txC false false 1 l .i64 i h;have htk:l.take (i+1)=l.take i++[l[i]]:=Xv l i h;generalize l[i]=t at hdr hix htk;rw[hdr,nmsGo,←htk] at hu;refine Xi rfl rfl (Xi (hix _) rfl (Xi (ldr (txLd _)) rfl ?_));refine Qj (c195 b hc t) rfl g195_ok.plain rfl ?_;refine Yi rfl (Yi rfl (QN (by kernel_rfl) ?_));refine Yj (ι:=Nat) (λk vs σ=>∃ok,vs=[iv k,.bool ok]∧σ=[]++[ABlk.box [cdV b.cards,foV b.formats]]∧k≤i∧((fndI 0 b.cards t).2&&(l.take i).all λp=>!(p==t))=(ok&&((l.take i).drop k).all λp=>!(p==t))) (λk=>i-k) 0 ⟨_,rfl,rfl,by omega,by simp⟩ ?_;rintro k vs σ again2 ⟨ok,rfl,rfl,hk,hv⟩ hag2;refine Ya rfl ?_;refine Yc (λh2=>?_) (λh2=>?_)
 ·have h2:k<i:=by simpa using h2
  have hkx:k<(l.take i).length:=by rw[List.length_take]; omega
  have hdr2:(l.take i).drop k=(l.take i)[k]::(l.take i).drop (k+1):=by rw[YLD hkx]
  rw[List.getElem_take] at hdr2;rw[hdr2,List.all_cons,←Bool.and_assoc] at hv;cases ok with
  |true=>
   have hixk:=λ(s:List ABlk)=>Yo s txC false false 1 l .i64 k (by omega);repeat first|refine Xa ?_|refine Ya (hixk _) ?_|refine Ya (hix _) ?_|refine Ya (ldr (txLd _)) ?_|refine Ya rfl ?_
   rw[Qf (n:=k) (by omega)];exact hag2 (k+1) _ _ (by omega) ⟨_,rfl,rfl,by omega,by rw[hv,Bool.true_and]⟩
  |false=>
   repeat first|refine Yb rfl ?_|refine Xc rfl ?_
   refine Ya rfl (Ya (Yk ..) ?_);rw[Qf (n:=k) (by omega)];exact hag2 (k+1) _ _ (by omega) ⟨_,rfl,rfl,by omega,by rw[hv]; simp⟩
 have h2:k=i:=by simp at h2; omega
 subst h2;rw[List.drop_eq_nil_of_le (by rw[List.length_take]; omega),List.all_nil,Bool.and_true] at hv;rw[hv] at hu;refine Ya rfl ?_;refine Yc (λh3=>?_) (λh3=>?_)
 ·have h3:ok=false:=by simpa using h3
  subst h3;rw[hu]; rfl
 ·have h3:ok=true:=by simpa using h3
  subst h3;rw[Bool.true_and] at hu;refine Ya (Yk ..) ?_;rw[Qf (n:=k) (by omega)];exact hag (k+1) _ _ (by omega) ⟨rfl,rfl,by omega,hu⟩
theorem foLd(x:Fo):partA true 0 7 (foC x)=some (.agg (foC x)):=rfl
theorem foLd0(x:Fo):partA false 0 1 (foC x)=some (.str x.name):=rfl
theorem foLd6(x:Fo):partA false 6 1 (foC x)=some (iv x.pl):=rfl
theorem c115(b:Bk)(hc:b.cards.length≤big)(hfl:b.formats.length≤big)(k:Nat)(hk:k<b.formats.length)(hf:foFit b.formats[k]=true):PC 115 [bkV b,iv k] (.bool (fmtOk b (b.formats.take k) b.formats[k])):=by
 rw[bigE] at hfl;refine Qd hP g115_ok rfl rfl ?_;unfold g115;refine Zf rfl rfl ?_;have hix:=λ(s:List ABlk)=>Yo s foC false false 7 b.formats .i64 k hk;generalize b.formats[k]=f at hf hix ⊢;simp only[foFit,Bool.and_eq_true,decide_eq_true_eq] at hf;obtain⟨f0,f1,f2⟩:=hf;refine Ya rfl (Ya rfl (Ya (hix _) (Ya (ldr (foLd f)) (Xx (row:=foC f) (row':=foC f) rfl rfl rfl ?_))));generalize hB:([]++[ABlk.box [cdV b.cards,foV b.formats]]++[ABlk.box (foC f)]:List ABlk)=base;have hB0:hget base 0=.box [cdV b.cards,foV b.formats]:=by rw[←hB]; rfl
 have hB1:hget base 1=.box (foC f):=by rw[←hB]; rfl
 clear hB;have htl:(b.formats.take k).length=k:=by rw[List.length_take]; omega
 refine Yj (ι:=Nat) (λj vs σ=>vs=[iv j]∧σ=base∧j≤k∧((b.formats.take k).any λg=>g.name==f.name)=(((b.formats.take k).drop j).any λg=>g.name==f.name)) (λj=>k-j) 0 ⟨rfl,rfl,by omega,by simp⟩ ?_;rintro j vs σ again ⟨rfl,rfl,hj,hv⟩ hag;refine Ya rfl ?_;refine Yc (λh=>?_) (λh=>?_)
 ·have h:j<k:=by simpa using h
  have hjx:j<(b.formats.take k).length:=by omega
  have hdr2:(b.formats.take k).drop j=(b.formats.take k)[j]::(b.formats.take k).drop (j+1):=by rw[YLD hjx]
  rw[List.getElem_take] at hdr2;rw[hdr2,List.any_cons] at hv;refine Ya rfl (Ya (ld hB0 rfl) (Ya (Yo _ foC false false 7 b.formats .i64 j (by omega)) (Ya rfl (Ya (ldr (foLd0 _)) (Ya rfl (Ya (ld hB1 rfl) (Ya (Zg ..) ?_)))))));refine Yc (λh=>?_) (λh=>?_)
  ·rw[h,Bool.true_or] at hv;simp[fmtOk,hv]
  ·rw[h,Bool.false_or] at hv;refine Ya (Yk ..) ?_;rw[Qf (n:=j) (by omega)];exact hag (j+1) _ _ (by omega) ⟨rfl,rfl,by omega,hv⟩
 have h:j=k:=by simp at h; omega
 subst h;rw[List.drop_eq_nil_of_le (by omega),List.any_nil] at hv;unfold fmtOk;rw[hv,htl,Bool.not_false,Bool.true_and];clear hv hag hix;refine Ya rfl ?_;rcases YBE (decide ((j:Int) ≥ 240)) with a1|a1
 ·rw[a1];repeat first|refine Xa ?_|refine Zb ?_|refine Yb rfl ?_|refine Zc rfl ?_|refine Xc rfl ?_|refine Xd rfl ?_|refine Ya (ld hB0 rfl) ?_|refine Ya (ld hB1 rfl) ?_|refine Ya rfl ?_
  refine Ze ?_;have a1:¬j<240:=by simp at a1; omega
  simp[a1]
 rw[a1];repeat first|refine Xa ?_|refine Zb ?_|refine Ya (ld hB0 rfl) ?_|refine Ya (ld hB1 rfl) ?_|refine Ya rfl ?_
 have a1:j<240:=by simp at a1; omega
 refine Yd (c147 _ f0) rfl g147_ok.plain rfl ?_;repeat first|refine Xa ?_|refine Zb ?_|refine Ya (ld hB0 rfl) ?_|refine Ya (ld hB1 rfl) ?_|refine Ya rfl ?_
 refine Yc (λa2=>?_) (λa2=>?_)
 ·have a2:nameOk f.name=false:=by simpa using a2
  simp[a2]
 have a2:nameOk f.name=true:=by simpa using a2
 rw[decide_eq_true a1,a2,Bool.true_and,Bool.true_and];clear a1 a2;repeat first|refine Xa ?_|refine Zb ?_|refine Ya (ld hB0 rfl) ?_|refine Ya (ld hB1 rfl) ?_|refine Ya rfl ?_
 rcases YBE (decide (f.least ≥ 0)) with b1|b1
 rotate_left
 ·rw[b1];repeat first|refine Xa ?_|refine Zb ?_|refine Yb rfl ?_|refine Zc rfl ?_|refine Xc rfl ?_|refine Xd rfl ?_|refine Ya (ld hB0 rfl) ?_|refine Ya (ld hB1 rfl) ?_|refine Ya rfl ?_
  have b1:¬0≤f.least:=by simpa using b1
  simp[b1]
 rw[b1];repeat first|refine Xa ?_|refine Zb ?_|refine Ya (ld hB0 rfl) ?_|refine Ya (ld hB1 rfl) ?_|refine Ya rfl ?_
 have b1:0≤f.least:=by simpa using b1
 rcases YBE (decide (f.least≤f.most)) with b2|b2
 rotate_left
 ·rw[b2];repeat first|refine Xa ?_|refine Zb ?_|refine Yb rfl ?_|refine Zc rfl ?_|refine Xc rfl ?_|refine Xd rfl ?_|refine Ya (ld hB0 rfl) ?_|refine Ya (ld hB1 rfl) ?_|refine Ya rfl ?_
  have b2:¬f.least≤f.most:=by simpa using b2
  simp[b2]
 rw[b2];repeat first|refine Xa ?_|refine Zb ?_|refine Ya (ld hB0 rfl) ?_|refine Ya (ld hB1 rfl) ?_|refine Ya rfl ?_
 have b2:f.least≤f.most:=by simpa using b2
 rcases YBE (decide (f.most≤60)) with b3|b3
 rotate_left
 ·rw[b3];repeat first|refine Xa ?_|refine Zb ?_|refine Yb rfl ?_|refine Zc rfl ?_|refine Xc rfl ?_|refine Xd rfl ?_|refine Ya (ld hB0 rfl) ?_|refine Ya (ld hB1 rfl) ?_|refine Ya rfl ?_
  have b3:¬f.most≤60:=by simpa using b3
  simp[b3]
 rw[b3];repeat first|refine Xa ?_|refine Zb ?_|refine Ya (ld hB0 rfl) ?_|refine Ya (ld hB1 rfl) ?_|refine Ya rfl ?_
 have b3:f.most≤60:=by simpa using b3
 rcases YBE (decide (f.copies ≥ 0)) with b4|b4
 rotate_left
 ·rw[b4];repeat first|refine Xa ?_|refine Zb ?_|refine Yb rfl ?_|refine Zc rfl ?_|refine Xc rfl ?_|refine Xd rfl ?_|refine Ya (ld hB0 rfl) ?_|refine Ya (ld hB1 rfl) ?_|refine Ya rfl ?_
  have b4:¬0≤f.copies:=by simpa using b4
  simp[b4]
 rw[b4];repeat first|refine Xa ?_|refine Zb ?_|refine Ya (ld hB0 rfl) ?_|refine Ya (ld hB1 rfl) ?_|refine Ya rfl ?_
 have b4:0≤f.copies:=by simpa using b4
 rcases YBE (decide (f.copies≤999)) with b5|b5
 rotate_left
 ·rw[b5];repeat first|refine Xa ?_|refine Zb ?_|refine Yb rfl ?_|refine Zc rfl ?_|refine Xc rfl ?_|refine Xd rfl ?_|refine Ya (ld hB0 rfl) ?_|refine Ya (ld hB1 rfl) ?_|refine Ya rfl ?_
  have b5:¬f.copies≤999:=by simpa using b5
  simp[b5]
 rw[b5];repeat first|refine Xa ?_|refine Zb ?_|refine Ya (ld hB0 rfl) ?_|refine Ya (ld hB1 rfl) ?_|refine Ya rfl ?_
 have b5:f.copies≤999:=by simpa using b5
 simp only[b1,b2,b3,b4,b5,decide_true,Bool.true_and];refine Yd (c148 b hc _ f1) rfl g148_ok.plain rfl ?_;repeat first|refine Xa ?_|refine Zb ?_|refine Ya (ld hB0 rfl) ?_|refine Ya (ld hB1 rfl) ?_|refine Ya rfl ?_
 rcases YBE (nmsGo b.cards [] f.banned) with c1|c1
 rotate_left
 ·rw[c1];repeat first|refine Xa ?_|refine Zb ?_|refine Yb rfl ?_|refine Zc rfl ?_|refine Xc rfl ?_|refine Xd rfl ?_|refine Ya (ld hB0 rfl) ?_|refine Ya (ld hB1 rfl) ?_|refine Ya rfl ?_
  simp[c1]
 rw[c1];repeat first|refine Xa ?_|refine Zb ?_|refine Ya (ld hB0 rfl) ?_|refine Ya (ld hB1 rfl) ?_|refine Ya rfl ?_
 refine Yd (c148 b hc _ f2) rfl g148_ok.plain rfl ?_;repeat first|refine Xa ?_|refine Zb ?_|refine Ya (ld hB0 rfl) ?_|refine Ya (ld hB1 rfl) ?_|refine Ya rfl ?_
 simp[c1]
theorem c67(b:Bk)(hf:bkFit b=true):PC 67 [bkV b] (.agg [iv (bkR b).1,iv (bkR b).2]):=by
 simp only[bkFit,Bool.and_eq_true,decide_eq_true_eq] at hf;obtain⟨f0,f1,f2⟩:=hf;have f12:=f1;rw[bigE] at f12;have fc:b.cards.length≤big:=by simp only[ZQ,Bool.and_eq_true,decide_eq_true_eq] at f0; exact f0.1
 refine Qd hP g67_ok rfl rfl ?_;unfold g67;refine Zf rfl rfl (Zf rfl rfl (Ya rfl (Ya rfl ?_)));refine Yd (c113 _ f0) rfl g113_ok.plain rfl ?_;refine Xx rfl rfl rfl (Ya rfl (Ya rfl (Ya rfl ?_)));unfold bkR;refine Yc (λh=>?_) (λh=>?_)
 ·rw[if_pos (by simpa using h)];refine Ya rfl (Zf rfl rfl (Ys rfl rfl))
 rw[if_neg (by simpa using h)];refine Ya rfl (Ya rfl ?_);refine Yd (c114 _ f0) rfl g114_ok.plain rfl ?_;refine Xx rfl rfl rfl (Ya rfl (Ya rfl (Ya rfl ?_)));refine Yc (λh=>?_) (λh=>?_)
 ·rw[if_pos (by simpa using h)];refine Ya rfl (Zf rfl rfl (Ys rfl rfl))
 rw[if_neg (by simpa using h)];generalize cdsChk b.cards=p1;generalize cdsL b.cards=p2;refine Yj (ι:=Nat) (λi vs σ=>vs=[iv i]∧σ=[]++[ABlk.box [cdV b.cards,foV b.formats]]++[.box [iv 0,iv 0]]++[.box [iv p1.1,iv p1.2]]++[.box [iv p2.1,iv p2.2]]∧i≤b.formats.length∧fmtGo b [] b.formats=fmtGo b (b.formats.take i) (b.formats.drop i)) (λi=>b.formats.length-i) 0 ⟨rfl,rfl,by omega,by simp⟩ ?_;rintro i vs σ again ⟨rfl,rfl,hi,hu⟩ hag;refine Ya rfl (Ya rfl (Ya rfl (Ya rfl ?_)));refine Yc (λh=>?_) (λh=>?_);rotate_left
 ·have h:i=b.formats.length:=by simp at h; omega
  subst h;rw[List.drop_length,fmtGo] at hu;refine Ya rfl (Zf rfl rfl (Ys rfl ?_));rw[hu]
 have h:i<b.formats.length:=by simpa using h
 have hdr:b.formats.drop i=b.formats[i]::b.formats.drop (i+1):=by rw[YLD h]
 have hix:=λ(s:List ABlk)=>Yo s foC false false 7 b.formats .i64 i h;have htk:b.formats.take (i+1)=b.formats.take i++[b.formats[i]]:=Xv b.formats i h;have hmy:=c115 b fc f1 i h (List.all_eq_true.1 f2 _ (List.getElem_mem h));generalize b.formats[i]=f at hdr hix htk hmy;rw[hdr,fmtGo,←htk] at hu;refine Ya rfl ?_;refine Yd hmy rfl g115_ok.plain rfl ?_;refine Ya rfl ?_;refine Yc (λh3=>?_) (λh3=>?_)
 ·rw[if_neg (by simpa using h3)] at hu;refine Ya rfl (Ya rfl (Ya (hix _) (Ya rfl (Ya (ldr (foLd6 _)) (Ya rfl (Zf rfl rfl (Ys rfl ?_)))))));rw[hu]
 ·rw[if_pos (by simpa using h3)] at hu;refine Ya (Yk ..) ?_;rw[Qf (n:=i) (by omega)];exact hag (i+1) _ _ (by omega) ⟨rfl,rfl,by omega,hu⟩
end Go.Ah.Tz
end
section
namespace Go.Ah.Tz
open Go.Proofs.Tryz (prog)
structure NmAt (row:List AVal) (j:Nat) (x:Nm):Prop where
 h0:partA false (j+0) 1 row=some (iv8 x.op)
 h1:partA false (j+1) 1 row=some (iv x.n)
 h2:partA false (j+2) 1 row=some (iv8 x.who)
 h3:partA false (j+3) 1 row=some (.rsl false false 4 (x.kids.map nmC))
theorem nmAt(x:Nm):NmAt (nmC x) 0 x:=by rw[Yx]; exact⟨rfl,rfl,rfl,rfl⟩
theorem nmAt2(x:Ef):NmAt (efC x) 2 x.n:=by rw[ZG]; exact⟨rfl,rfl,rfl,rfl⟩
attribute [local irreducible] Ans.rd Ans.pu Ans.wr Ans.dr Ans.gr Ans.gw Ans.gl Ans.gd Ans.opt joinK W
set_option maxHeartbeats 1000000
theorem c210(w:Int):PC 210 [iv8 w] (.bool (cntOp w)):=by
 refine Qd hP g210_ok rfl rfl ?_;unfold g210;refine Ya (Xf ..) ?_;refine Xn λk1 hk1=>?_;have kk:∀c,c=cntOp w→k1 [.bool c] []:=by
  rintro c hc;rw[hk1];refine Yc (λh=>?_) (λh=>?_)
  ·rw[←hc,h]
  ·rw[←hc,h]
 clear hk1;refine Yc (λa0=>kk _ ?_) (λa0=>?_)
 ·simp at a0; simp[cntOp,a0]
 refine Ya (Xf ..) (Yc (λa1=>kk _ ?_) (λa1=>?_))
 ·simp at a1; simp[cntOp,a1]
 refine Ya (Xf ..) (Yc (λa2=>kk _ ?_) (λa2=>?_))
 ·simp at a2; simp[cntOp,a2]
 refine Ya (Xf ..) (Yc (λa3=>kk _ ?_) (λa3=>?_))
 ·simp at a3; simp[cntOp,a3]
 refine Ya (Xf ..) (kk _ ?_);simp at a0 a1 a2 a3;simp[cntOp,a0,a1,a2,a3]
theorem c212(w:Int):PC 212 [iv8 w] (.bool (sdOp w)):=by
 refine Qd hP g212_ok rfl rfl ?_;unfold g212;refine Ya (Xf ..) ?_;rcases YBE (decide (w=0)) with h1|h1
 ·rw[h1];repeat first|refine Xa ?_|refine Zb ?_|refine Yb rfl ?_|refine Zc rfl ?_|refine Xc rfl ?_|refine Xd rfl ?_|refine Ya rfl ?_
  simp at h1; simp[sdOp,h1]
 rw[h1];repeat first|refine Xa ?_|refine Zb ?_|refine Ya rfl ?_
 have h1:w≠0:=by simpa using h1
 exact congrArg AVal.bool (by rw[Bool.eq_iff_iff]; simp[sdOp,h1])
theorem c211'(u:AVal)(t:Bool):∀(k:Nat) (x:Nm) (row:List AVal) (j:Nat),NmAt row j x→SizeOf.sizeOf x≤k→nmFit x=true→PC 211 [.rptr [u,.bool t] 0,.rptr row j] (.bool (nmOk t x))
 |0,x,_,_,_,h,_=>by cases x; simp at h
 |k+1,x,row,j,hx,hk,hf=>by
  refine Qd hP g211_ok rfl rfl ?_;unfold g211;rw[XbZ];have hlen:=ZZ hf;rw[bigE] at hlen;repeat first|refine Ya (ldr hx.h0) ?_|refine Ya (ldr hx.h1) ?_|refine Ya (ldr hx.h2) ?_|refine Ya (ldr hx.h3) ?_|refine Ya (Xf ..) ?_|refine Ya (ldr (row:=[u,.bool t]) rfl) ?_|refine Ya rfl ?_
  refine Xn λk11 hk11=>?_;have bad:∀b1 b2 b3:Bool,(b1&&(b2&&b3))=false→AVal.bool false=AVal.bool (b1&&(b2&&b3)):=by
   intro b1 b2 b3 h; rw[h]
  have kk:∀(p o:Bool) (kd:Nat),kd=nmK x.op→(0≤x.op∧x.op≤12)→(p&&o)=nmEnd t x.op x.n x.who→k11 [.bool p,.bool o,iv kd] []:=by
   rintro p o kd rfl hop hpo;rw[hk11]; clear hk11 k11;repeat first|refine Ya (ldr hx.h0) ?_|refine Ya (ldr hx.h1) ?_|refine Ya (ldr hx.h2) ?_|refine Ya (ldr hx.h3) ?_|refine Ya (Xf ..) ?_|refine Ya (ldr (row:=[u,.bool t]) rfl) ?_|refine Ya rfl ?_
   cases p with
   |false=>
    repeat first|refine Xa ?_|refine Zb ?_|refine Yb rfl ?_|refine Zc rfl ?_|refine Xc rfl ?_|refine Xd rfl ?_|refine Ya (ldr hx.h0) ?_|refine Ya (ldr hx.h1) ?_|refine Ya (ldr hx.h2) ?_|refine Ya (ldr hx.h3) ?_|refine Ya (Xf ..) ?_|refine Ya (ldr (row:=[u,.bool t]) rfl) ?_|refine Ya rfl ?_
    refine Ze (bad _ _ _ ?_);rw[←hpo]; simp
   |true=>
    repeat first|refine Xa ?_|refine Zb ?_|refine Ya (ldr hx.h0) ?_|refine Ya (ldr hx.h1) ?_|refine Ya (ldr hx.h2) ?_|refine Ya (ldr hx.h3) ?_|refine Ya (Xf ..) ?_|refine Ya (ldr (row:=[u,.bool t]) rfl) ?_|refine Ya rfl ?_
    cases o with
    |false=>
     repeat first|refine Xa ?_|refine Zb ?_|refine Yb rfl ?_|refine Zc rfl ?_|refine Xc rfl ?_|refine Xd rfl ?_|refine Ya (ldr hx.h0) ?_|refine Ya (ldr hx.h1) ?_|refine Ya (ldr hx.h2) ?_|refine Ya (ldr hx.h3) ?_|refine Ya (Xf ..) ?_|refine Ya (ldr (row:=[u,.bool t]) rfl) ?_|refine Ya rfl ?_
     refine Ze (bad _ _ _ ?_);rw[←hpo]; simp
    |true=>
     repeat first|refine Xa ?_|refine Zb ?_|refine Ya (ldr hx.h0) ?_|refine Ya (ldr hx.h1) ?_|refine Ya (ldr hx.h2) ?_|refine Ya (ldr hx.h3) ?_|refine Ya (Xf ..) ?_|refine Ya (ldr (row:=[u,.bool t]) rfl) ?_|refine Ya rfl ?_
     refine Yc (λh=>bad _ _ _ ?_) (λh=>?_)
     ·have:nmTop t x.op x.n x.who x.kids.length=false:=by
       rw[Bool.eq_false_iff]; intro hh; simp[nmTop] at hh; simp at h; omega
      rw[this]; rfl
     have ht:nmTop t x.op x.n x.who x.kids.length=true:=by simp at h; simp[nmTop]; omega
     rw[ht,←hpo,Bool.true_and,Bool.and_self,Bool.and_true];repeat first|refine Ya (ldr hx.h0) ?_|refine Ya (ldr hx.h1) ?_|refine Ya (ldr hx.h2) ?_|refine Ya (ldr hx.h3) ?_|refine Ya (Xf ..) ?_|refine Ya (ldr (row:=[u,.bool t]) rfl) ?_|refine Ya rfl ?_
     refine Yj (ι:=Nat) (λi vs σ=>vs=[iv i]∧σ=[]∧i≤x.kids.length∧nmsOk t x.kids=nmsOk t (x.kids.drop i)) (λi=>x.kids.length-i) 0 ⟨rfl,rfl,by omega,by simp⟩ ?_;rintro i vs σ again ⟨rfl,rfl,hi,hu⟩ hag;refine Ya rfl ?_;refine Yc (λh=>?_) (λh=>?_)
     ·have h:i<x.kids.length:=by simpa using h
      have hdr:x.kids.drop i=x.kids[i]::x.kids.drop (i+1):=by rw[YLD h]
      rw[hdr,nmsOk] at hu;have hm:x.kids[i]∈x.kids:=List.getElem_mem h;refine Ya rfl (Ya rfl (Ya (ldr hx.h3) (Ya (Yo _ nmC _ _ _ x.kids _ i h) ?_)));refine Yd (c211' u t k _ _ 0 (nmAt _) (by have:=Xad hm; omega) (ZS hf hm)) rfl g211_ok.plain rfl ?_;refine Ya rfl ?_;refine Yc (λh4=>?_) (λh4=>?_)
      ·have h4:nmOk t x.kids[i]=false:=by simpa using h4
       rw[hu,h4]; rfl
      ·have h4:nmOk t x.kids[i]=true:=by simpa using h4
       rw[h4,Bool.true_and] at hu;refine Ya (Yk ..) ?_;rw[Qf (n:=i) (by omega)];exact hag (i+1) _ _ (by omega) ⟨rfl,rfl,by omega,hu⟩
     have h:i=x.kids.length:=by simp at h; omega
     subst h;rw[List.drop_length,nmsOk] at hu;rw[hu]
  clear hk11;repeat first|refine Ya (ldr hx.h0) ?_|refine Ya (ldr hx.h1) ?_|refine Ya (ldr hx.h2) ?_|refine Ya (ldr hx.h3) ?_|refine Ya (Xf ..) ?_|refine Ya (ldr (row:=[u,.bool t]) rfl) ?_|refine Ya rfl ?_
  refine Yc (λa0=>?_) (λa0=>?_)
  ·have a0:x.op=0:=by simpa using a0
   repeat first|refine Ya (ldr hx.h0) ?_|refine Ya (ldr hx.h1) ?_|refine Ya (ldr hx.h2) ?_|refine Ya (ldr hx.h3) ?_|refine Ya (Xf ..) ?_|refine Ya (ldr (row:=[u,.bool t]) rfl) ?_|refine Ya rfl ?_
   have e:nmEnd t x.op x.n x.who=((decide (0≤x.n)&&decide (x.n≤999))&&decide (x.who=0)):=by simp[nmEnd,a0,Bool.and_assoc]
   rcases YBE (decide (x.n ≥ 0)) with h|h
   ·rw[h];repeat first|refine Xa ?_|refine Zb ?_|refine Ya (ldr hx.h0) ?_|refine Ya (ldr hx.h1) ?_|refine Ya (ldr hx.h2) ?_|refine Ya (ldr hx.h3) ?_|refine Ya (Xf ..) ?_|refine Ya (ldr (row:=[u,.bool t]) rfl) ?_|refine Ya rfl ?_
    refine kk _ _ 0 (by simp[nmK,a0]) (by omega) ?_;simp at h; rw[e]; simp[h]
   ·rw[h];repeat first|refine Xa ?_|refine Zb ?_|refine Yb rfl ?_|refine Zc rfl ?_|refine Xc rfl ?_|refine Xd rfl ?_|refine Ya (ldr hx.h0) ?_|refine Ya (ldr hx.h1) ?_|refine Ya (ldr hx.h2) ?_|refine Ya (ldr hx.h3) ?_|refine Ya (Xf ..) ?_|refine Ya (ldr (row:=[u,.bool t]) rfl) ?_|refine Ya rfl ?_
    refine kk _ _ 0 (by simp[nmK,a0]) (by omega) ?_;simp at h; rw[e]; simp; intro h1; omega
  have a0:x.op≠0:=by simpa using a0
  repeat first|refine Ya (ldr hx.h0) ?_|refine Ya (ldr hx.h1) ?_|refine Ya (ldr hx.h2) ?_|refine Ya (ldr hx.h3) ?_|refine Ya (Xf ..) ?_|refine Ya (ldr (row:=[u,.bool t]) rfl) ?_|refine Ya rfl ?_
  refine Xn λk25 hk25=>?_;have m1:∀c,c=decide (x.op=1∨x.op=2∨x.op=3∨x.op=4)→k25 [.bool c] []:=by
   rintro c hc;rw[hk25]; clear hk25 k25;refine Yc (λh=>?_) (λh=>?_)
   ·rw[h] at hc;have a1:x.op=1∨x.op=2∨x.op=3∨x.op=4:=by simpa using hc.symm
    repeat first|refine Ya (ldr hx.h0) ?_|refine Ya (ldr hx.h1) ?_|refine Ya (ldr hx.h2) ?_|refine Ya (ldr hx.h3) ?_|refine Ya (Xf ..) ?_|refine Ya (ldr (row:=[u,.bool t]) rfl) ?_|refine Ya rfl ?_
    refine Yd (c212 _) rfl g212_ok.plain rfl ?_;refine kk _ _ 0 (by simp[nmK]; omega) (by omega) ?_;rw[nmEnd,if_neg a0,if_pos (by omega)]
   rw[h] at hc;have a1:¬(x.op=1∨x.op=2∨x.op=3∨x.op=4):=by simpa using hc.symm
   have e:nmEnd t x.op x.n x.who=(decide (x.n=0)&&(decide (x.who=0)&&(decide (x.op≠7)||t)))∨¬(0≤x.op∧x.op≤12):=by
    by_cases hr:0≤x.op∧x.op≤12
    ·left; rw[nmEnd,if_neg a0,if_neg (by omega)]
    ·right; exact hr
   repeat first|refine Ya (ldr hx.h0) ?_|refine Ya (ldr hx.h1) ?_|refine Ya (ldr hx.h2) ?_|refine Ya (ldr hx.h3) ?_|refine Ya (Xf ..) ?_|refine Ya (ldr (row:=[u,.bool t]) rfl) ?_|refine Ya rfl ?_
   refine Xn λk35 hk35=>?_;have m2:∀c,c=decide (x.op=5∨x.op=6)→k35 [.bool c] []:=by
    rintro c hc;rw[hk35]; clear hk35 k35;refine Yc (λh=>?_) (λh=>?_)
    ·rw[h] at hc;have a2:x.op=5∨x.op=6:=by simpa using hc.symm
     refine kk _ _ 0 (by simp[nmK]; omega) (by omega) ?_;rcases e with e|e
     ·rw[e]; simp[show x.op≠7 by omega]
     ·omega
    rw[h] at hc;have a2:¬(x.op=5∨x.op=6):=by simpa using hc.symm
    repeat first|refine Ya (ldr hx.h0) ?_|refine Ya (ldr hx.h1) ?_|refine Ya (ldr hx.h2) ?_|refine Ya (ldr hx.h3) ?_|refine Ya (Xf ..) ?_|refine Ya (ldr (row:=[u,.bool t]) rfl) ?_|refine Ya rfl ?_
    refine Yc (λa3=>?_) (λa3=>?_)
    ·have a3:x.op=7:=by simpa using a3
     rcases e with e|e
     ·rcases YBE (decide (x.who=0)) with h|h
      ·rw[h];repeat first|refine Xa ?_|refine Zb ?_|refine Ya (ldr hx.h0) ?_|refine Ya (ldr hx.h1) ?_|refine Ya (ldr hx.h2) ?_|refine Ya (ldr hx.h3) ?_|refine Ya (Xf ..) ?_|refine Ya (ldr (row:=[u,.bool t]) rfl) ?_|refine Ya rfl ?_
       refine kk _ _ 0 (by simp[nmK,a3]) (by omega) ?_;rw[e,h]; simp[a3]
      ·rw[h];repeat first|refine Xa ?_|refine Zb ?_|refine Yb rfl ?_|refine Zc rfl ?_|refine Xc rfl ?_|refine Xd rfl ?_|refine Ya (ldr hx.h0) ?_|refine Ya (ldr hx.h1) ?_|refine Ya (ldr hx.h2) ?_|refine Ya (ldr hx.h3) ?_|refine Ya (Xf ..) ?_|refine Ya (ldr (row:=[u,.bool t]) rfl) ?_|refine Ya rfl ?_
       refine kk _ _ 0 (by simp[nmK,a3]) (by omega) ?_;rw[e,h]; simp
     ·omega
    have a3:x.op≠7:=by simpa using a3
    repeat first|refine Ya (ldr hx.h0) ?_|refine Ya (ldr hx.h1) ?_|refine Ya (ldr hx.h2) ?_|refine Ya (ldr hx.h3) ?_|refine Ya (Xf ..) ?_|refine Ya (ldr (row:=[u,.bool t]) rfl) ?_|refine Ya rfl ?_
    refine Xn λk45 hk45=>?_;have m3:∀c,c=decide (x.op=8∨x.op=9∨x.op=10∨x.op=11∨x.op=12)→k45 [.bool c] []:=by
     rintro c hc;rw[hk45]; clear hk45 k45;refine Yc (λh=>?_) (λh=>?_)
     ·rw[h] at hc;have a4:x.op=8∨x.op=9∨x.op=10∨x.op=11∨x.op=12:=by simpa using hc.symm
      refine kk _ _ 2 (by simp[nmK]; omega) (by omega) ?_;rcases e with e|e
      ·rw[e]; simp[a3]
      ·omega
     ·rw[h] at hc;have a4:¬(x.op=8∨x.op=9∨x.op=10∨x.op=11∨x.op=12):=by simpa using hc.symm
      refine bad _ _ _ ?_;have:nmTop t x.op x.n x.who x.kids.length=false:=by
       rw[Bool.eq_false_iff]; intro hh; simp[nmTop] at hh; omega
      rw[this]; rfl
    clear hk45;refine Yc (λc1=>m3 _ ?_) (λc1=>?_)
    ·simp at c1; simp[c1]
    refine Ya (Xf ..) (Yc (λc2=>m3 _ ?_) (λc2=>?_))
    ·simp at c2; simp[c2]
    refine Ya (Xf ..) (Yc (λc3=>m3 _ ?_) (λc3=>?_))
    ·simp at c3; simp[c3]
    refine Ya (Xf ..) (Yc (λc4=>m3 _ ?_) (λc4=>?_))
    ·simp at c4; simp[c4]
    refine Ya (Xf ..) (m3 _ ?_);simp at c1 c2 c3 c4; simp[c1,c2,c3,c4]
   clear hk35;refine Yc (λc1=>m2 _ ?_) (λc1=>?_)
   ·simp at c1; simp[c1]
   refine Ya (Xf ..) (m2 _ ?_);simp at c1; simp[c1]
  clear hk25;refine Yc (λc1=>m1 _ ?_) (λc1=>?_)
  ·simp at c1; simp[c1]
  refine Ya (Xf ..) (Yc (λc2=>m1 _ ?_) (λc2=>?_))
  ·simp at c2; simp[c2]
  refine Ya (Xf ..) (Yc (λc3=>m1 _ ?_) (λc3=>?_))
  ·simp at c3; simp[c3]
  refine Ya (Xf ..) (m1 _ ?_);simp at c1 c2 c3; simp[c1,c2,c3]
theorem c211(u:AVal)(t:Bool)(x:Nm)(row:List AVal)(j:Nat)(hx:NmAt row j x)(hf:nmFit x=true):PC 211 [.rptr [u,.bool t] 0,.rptr row j] (.bool (nmOk t x)):=c211' u t _ x row j hx (Nat.le_refl _) hf
end Go.Ah.Tz
end
section
namespace Go.Ah.Tz
open Go.Proofs.Tryz (prog)
def tlook(t:Tx):List (Tx×Bool)→Option Bool
 |[]=>none
 |p::l=>if t==p.1 then some p.2 else tlook t l
def mpE(l:List (Tx×Bool)):List (AVal×AVal):=l.map λp=>(AVal.str p.1,AVal.bool p.2)
theorem X3(t:Tx):∀l,alook (.str t) (mpE l)=some ((tlook t l).map AVal.bool)
 |[]=>rfl
 |p::l=>by
  simp only[mpE,List.map_cons,alook,keyEq,tlook];cases h:t==p.1 with
  |true=>rfl
  |false=>exact X3 t l
def chkM(l:List (Tx×Bool))(t:Bool):List AVal:=[.rmap (mpE l),.bool t]
theorem XR(l:List (Tx×Bool))(t:Tx)(σ:List ABlk):Zr true true (.bool false) [.rmap (mpE l),.str t] σ=.ok (.tup [.bool ((tlook t l).getD false),.bool (tlook t l).isSome]) [] []:=by
 show (match alook (.str t) (mpE l) with
  |some r=>SRes.ok (lookV true (.bool false) r) [] []
  | none=>.stop)=_
 rw[X3];cases tlook t l<;>rfl
theorem Xl(l:List (Tx×Bool))(t:Tx)(σ:List ABlk):Zr true false (.bool false) [.rmap (mpE l),.str t] σ=.ok (.bool ((tlook t l).getD false)) [] []:=by
 show (match alook (.str t) (mpE l) with
  |some r=>SRes.ok (lookV false (.bool false) r) [] []
  | none=>.stop)=_
 rw[X3];cases tlook t l<;>rfl
def Units(l:List (Tx×Bool))(cs:List Cd):Prop:=∀t u,findC cs t u=match tlook t l with
 |none=>false
 |some b=>b || !u
structure CnAt (row:List AVal) (j:Nat) (x:Cn):Prop where
 h0:partA false (j+0) 1 row=some (iv8 x.op)
 h1:partA false (j+1) 1 row=some (iv8 x.who)
 h2:partA false (j+2) 1 row=some (.str x.name)
 h3:partA false (j+3) 1 row=some (.rsl false false 4 (x.nums.map nmC))
 h4:partA false (j+4) 1 row=some (.rsl false false 5 (x.kids.map cnC))
theorem cnAt(x:Cn):CnAt (cnC x) 0 x:=by rw[QF]; exact⟨rfl,rfl,rfl,rfl,rfl⟩
theorem cnAt7(x:Ef):CnAt (efC x) 7 x.c:=by rw[ZG]; exact⟨rfl,rfl,rfl,rfl,rfl⟩
attribute [local irreducible] Ans.rd Ans.pu Ans.wr Ans.dr Ans.gr Ans.gw Ans.gl Ans.gd Ans.opt joinK W
set_option maxHeartbeats 1000000
theorem Qcm{P:Program}{GL:Globs}{c d:Bool}{K:AVal→Prop}{r1:SRes}{f2 f3 f4 f5:AVal→SRes}{σ:List ABlk}{v1 v2 v3 v4:AVal}{q1 q2 q3 q4 q5:List Nat}(h1:r1=.ok v1 q1 [])(h2:f2 v1=.ok v2 q2 [])(h3:f3 v2=.ok v3 q3 [])(h4:f4 v3=.ok v4 q4 [])(h5:f5 v4=.ok (.bool d) q5 [])(hK:K (.bool (c&&d))) :
  (W P GL).gr (.bool c) true (λk=>(W P GL).rd r1 k) λt1=>(W P GL).gr (.bool c) true (λk=>(W P GL).rd (f2 t1) k) λt2=>(W P GL).gr (.bool c) true (λk=>(W P GL).rd (f3 t2) k) λt3=>(W P GL).gr (.bool c) true (λk=>(W P GL).rd (f4 t3) k) λt4=>(W P GL).gr (.bool c) true (λk=>(W P GL).rd (f5 t4) k) λt5=>(W P GL).rd (Ym [.bool c,t5,.bool false] σ) K:=by
 cases c with
 |true=>exact Xa (Ya h1 (Xa (Ya h2 (Xa (Ya h3 (Xa (Ya h4 (Xa (Ya h5 (Ya rfl hK))))))))))
 |false=>exact Yb rfl (Yb rfl (Yb rfl (Yb rfl (Yb rfl (Ya rfl hK)))))
theorem c213'(l:List (Tx×Bool))(cs:List Cd)(hU:Units l cs)(t:Bool):∀(k:Nat) (x:Cn) (row:List AVal) (j:Nat),CnAt row j x→SizeOf.sizeOf x≤k→cnFit x=true→PC 213 [.rptr (chkM l t) 0,.rptr row j] (.bool (cnOk cs t x))
 |0,x,_,_,_,h,_=>by cases x; simp at h
 |k+1,x,row,j,hx,hk,hf=>by
  refine Qd hP g213_ok rfl rfl ?_;unfold g213;rw[QbP];have hl1:=YI hf;have hl2:=ZI hf;rw[bigE] at hl1 hl2;refine Ya rfl (Ya rfl (Ya (ldr hx.h1) (Ya (Xf ..) ?_)));refine Qcm rfl rfl rfl (ldr hx.h2) (Zg ..) ?_;refine Ya rfl (Ya rfl (Ya (ldr hx.h0) ?_));have bad:∀b1 b2 b3 b4:Bool,(b1&&(b2&&(b3&&b4)))=false→AVal.bool false=AVal.bool (b1&&(b2&&(b3&&b4))):=by
   intro b1 b2 b3 b4 h; rw[h]
  have badT:¬(0≤x.op∧x.op≤6∧x.nums.length=cnK3 x.op∧x.kids.length=cnK4 x.op)→AVal.bool false=AVal.bool (cnTop x.op x.nums.length x.kids.length&&(nmsOk t x.nums&&(cnsOk cs t x.kids&&cnEnd cs x.op x.who x.name))):=by
   intro hn;have:cnTop x.op x.nums.length x.kids.length=false:=by
    rw[Bool.eq_false_iff]; intro hh; simp[cnTop] at hh; exact hn hh
   rw[this]; rfl
  refine Xn λk13 hk13=>?_;have kk:∀(ok:Bool) (k3 k4:Nat),k3=cnK3 x.op→k4=cnK4 x.op→(0≤x.op∧x.op≤6)→ok=cnEnd cs x.op x.who x.name→k13 [.bool ok,iv k3,iv k4] []:=by
   rintro ok k3 k4 rfl rfl hop hok;rw[hk13]; clear hk13 k13;repeat first|refine Ya (ldr hx.h0) ?_|refine Ya (ldr hx.h1) ?_|refine Ya (ldr hx.h2) ?_|refine Ya (ldr hx.h3) ?_|refine Ya (ldr hx.h4) ?_|refine Ya (Xf ..) ?_|refine Ya (Zg ..) ?_|refine Ya (ldr (row:=chkM l t) rfl) ?_|refine Ya (XR ..) ?_|refine Ya rfl ?_
   cases ok with
   |false=>
    repeat first|refine Xa ?_|refine Zb ?_|refine Yb rfl ?_|refine Zc rfl ?_|refine Xc rfl ?_|refine Xd rfl ?_|refine Ya (ldr hx.h0) ?_|refine Ya (ldr hx.h1) ?_|refine Ya (ldr hx.h2) ?_|refine Ya (ldr hx.h3) ?_|refine Ya (ldr hx.h4) ?_|refine Ya (Xf ..) ?_|refine Ya (Zg ..) ?_|refine Ya (ldr (row:=chkM l t) rfl) ?_|refine Ya (XR ..) ?_|refine Ya rfl ?_
    refine Ze (bad _ _ _ _ ?_);rw[←hok]; simp
   |true=>
    repeat first|refine Xa ?_|refine Zb ?_|refine Ya (ldr hx.h0) ?_|refine Ya (ldr hx.h1) ?_|refine Ya (ldr hx.h2) ?_|refine Ya (ldr hx.h3) ?_|refine Ya (ldr hx.h4) ?_|refine Ya (Xf ..) ?_|refine Ya (Zg ..) ?_|refine Ya (ldr (row:=chkM l t) rfl) ?_|refine Ya (XR ..) ?_|refine Ya rfl ?_
    rcases YBE (((x.nums.map nmC).length:Int) != (cnK3 x.op:Int)) with h3|h3
    ·rw[h3];repeat first|refine Xa ?_|refine Zb ?_|refine Yb rfl ?_|refine Zc rfl ?_|refine Xc rfl ?_|refine Xd rfl ?_|refine Ya (ldr hx.h0) ?_|refine Ya (ldr hx.h1) ?_|refine Ya (ldr hx.h2) ?_|refine Ya (ldr hx.h3) ?_|refine Ya (ldr hx.h4) ?_|refine Ya (Xf ..) ?_|refine Ya (Zg ..) ?_|refine Ya (ldr (row:=chkM l t) rfl) ?_|refine Ya (XR ..) ?_|refine Ya rfl ?_
     refine Ze (badT ?_);simp at h3; omega
    rw[h3];repeat first|refine Xa ?_|refine Zb ?_|refine Ya (ldr hx.h0) ?_|refine Ya (ldr hx.h1) ?_|refine Ya (ldr hx.h2) ?_|refine Ya (ldr hx.h3) ?_|refine Ya (ldr hx.h4) ?_|refine Ya (Xf ..) ?_|refine Ya (Zg ..) ?_|refine Ya (ldr (row:=chkM l t) rfl) ?_|refine Ya (XR ..) ?_|refine Ya rfl ?_
    refine Yc (λh4=>badT ?_) (λh4=>?_)
    ·simp at h4; omega
    simp at h3 h4;have ht:cnTop x.op x.nums.length x.kids.length=true:=by simp[cnTop]; omega
    rw[ht,←hok,Bool.true_and,Bool.and_true];repeat first|refine Ya (ldr hx.h0) ?_|refine Ya (ldr hx.h1) ?_|refine Ya (ldr hx.h2) ?_|refine Ya (ldr hx.h3) ?_|refine Ya (ldr hx.h4) ?_|refine Ya (Xf ..) ?_|refine Ya (Zg ..) ?_|refine Ya (ldr (row:=chkM l t) rfl) ?_|refine Ya (XR ..) ?_|refine Ya rfl ?_
    refine Yj (ι:=Nat) (λi vs σ=>vs=[iv i]∧σ=[]∧i≤x.nums.length∧nmsOk t x.nums=nmsOk t (x.nums.drop i)) (λi=>x.nums.length-i) 0 ⟨rfl,rfl,by omega,by simp⟩ ?_;rintro i vs σ again ⟨rfl,rfl,hi,hu⟩ hag;refine Ya rfl ?_;refine Yc (λh=>?_) (λh=>?_)
    ·have h:i<x.nums.length:=by simpa using h
     have hdr:x.nums.drop i=x.nums[i]::x.nums.drop (i+1):=by rw[YLD h]
     rw[hdr,nmsOk] at hu;have hm:x.nums[i]∈x.nums:=List.getElem_mem h;refine Ya rfl (Ya rfl (Ya (ldr hx.h3) (Ya (Yo _ nmC _ _ _ x.nums _ i h) ?_)));refine Yd (c211 _ t _ _ 0 (nmAt _) (QQ hf hm)) rfl g211_ok.plain rfl ?_;refine Ya rfl ?_;refine Yc (λh4=>?_) (λh4=>?_)
     ·have h4:nmOk t x.nums[i]=false:=by simpa using h4
      rw[hu,h4]; rfl
     ·have h4:nmOk t x.nums[i]=true:=by simpa using h4
      rw[h4,Bool.true_and] at hu;refine Ya (Yk ..) ?_;rw[Qf (n:=i) (by omega)];exact hag (i+1) _ _ (by omega) ⟨rfl,rfl,by omega,hu⟩
    have h:i=x.nums.length:=by simp at h; omega
    subst h;rw[List.drop_length,nmsOk] at hu;rw[hu,Bool.true_and];clear hag hu hi;repeat first|refine Ya (ldr hx.h0) ?_|refine Ya (ldr hx.h1) ?_|refine Ya (ldr hx.h2) ?_|refine Ya (ldr hx.h3) ?_|refine Ya (ldr hx.h4) ?_|refine Ya (Xf ..) ?_|refine Ya (Zg ..) ?_|refine Ya (ldr (row:=chkM l t) rfl) ?_|refine Ya (XR ..) ?_|refine Ya rfl ?_
    refine Yj (ι:=Nat) (λi vs s=>vs=[iv i]∧s=[]∧i≤x.kids.length∧cnsOk cs t x.kids=cnsOk cs t (x.kids.drop i)) (λi=>x.kids.length-i) 0 ⟨rfl,rfl,by omega,by simp⟩ ?_;rintro i vs s again ⟨rfl,rfl,hi,hu⟩ hag;refine Ya rfl ?_;refine Yc (λh=>?_) (λh=>?_)
    ·have h:i<x.kids.length:=by simpa using h
     have hdr:x.kids.drop i=x.kids[i]::x.kids.drop (i+1):=by rw[YLD h]
     rw[hdr,cnsOk] at hu;have hm:x.kids[i]∈x.kids:=List.getElem_mem h;refine Ya rfl (Ya rfl (Ya (ldr hx.h4) (Ya (Yo _ cnC _ _ _ x.kids _ i h) ?_)));refine Yd (c213' l cs hU t k _ _ 0 (cnAt _) (by have:=Xac hm; omega) (XQ hf hm)) rfl g213_ok.plain rfl ?_;refine Ya rfl ?_;refine Yc (λh4=>?_) (λh4=>?_)
     ·have h4:cnOk cs t x.kids[i]=false:=by simpa using h4
      rw[hu,h4]; rfl
     ·have h4:cnOk cs t x.kids[i]=true:=by simpa using h4
      rw[h4,Bool.true_and] at hu;refine Ya (Yk ..) ?_;rw[Qf (n:=i) (by omega)];exact hag (i+1) _ _ (by omega) ⟨rfl,rfl,by omega,hu⟩
    have h:i=x.kids.length:=by simp at h; omega
    subst h;rw[List.drop_length,cnsOk] at hu;rw[hu]
  clear hk13;have e6:x.op≠6→(decide (x.who=0)&&(x.name==[]))=cnEnd cs x.op x.who x.name:=by
   intro h; rw[cnEnd,if_neg h]
  refine Ya (Xf ..) ?_;refine Xn λk1 hk1=>?_;have m1:∀c,c=decide (x.op=0∨x.op=1∨x.op=2)→k1 [.bool c] []:=by
   rintro c hc;rw[hk1]; clear hk1 k1;refine Yc (λh=>?_) (λh=>?_)
   ·rw[h] at hc;have a1:x.op=0∨x.op=1∨x.op=2:=by simpa using hc.symm
    exact kk _ 2 0 (by simp[cnK3]; omega) (by unfold cnK4; split<;>(try split)<;>omega) (by omega) (e6 (by omega))
   rw[h] at hc;have a1:¬(x.op=0∨x.op=1∨x.op=2):=by simpa using hc.symm
   refine Ya (Xf ..) (Yc (λa3=>?_) (λa3=>?_))
   ·have a3:x.op=3:=by simpa using a3
    exact kk _ 0 1 (by simp[cnK3]; omega) (by unfold cnK4; split<;>(try split)<;>omega) (by omega) (e6 (by omega))
   have a3:x.op≠3:=by simpa using a3
   refine Ya (Xf ..) ?_;refine Xn λk1 hk1=>?_;have m2:∀c,c=decide (x.op=4∨x.op=5)→k1 [.bool c] []:=by
    rintro c hc;rw[hk1]; clear hk1 k1;refine Yc (λh=>?_) (λh=>?_)
    ·rw[h] at hc;have a1:x.op=4∨x.op=5:=by simpa using hc.symm
     exact kk _ 0 2 (by simp[cnK3]; omega) (by unfold cnK4; split<;>(try split)<;>omega) (by omega) (e6 (by omega))
    rw[h] at hc;have a4:¬(x.op=4∨x.op=5):=by simpa using hc.symm
    refine Ya (Xf ..) (Yc (λa6=>?_) (λa6=>?_))
    ·have a6:x.op=6:=by simpa using a6
     repeat first|refine Ya (ldr hx.h0) ?_|refine Ya (ldr hx.h1) ?_|refine Ya (ldr hx.h2) ?_|refine Ya (ldr hx.h3) ?_|refine Ya (ldr hx.h4) ?_|refine Ya (Xf ..) ?_|refine Ya (Zg ..) ?_|refine Ya (ldr (row:=chkM l t) rfl) ?_|refine Ya (XR ..) ?_|refine Ya rfl ?_
     have hfind:=hU x.name false;have e:cnEnd cs x.op x.who x.name=((tlook x.name l).isSome&&sdOp x.who):=by
      rw[cnEnd,if_pos a6,hfind];cases tlook x.name l<;>simp
     rcases YBE (tlook x.name l).isSome with h|h
     ·rw[h];repeat first|refine Xa ?_|refine Zb ?_|refine Ya (ldr hx.h0) ?_|refine Ya (ldr hx.h1) ?_|refine Ya (ldr hx.h2) ?_|refine Ya (ldr hx.h3) ?_|refine Ya (ldr hx.h4) ?_|refine Ya (Xf ..) ?_|refine Ya (Zg ..) ?_|refine Ya (ldr (row:=chkM l t) rfl) ?_|refine Ya (XR ..) ?_|refine Ya rfl ?_
      refine Yd (c212 _) rfl g212_ok.plain rfl ?_;repeat first|refine Xa ?_|refine Zb ?_|refine Ya (ldr hx.h0) ?_|refine Ya (ldr hx.h1) ?_|refine Ya (ldr hx.h2) ?_|refine Ya (ldr hx.h3) ?_|refine Ya (ldr hx.h4) ?_|refine Ya (Xf ..) ?_|refine Ya (Zg ..) ?_|refine Ya (ldr (row:=chkM l t) rfl) ?_|refine Ya (XR ..) ?_|refine Ya rfl ?_
      exact kk _ 0 0 (by simp[cnK3]; omega) (by unfold cnK4; split<;>(try split)<;>omega) (by omega) (by rw[e,h,Bool.true_and])
     ·rw[h];repeat first|refine Xa ?_|refine Zb ?_|refine Yb rfl ?_|refine Zc rfl ?_|refine Xc rfl ?_|refine Xd rfl ?_|refine Ya (ldr hx.h0) ?_|refine Ya (ldr hx.h1) ?_|refine Ya (ldr hx.h2) ?_|refine Ya (ldr hx.h3) ?_|refine Ya (ldr hx.h4) ?_|refine Ya (Xf ..) ?_|refine Ya (Zg ..) ?_|refine Ya (ldr (row:=chkM l t) rfl) ?_|refine Ya (XR ..) ?_|refine Ya rfl ?_
      exact kk _ 0 0 (by simp[cnK3]; omega) (by unfold cnK4; split<;>(try split)<;>omega) (by omega) (by rw[e,h,Bool.false_and])
    ·have a6:x.op≠6:=by simpa using a6
     exact badT (by omega)
   clear hk1;refine Yc (λc1=>m2 _ ?_) (λc1=>?_)
   ·simp at c1; simp[c1]
   refine Ya (Xf ..) (m2 _ ?_);simp at c1; simp[c1]
  clear hk1;refine Yc (λc1=>m1 _ ?_) (λc1=>?_)
  ·simp at c1; simp[c1]
  refine Ya (Xf ..) (Yc (λc2=>m1 _ ?_) (λc2=>?_))
  ·simp at c2; simp[c2]
  refine Ya (Xf ..) (m1 _ ?_);simp at c1 c2; simp[c1,c2]
theorem c213(l:List (Tx×Bool))(cs:List Cd)(hU:Units l cs)(t:Bool)(x:Cn)(row:List AVal)(j:Nat)(hx:CnAt row j x)(hf:cnFit x=true):PC 213 [.rptr (chkM l t) 0,.rptr row j] (.bool (cnOk cs t x)):=c213' l cs hU t _ x row j hx (Nat.le_refl _) hf
end Go.Ah.Tz
end
section
namespace Go.Ah.Tz
open Go.Proofs.Tryz (prog)
def zeroB(x:Ef):Bool:=((cntOp x.op||noNum x.n)&&(decide (x.op=7)||x.name==[]))&&(decide (x.op=8)||(decide (x.c.op=0)&&(decide (x.c.who=0)&&(x.c.name==[]&&decide (x.c.nums.length+x.c.kids.length+x.thn.length+x.els.length=0)))))
attribute [local irreducible] Ans.rd Ans.pu Ans.wr Ans.dr Ans.gr Ans.gw Ans.gl Ans.gd Ans.opt joinK W
set_option maxHeartbeats 2000000
theorem c209(x:Ef)(hf:efFit x=true):PC 209 [.rptr (efC x) 0] (.bool (zeroB x)):=by
 have l1:=YI (ZX hf);have l2:=ZI (ZX hf);have l3:=Zz (QG hf);have l4:=Zz (XG hf);rw[bigE] at l1 l2 l3 l4;rw[ZG];refine Qd hP g209_ok rfl rfl ?_;unfold g209;repeat first|refine Ya (Xf ..) ?_|refine Ya (Zg ..) ?_|refine Ya (ldr (row:=[iv8 x.op,iv8 x.who,iv8 x.n.op,iv x.n.n,iv8 x.n.who,.rsl false false 4 (x.n.kids.map nmC),.str x.name,iv8 x.c.op,iv8 x.c.who,.str x.c.name,.rsl false false 4 (x.c.nums.map nmC),.rsl false false 5 (x.c.kids.map cnC),.rsl false false 14 (x.thn.map efC),.rsl false false 14 (x.els.map efC)]) rfl) ?_|refine Ya rfl ?_
 refine Yd (c210 _) rfl g210_ok.plain rfl ?_;have r1:∀K:AVal→Prop,K (.bool (cntOp x.op||noNum x.n))→VV.gr (AVal.bool (cntOp x.op)) false (λk=>VV.rd (Yh [(AVal.rptr [iv8 x.op,iv8 x.who,iv8 x.n.op,iv x.n.n,iv8 x.n.who,.rsl false false 4 (x.n.kids.map nmC),.str x.name,iv8 x.c.op,iv8 x.c.who,.str x.c.name,.rsl false false 4 (x.c.nums.map nmC),.rsl false false 5 (x.c.kids.map cnC),.rsl false false 14 (x.thn.map efC),.rsl false false 14 (x.els.map efC)] 0)] ([]:List ABlk)) k) λt13_4=>VV.gr (AVal.bool (cntOp x.op)) false (λk=>VV.rd (Qa [t13_4] ([]:List ABlk)) k) λt14_5=>VV.gr (AVal.bool (cntOp x.op)) false (λk=>VV.rd (Za 2 [t14_5] ([]:List ABlk)) k) λt15_6=>VV.gr (AVal.bool (cntOp x.op)) false (λk=>VV.rd (Za 0 [t15_6] ([]:List ABlk)) k) λt16_7=>VV.gr (AVal.bool (cntOp x.op)) false (λk=>VV.rd (Zd false 1 [t16_7] ([]:List ABlk)) k) λt17_8=>VV.gr (AVal.bool (cntOp x.op)) false (λk=>VV.rd (Xh .eql false [t17_8,(.int .i8 0)] ([]:List ABlk)) k) λt18_9=>VV.gr (AVal.bool (cntOp x.op)) false (λk=>VV.rd (Yh [t18_9] ([]:List ABlk)) k) λt19_10=>VV.gr t19_10 true (λk=>VV.rd (Yh [(AVal.rptr [iv8 x.op,iv8 x.who,iv8 x.n.op,iv x.n.n,iv8 x.n.who,.rsl false false 4 (x.n.kids.map nmC),.str x.name,iv8 x.c.op,iv8 x.c.who,.str x.c.name,.rsl false false 4 (x.c.nums.map nmC),.rsl false false 5 (x.c.kids.map cnC),.rsl false false 14 (x.thn.map efC),.rsl false false 14 (x.els.map efC)] 0)] ([]:List ABlk)) k) λt20_11=>VV.gr t19_10 true (λk=>VV.rd (Qa [t20_11] ([]:List ABlk)) k) λt21_12=>VV.gr t19_10 true (λk=>VV.rd (Za 2 [t21_12] ([]:List ABlk)) k) λt22_13=>VV.gr t19_10 true (λk=>VV.rd (Za 1 [t22_13] ([]:List ABlk)) k) λt23_14=>VV.gr t19_10 true (λk=>VV.rd (Zd false 1 [t23_14] ([]:List ABlk)) k) λt24_15=>VV.gr t19_10 true (λk=>VV.rd (Xh .eql false [t24_15,(.int .i64 0)] ([]:List ABlk)) k) λt25_16=>VV.gr (AVal.bool (cntOp x.op)) false (λk=>VV.rd (Ym [t19_10,t25_16,(.bool false)] ([]:List ABlk)) k) λt26_17=>VV.gr (AVal.bool (cntOp x.op)) false (λk=>VV.rd (Yh [t26_17] ([]:List ABlk)) k) λt27_18=>VV.gr t27_18 true (λk=>VV.rd (Yh [(AVal.rptr [iv8 x.op,iv8 x.who,iv8 x.n.op,iv x.n.n,iv8 x.n.who,.rsl false false 4 (x.n.kids.map nmC),.str x.name,iv8 x.c.op,iv8 x.c.who,.str x.c.name,.rsl false false 4 (x.c.nums.map nmC),.rsl false false 5 (x.c.kids.map cnC),.rsl false false 14 (x.thn.map efC),.rsl false false 14 (x.els.map efC)] 0)] ([]:List ABlk)) k) λt28_19=>VV.gr t27_18 true (λk=>VV.rd (Qa [t28_19] ([]:List ABlk)) k) λt29_20=>VV.gr t27_18 true (λk=>VV.rd (Za 2 [t29_20] ([]:List ABlk)) k) λt30_21=>VV.gr t27_18 true (λk=>VV.rd (Za 2 [t30_21] ([]:List ABlk)) k) λt31_22=>VV.gr t27_18 true (λk=>VV.rd (Zd false 1 [t31_22] ([]:List ABlk)) k) λt32_23=>VV.gr t27_18 true (λk=>VV.rd (Xh .eql false [t32_23,(.int .i8 0)] ([]:List ABlk)) k) λt33_24=>VV.gr (AVal.bool (cntOp x.op)) false (λk=>VV.rd (Ym [t27_18,t33_24,(.bool false)] ([]:List ABlk)) k) λt34_25=>VV.gr (AVal.bool (cntOp x.op)) false (λk=>VV.rd (Yh [t34_25] ([]:List ABlk)) k) λt35_26=>VV.gr t35_26 true (λk=>VV.rd (Yh [(AVal.rptr [iv8 x.op,iv8 x.who,iv8 x.n.op,iv x.n.n,iv8 x.n.who,.rsl false false 4 (x.n.kids.map nmC),.str x.name,iv8 x.c.op,iv8 x.c.who,.str x.c.name,.rsl false false 4 (x.c.nums.map nmC),.rsl false false 5 (x.c.kids.map cnC),.rsl false false 14 (x.thn.map efC),.rsl false false 14 (x.els.map efC)] 0)] ([]:List ABlk)) k) λt36_27=>VV.gr t35_26 true (λk=>VV.rd (Qa [t36_27] ([]:List ABlk)) k) λt37_28=>VV.gr t35_26 true (λk=>VV.rd (Za 2 [t37_28] ([]:List ABlk)) k) λt38_29=>VV.gr t35_26 true (λk=>VV.rd (Za 3 [t38_29] ([]:List ABlk)) k) λt39_30=>VV.gr t35_26 true (λk=>VV.rd (Zd false 1 [t39_30] ([]:List ABlk)) k) λt40_31=>VV.gr t35_26 true (λk=>VV.rd (Xe [t40_31] ([]:List ABlk)) k) λt41_32=>VV.gr t35_26 true (λk=>VV.rd (Xh .eql false [t41_32,(.int .i64 0)] ([]:List ABlk)) k) λt42_33=>VV.gr (AVal.bool (cntOp x.op)) false (λk=>VV.rd (Ym [t35_26,t42_33,(.bool false)] ([]:List ABlk)) k) λt43_34=>VV.rd (Ym [(AVal.bool (cntOp x.op)),(.bool true),t43_34] ([]:List ABlk)) K:=by
  intro K hK;rcases YBE (cntOp x.op) with h0|h0
  ·rw[h0] at hK ⊢;repeat first|refine Xa ?_|refine Zb ?_|refine Yb rfl ?_|refine Zc rfl ?_|refine Xc rfl ?_|refine Xd rfl ?_|refine Ya (Xf ..) ?_|refine Ya (Zg ..) ?_|refine Ya (ldr (row:=[iv8 x.op,iv8 x.who,iv8 x.n.op,iv x.n.n,iv8 x.n.who,.rsl false false 4 (x.n.kids.map nmC),.str x.name,iv8 x.c.op,iv8 x.c.who,.str x.c.name,.rsl false false 4 (x.c.nums.map nmC),.rsl false false 5 (x.c.kids.map cnC),.rsl false false 14 (x.thn.map efC),.rsl false false 14 (x.els.map efC)]) rfl) ?_|refine Ya rfl ?_
   exact hK
  rw[h0,Bool.false_or] at hK;rw[h0];repeat first|refine Xa ?_|refine Zb ?_|refine Ya (Xf ..) ?_|refine Ya (Zg ..) ?_|refine Ya (ldr (row:=[iv8 x.op,iv8 x.who,iv8 x.n.op,iv x.n.n,iv8 x.n.who,.rsl false false 4 (x.n.kids.map nmC),.str x.name,iv8 x.c.op,iv8 x.c.who,.str x.c.name,.rsl false false 4 (x.c.nums.map nmC),.rsl false false 5 (x.c.kids.map cnC),.rsl false false 14 (x.thn.map efC),.rsl false false 14 (x.els.map efC)]) rfl) ?_|refine Ya rfl ?_
  rcases YBE (decide (x.n.op=0)) with h1|h1
  rotate_left
  ·rw[h1];repeat first|refine Xa ?_|refine Zb ?_|refine Yb rfl ?_|refine Zc rfl ?_|refine Xc rfl ?_|refine Xd rfl ?_|refine Ya (Xf ..) ?_|refine Ya (Zg ..) ?_|refine Ya (ldr (row:=[iv8 x.op,iv8 x.who,iv8 x.n.op,iv x.n.n,iv8 x.n.who,.rsl false false 4 (x.n.kids.map nmC),.str x.name,iv8 x.c.op,iv8 x.c.who,.str x.c.name,.rsl false false 4 (x.c.nums.map nmC),.rsl false false 5 (x.c.kids.map cnC),.rsl false false 14 (x.thn.map efC),.rsl false false 14 (x.els.map efC)]) rfl) ?_|refine Ya rfl ?_
   rw[show noNum x.n=false by simp at h1; simp[noNum,h1]] at hK;exact hK
  rw[h1];repeat first|refine Xa ?_|refine Zb ?_|refine Ya (Xf ..) ?_|refine Ya (Zg ..) ?_|refine Ya (ldr (row:=[iv8 x.op,iv8 x.who,iv8 x.n.op,iv x.n.n,iv8 x.n.who,.rsl false false 4 (x.n.kids.map nmC),.str x.name,iv8 x.c.op,iv8 x.c.who,.str x.c.name,.rsl false false 4 (x.c.nums.map nmC),.rsl false false 5 (x.c.kids.map cnC),.rsl false false 14 (x.thn.map efC),.rsl false false 14 (x.els.map efC)]) rfl) ?_|refine Ya rfl ?_
  rcases YBE (decide (x.n.n=0)) with h2|h2
  rotate_left
  ·rw[h2];repeat first|refine Xa ?_|refine Zb ?_|refine Yb rfl ?_|refine Zc rfl ?_|refine Xc rfl ?_|refine Xd rfl ?_|refine Ya (Xf ..) ?_|refine Ya (Zg ..) ?_|refine Ya (ldr (row:=[iv8 x.op,iv8 x.who,iv8 x.n.op,iv x.n.n,iv8 x.n.who,.rsl false false 4 (x.n.kids.map nmC),.str x.name,iv8 x.c.op,iv8 x.c.who,.str x.c.name,.rsl false false 4 (x.c.nums.map nmC),.rsl false false 5 (x.c.kids.map cnC),.rsl false false 14 (x.thn.map efC),.rsl false false 14 (x.els.map efC)]) rfl) ?_|refine Ya rfl ?_
   rw[show noNum x.n=false by simp at h2; simp[noNum,h2]] at hK;exact hK
  rw[h2];repeat first|refine Xa ?_|refine Zb ?_|refine Ya (Xf ..) ?_|refine Ya (Zg ..) ?_|refine Ya (ldr (row:=[iv8 x.op,iv8 x.who,iv8 x.n.op,iv x.n.n,iv8 x.n.who,.rsl false false 4 (x.n.kids.map nmC),.str x.name,iv8 x.c.op,iv8 x.c.who,.str x.c.name,.rsl false false 4 (x.c.nums.map nmC),.rsl false false 5 (x.c.kids.map cnC),.rsl false false 14 (x.thn.map efC),.rsl false false 14 (x.els.map efC)]) rfl) ?_|refine Ya rfl ?_
  rcases YBE (decide (x.n.who=0)) with h3|h3
  rotate_left
  ·rw[h3];repeat first|refine Xa ?_|refine Zb ?_|refine Yb rfl ?_|refine Zc rfl ?_|refine Xc rfl ?_|refine Xd rfl ?_|refine Ya (Xf ..) ?_|refine Ya (Zg ..) ?_|refine Ya (ldr (row:=[iv8 x.op,iv8 x.who,iv8 x.n.op,iv x.n.n,iv8 x.n.who,.rsl false false 4 (x.n.kids.map nmC),.str x.name,iv8 x.c.op,iv8 x.c.who,.str x.c.name,.rsl false false 4 (x.c.nums.map nmC),.rsl false false 5 (x.c.kids.map cnC),.rsl false false 14 (x.thn.map efC),.rsl false false 14 (x.els.map efC)]) rfl) ?_|refine Ya rfl ?_
   rw[show noNum x.n=false by simp at h3; simp[noNum,h3]] at hK;exact hK
  rw[h3];repeat first|refine Xa ?_|refine Zb ?_|refine Ya (Xf ..) ?_|refine Ya (Zg ..) ?_|refine Ya (ldr (row:=[iv8 x.op,iv8 x.who,iv8 x.n.op,iv x.n.n,iv8 x.n.who,.rsl false false 4 (x.n.kids.map nmC),.str x.name,iv8 x.c.op,iv8 x.c.who,.str x.c.name,.rsl false false 4 (x.c.nums.map nmC),.rsl false false 5 (x.c.kids.map cnC),.rsl false false 14 (x.thn.map efC),.rsl false false 14 (x.els.map efC)]) rfl) ?_|refine Ya rfl ?_
  have e:noNum x.n=decide (((x.n.kids.map nmC).length:Int)=0):=by
   rw[Bool.eq_iff_iff]; simp at h1 h2 h3; simp[noNum,h1,h2,h3]
  rw[e] at hK;exact hK
 refine r1 _ ?_;clear r1;repeat first|refine Ya (Xf ..) ?_|refine Ya (Zg ..) ?_|refine Ya (ldr (row:=[iv8 x.op,iv8 x.who,iv8 x.n.op,iv x.n.n,iv8 x.n.who,.rsl false false 4 (x.n.kids.map nmC),.str x.name,iv8 x.c.op,iv8 x.c.who,.str x.c.name,.rsl false false 4 (x.c.nums.map nmC),.rsl false false 5 (x.c.kids.map cnC),.rsl false false 14 (x.thn.map efC),.rsl false false 14 (x.els.map efC)]) rfl) ?_|refine Ya rfl ?_
 have r2:∀K:AVal→Prop,K (.bool (decide (x.op=7)||x.name==[]))→VV.gr (AVal.bool (decide (x.op=7))) false (λk=>VV.rd (Yh [(AVal.rptr [iv8 x.op,iv8 x.who,iv8 x.n.op,iv x.n.n,iv8 x.n.who,.rsl false false 4 (x.n.kids.map nmC),.str x.name,iv8 x.c.op,iv8 x.c.who,.str x.c.name,.rsl false false 4 (x.c.nums.map nmC),.rsl false false 5 (x.c.kids.map cnC),.rsl false false 14 (x.thn.map efC),.rsl false false 14 (x.els.map efC)] 0)] ([]:List ABlk)) k) λt51_40=>VV.gr (AVal.bool (decide (x.op=7))) false (λk=>VV.rd (Qa [t51_40] ([]:List ABlk)) k) λt52_41=>VV.gr (AVal.bool (decide (x.op=7))) false (λk=>VV.rd (Za 6 [t52_41] ([]:List ABlk)) k) λt53_42=>VV.gr (AVal.bool (decide (x.op=7))) false (λk=>VV.rd (Zd false 1 [t53_42] ([]:List ABlk)) k) λt54_43=>VV.gr (AVal.bool (decide (x.op=7))) false (λk=>VV.rd (Xh .eql false [t54_43,(.str [])] ([]:List ABlk)) k) λt55_44=>VV.rd (Ym [(AVal.bool (decide (x.op=7))),(.bool true),t55_44] ([]:List ABlk)) K:=by
  intro K hK;rcases YBE (decide (x.op=7)) with h0|h0
  ·rw[h0] at hK ⊢;repeat first|refine Xa ?_|refine Zb ?_|refine Yb rfl ?_|refine Zc rfl ?_|refine Xc rfl ?_|refine Xd rfl ?_|refine Ya (Xf ..) ?_|refine Ya (Zg ..) ?_|refine Ya (ldr (row:=[iv8 x.op,iv8 x.who,iv8 x.n.op,iv x.n.n,iv8 x.n.who,.rsl false false 4 (x.n.kids.map nmC),.str x.name,iv8 x.c.op,iv8 x.c.who,.str x.c.name,.rsl false false 4 (x.c.nums.map nmC),.rsl false false 5 (x.c.kids.map cnC),.rsl false false 14 (x.thn.map efC),.rsl false false 14 (x.els.map efC)]) rfl) ?_|refine Ya rfl ?_
   exact hK
  rw[h0,Bool.false_or] at hK;rw[h0];repeat first|refine Xa ?_|refine Zb ?_|refine Ya (Xf ..) ?_|refine Ya (Zg ..) ?_|refine Ya (ldr (row:=[iv8 x.op,iv8 x.who,iv8 x.n.op,iv x.n.n,iv8 x.n.who,.rsl false false 4 (x.n.kids.map nmC),.str x.name,iv8 x.c.op,iv8 x.c.who,.str x.c.name,.rsl false false 4 (x.c.nums.map nmC),.rsl false false 5 (x.c.kids.map cnC),.rsl false false 14 (x.thn.map efC),.rsl false false 14 (x.els.map efC)]) rfl) ?_|refine Ya rfl ?_
  exact hK
 refine r2 _ ?_;clear r2;repeat first|refine Ya (Xf ..) ?_|refine Ya (Zg ..) ?_|refine Ya (ldr (row:=[iv8 x.op,iv8 x.who,iv8 x.n.op,iv x.n.n,iv8 x.n.who,.rsl false false 4 (x.n.kids.map nmC),.str x.name,iv8 x.c.op,iv8 x.c.who,.str x.c.name,.rsl false false 4 (x.c.nums.map nmC),.rsl false false 5 (x.c.kids.map cnC),.rsl false false 14 (x.thn.map efC),.rsl false false 14 (x.els.map efC)]) rfl) ?_|refine Ya rfl ?_
 have r3:∀K:AVal→Prop,K (.bool (decide (x.op=8)||(decide (x.c.op=0)&&(decide (x.c.who=0)&&(x.c.name==[]&&decide (x.c.nums.length+x.c.kids.length+x.thn.length+x.els.length=0))))))→VV.gr (AVal.bool (decide (x.op=8))) false (λk=>VV.rd (Yh [(AVal.rptr [iv8 x.op,iv8 x.who,iv8 x.n.op,iv x.n.n,iv8 x.n.who,.rsl false false 4 (x.n.kids.map nmC),.str x.name,iv8 x.c.op,iv8 x.c.who,.str x.c.name,.rsl false false 4 (x.c.nums.map nmC),.rsl false false 5 (x.c.kids.map cnC),.rsl false false 14 (x.thn.map efC),.rsl false false 14 (x.els.map efC)] 7)] ([]:List ABlk)) k) λt66_52=>VV.gr (AVal.bool (decide (x.op=8))) false (λk=>VV.rd (Qa [t66_52] ([]:List ABlk)) k) λt67_53=>VV.gr (AVal.bool (decide (x.op=8))) false (λk=>VV.rd (Za 0 [t67_53] ([]:List ABlk)) k) λt68_54=>VV.gr (AVal.bool (decide (x.op=8))) false (λk=>VV.rd (Zd false 1 [t68_54] ([]:List ABlk)) k) λt69_55=>VV.gr (AVal.bool (decide (x.op=8))) false (λk=>VV.rd (Xh .eql false [t69_55,(.int .i8 0)] ([]:List ABlk)) k) λt70_56=>VV.gr (AVal.bool (decide (x.op=8))) false (λk=>VV.rd (Yh [t70_56] ([]:List ABlk)) k) λt71_57=>VV.gr t71_57 true (λk=>VV.rd (Yh [(AVal.rptr [iv8 x.op,iv8 x.who,iv8 x.n.op,iv x.n.n,iv8 x.n.who,.rsl false false 4 (x.n.kids.map nmC),.str x.name,iv8 x.c.op,iv8 x.c.who,.str x.c.name,.rsl false false 4 (x.c.nums.map nmC),.rsl false false 5 (x.c.kids.map cnC),.rsl false false 14 (x.thn.map efC),.rsl false false 14 (x.els.map efC)] 7)] ([]:List ABlk)) k) λt72_58=>VV.gr t71_57 true (λk=>VV.rd (Qa [t72_58] ([]:List ABlk)) k) λt73_59=>VV.gr t71_57 true (λk=>VV.rd (Za 1 [t73_59] ([]:List ABlk)) k) λt74_60=>VV.gr t71_57 true (λk=>VV.rd (Zd false 1 [t74_60] ([]:List ABlk)) k) λt75_61=>VV.gr t71_57 true (λk=>VV.rd (Xh .eql false [t75_61,(.int .i8 0)] ([]:List ABlk)) k) λt76_62=>VV.gr (AVal.bool (decide (x.op=8))) false (λk=>VV.rd (Ym [t71_57,t76_62,(.bool false)] ([]:List ABlk)) k) λt77_63=>VV.gr (AVal.bool (decide (x.op=8))) false (λk=>VV.rd (Yh [t77_63] ([]:List ABlk)) k) λt78_64=>VV.gr t78_64 true (λk=>VV.rd (Yh [(AVal.rptr [iv8 x.op,iv8 x.who,iv8 x.n.op,iv x.n.n,iv8 x.n.who,.rsl false false 4 (x.n.kids.map nmC),.str x.name,iv8 x.c.op,iv8 x.c.who,.str x.c.name,.rsl false false 4 (x.c.nums.map nmC),.rsl false false 5 (x.c.kids.map cnC),.rsl false false 14 (x.thn.map efC),.rsl false false 14 (x.els.map efC)] 7)] ([]:List ABlk)) k) λt79_65=>VV.gr t78_64 true (λk=>VV.rd (Qa [t79_65] ([]:List ABlk)) k) λt80_66=>VV.gr t78_64 true (λk=>VV.rd (Za 2 [t80_66] ([]:List ABlk)) k) λt81_67=>VV.gr t78_64 true (λk=>VV.rd (Zd false 1 [t81_67] ([]:List ABlk)) k) λt82_68=>VV.gr t78_64 true (λk=>VV.rd (Xh .eql false [t82_68,(.str [])] ([]:List ABlk)) k) λt83_69=>VV.gr (AVal.bool (decide (x.op=8))) false (λk=>VV.rd (Ym [t78_64,t83_69,(.bool false)] ([]:List ABlk)) k) λt84_70=>VV.gr (AVal.bool (decide (x.op=8))) false (λk=>VV.rd (Yh [t84_70] ([]:List ABlk)) k) λt85_71=>VV.gr t85_71 true (λk=>VV.rd (Yh [(AVal.rptr [iv8 x.op,iv8 x.who,iv8 x.n.op,iv x.n.n,iv8 x.n.who,.rsl false false 4 (x.n.kids.map nmC),.str x.name,iv8 x.c.op,iv8 x.c.who,.str x.c.name,.rsl false false 4 (x.c.nums.map nmC),.rsl false false 5 (x.c.kids.map cnC),.rsl false false 14 (x.thn.map efC),.rsl false false 14 (x.els.map efC)] 7)] ([]:List ABlk)) k) λt86_72=>VV.gr t85_71 true (λk=>VV.rd (Qa [t86_72] ([]:List ABlk)) k) λt87_73=>VV.gr t85_71 true (λk=>VV.rd (Za 3 [t87_73] ([]:List ABlk)) k) λt88_74=>VV.gr t85_71 true (λk=>VV.rd (Zd false 1 [t88_74] ([]:List ABlk)) k) λt89_75=>VV.gr t85_71 true (λk=>VV.rd (Xe [t89_75] ([]:List ABlk)) k) λt90_76=>VV.gr t85_71 true (λk=>VV.rd (Yh [(AVal.rptr [iv8 x.op,iv8 x.who,iv8 x.n.op,iv x.n.n,iv8 x.n.who,.rsl false false 4 (x.n.kids.map nmC),.str x.name,iv8 x.c.op,iv8 x.c.who,.str x.c.name,.rsl false false 4 (x.c.nums.map nmC),.rsl false false 5 (x.c.kids.map cnC),.rsl false false 14 (x.thn.map efC),.rsl false false 14 (x.els.map efC)] 7)] ([]:List ABlk)) k) λt91_77=>VV.gr t85_71 true (λk=>VV.rd (Qa [t91_77] ([]:List ABlk)) k) λt92_78=>VV.gr t85_71 true (λk=>VV.rd (Za 4 [t92_78] ([]:List ABlk)) k) λt93_79=>VV.gr t85_71 true (λk=>VV.rd (Zd false 1 [t93_79] ([]:List ABlk)) k) λt94_80=>VV.gr t85_71 true (λk=>VV.rd (Xe [t94_80] ([]:List ABlk)) k) λt95_81=>VV.gr t85_71 true (λk=>VV.rd (Xh .add false [t90_76,t95_81] ([]:List ABlk)) k) λt96_82=>VV.gr t85_71 true (λk=>VV.rd (Yh [(AVal.rptr [iv8 x.op,iv8 x.who,iv8 x.n.op,iv x.n.n,iv8 x.n.who,.rsl false false 4 (x.n.kids.map nmC),.str x.name,iv8 x.c.op,iv8 x.c.who,.str x.c.name,.rsl false false 4 (x.c.nums.map nmC),.rsl false false 5 (x.c.kids.map cnC),.rsl false false 14 (x.thn.map efC),.rsl false false 14 (x.els.map efC)] 0)] ([]:List ABlk)) k) λt97_83=>VV.gr t85_71 true (λk=>VV.rd (Qa [t97_83] ([]:List ABlk)) k) λt98_84=>VV.gr t85_71 true (λk=>VV.rd (Za 12 [t98_84] ([]:List ABlk)) k) λt99_85=>VV.gr t85_71 true (λk=>VV.rd (Zd false 1 [t99_85] ([]:List ABlk)) k) λt100_86=>VV.gr t85_71 true (λk=>VV.rd (Xe [t100_86] ([]:List ABlk)) k) λt101_87=>VV.gr t85_71 true (λk=>VV.rd (Xh .add false [t96_82,t101_87] ([]:List ABlk)) k) λt102_88=>VV.gr t85_71 true (λk=>VV.rd (Yh [(AVal.rptr [iv8 x.op,iv8 x.who,iv8 x.n.op,iv x.n.n,iv8 x.n.who,.rsl false false 4 (x.n.kids.map nmC),.str x.name,iv8 x.c.op,iv8 x.c.who,.str x.c.name,.rsl false false 4 (x.c.nums.map nmC),.rsl false false 5 (x.c.kids.map cnC),.rsl false false 14 (x.thn.map efC),.rsl false false 14 (x.els.map efC)] 0)] ([]:List ABlk)) k) λt103_89=>VV.gr t85_71 true (λk=>VV.rd (Qa [t103_89] ([]:List ABlk)) k) λt104_90=>VV.gr t85_71 true (λk=>VV.rd (Za 13 [t104_90] ([]:List ABlk)) k) λt105_91=>VV.gr t85_71 true (λk=>VV.rd (Zd false 1 [t105_91] ([]:List ABlk)) k) λt106_92=>VV.gr t85_71 true (λk=>VV.rd (Xe [t106_92] ([]:List ABlk)) k) λt107_93=>VV.gr t85_71 true (λk=>VV.rd (Xh .add false [t102_88,t107_93] ([]:List ABlk)) k) λt108_94=>VV.gr t85_71 true (λk=>VV.rd (Xh .eql false [t108_94,(.int .i64 0)] ([]:List ABlk)) k) λt109_95=>VV.gr (AVal.bool (decide (x.op=8))) false (λk=>VV.rd (Ym [t85_71,t109_95,(.bool false)] ([]:List ABlk)) k) λt110_96=>VV.rd (Ym [(AVal.bool (decide (x.op=8))),(.bool true),t110_96] ([]:List ABlk)) K:=by
  intro K hK;rcases YBE (decide (x.op=8)) with h0|h0
  ·rw[h0] at hK ⊢;repeat first|refine Xa ?_|refine Zb ?_|refine Yb rfl ?_|refine Zc rfl ?_|refine Xc rfl ?_|refine Xd rfl ?_|refine Ya (Xf ..) ?_|refine Ya (Zg ..) ?_|refine Ya (ldr (row:=[iv8 x.op,iv8 x.who,iv8 x.n.op,iv x.n.n,iv8 x.n.who,.rsl false false 4 (x.n.kids.map nmC),.str x.name,iv8 x.c.op,iv8 x.c.who,.str x.c.name,.rsl false false 4 (x.c.nums.map nmC),.rsl false false 5 (x.c.kids.map cnC),.rsl false false 14 (x.thn.map efC),.rsl false false 14 (x.els.map efC)]) rfl) ?_|refine Ya rfl ?_
   exact hK
  rw[h0,Bool.false_or] at hK;rw[h0];repeat first|refine Xa ?_|refine Zb ?_|refine Ya (Xf ..) ?_|refine Ya (Zg ..) ?_|refine Ya (ldr (row:=[iv8 x.op,iv8 x.who,iv8 x.n.op,iv x.n.n,iv8 x.n.who,.rsl false false 4 (x.n.kids.map nmC),.str x.name,iv8 x.c.op,iv8 x.c.who,.str x.c.name,.rsl false false 4 (x.c.nums.map nmC),.rsl false false 5 (x.c.kids.map cnC),.rsl false false 14 (x.thn.map efC),.rsl false false 14 (x.els.map efC)]) rfl) ?_|refine Ya rfl ?_
  rcases YBE (decide (x.c.op=0)) with h1|h1
  rotate_left
  ·rw[h1];repeat first|refine Xa ?_|refine Zb ?_|refine Yb rfl ?_|refine Zc rfl ?_|refine Xc rfl ?_|refine Xd rfl ?_|refine Ya (Xf ..) ?_|refine Ya (Zg ..) ?_|refine Ya (ldr (row:=[iv8 x.op,iv8 x.who,iv8 x.n.op,iv x.n.n,iv8 x.n.who,.rsl false false 4 (x.n.kids.map nmC),.str x.name,iv8 x.c.op,iv8 x.c.who,.str x.c.name,.rsl false false 4 (x.c.nums.map nmC),.rsl false false 5 (x.c.kids.map cnC),.rsl false false 14 (x.thn.map efC),.rsl false false 14 (x.els.map efC)]) rfl) ?_|refine Ya rfl ?_
   rw[h1] at hK;exact hK
  rw[h1];repeat first|refine Xa ?_|refine Zb ?_|refine Ya (Xf ..) ?_|refine Ya (Zg ..) ?_|refine Ya (ldr (row:=[iv8 x.op,iv8 x.who,iv8 x.n.op,iv x.n.n,iv8 x.n.who,.rsl false false 4 (x.n.kids.map nmC),.str x.name,iv8 x.c.op,iv8 x.c.who,.str x.c.name,.rsl false false 4 (x.c.nums.map nmC),.rsl false false 5 (x.c.kids.map cnC),.rsl false false 14 (x.thn.map efC),.rsl false false 14 (x.els.map efC)]) rfl) ?_|refine Ya rfl ?_
  rcases YBE (decide (x.c.who=0)) with h2|h2
  rotate_left
  ·rw[h2];repeat first|refine Xa ?_|refine Zb ?_|refine Yb rfl ?_|refine Zc rfl ?_|refine Xc rfl ?_|refine Xd rfl ?_|refine Ya (Xf ..) ?_|refine Ya (Zg ..) ?_|refine Ya (ldr (row:=[iv8 x.op,iv8 x.who,iv8 x.n.op,iv x.n.n,iv8 x.n.who,.rsl false false 4 (x.n.kids.map nmC),.str x.name,iv8 x.c.op,iv8 x.c.who,.str x.c.name,.rsl false false 4 (x.c.nums.map nmC),.rsl false false 5 (x.c.kids.map cnC),.rsl false false 14 (x.thn.map efC),.rsl false false 14 (x.els.map efC)]) rfl) ?_|refine Ya rfl ?_
   rw[h1,h2] at hK;exact hK
  rw[h2];repeat first|refine Xa ?_|refine Zb ?_|refine Ya (Xf ..) ?_|refine Ya (Zg ..) ?_|refine Ya (ldr (row:=[iv8 x.op,iv8 x.who,iv8 x.n.op,iv x.n.n,iv8 x.n.who,.rsl false false 4 (x.n.kids.map nmC),.str x.name,iv8 x.c.op,iv8 x.c.who,.str x.c.name,.rsl false false 4 (x.c.nums.map nmC),.rsl false false 5 (x.c.kids.map cnC),.rsl false false 14 (x.thn.map efC),.rsl false false 14 (x.els.map efC)]) rfl) ?_|refine Ya rfl ?_
  rcases YBE (x.c.name==[]) with h3|h3
  rotate_left
  ·rw[h3];repeat first|refine Xa ?_|refine Zb ?_|refine Yb rfl ?_|refine Zc rfl ?_|refine Xc rfl ?_|refine Xd rfl ?_|refine Ya (Xf ..) ?_|refine Ya (Zg ..) ?_|refine Ya (ldr (row:=[iv8 x.op,iv8 x.who,iv8 x.n.op,iv x.n.n,iv8 x.n.who,.rsl false false 4 (x.n.kids.map nmC),.str x.name,iv8 x.c.op,iv8 x.c.who,.str x.c.name,.rsl false false 4 (x.c.nums.map nmC),.rsl false false 5 (x.c.kids.map cnC),.rsl false false 14 (x.thn.map efC),.rsl false false 14 (x.els.map efC)]) rfl) ?_|refine Ya rfl ?_
   rw[h1,h2,h3] at hK;exact hK
  rw[h3];repeat first|refine Xa ?_|refine Zb ?_|refine Ya (Xf ..) ?_|refine Ya (Zg ..) ?_|refine Ya (ldr (row:=[iv8 x.op,iv8 x.who,iv8 x.n.op,iv x.n.n,iv8 x.n.who,.rsl false false 4 (x.n.kids.map nmC),.str x.name,iv8 x.c.op,iv8 x.c.who,.str x.c.name,.rsl false false 4 (x.c.nums.map nmC),.rsl false false 5 (x.c.kids.map cnC),.rsl false false 14 (x.thn.map efC),.rsl false false 14 (x.els.map efC)]) rfl) ?_|refine Ya rfl ?_
  rw[h1,h2,h3,Bool.true_and,Bool.true_and,Bool.true_and] at hK;rw[List.length_map,List.length_map,List.length_map,List.length_map,wrapI (n:=(x.c.nums.length:Int)+x.c.kids.length) (by omega) (by omega),wrapI (n:=(x.c.nums.length:Int)+x.c.kids.length+x.thn.length) (by omega) (by omega),wrapI (n:=(x.c.nums.length:Int)+x.c.kids.length+x.thn.length+x.els.length) (by omega) (by omega)];rw[show decide ((x.c.nums.length:Int)+x.c.kids.length+x.thn.length+x.els.length=0)=decide (x.c.nums.length+x.c.kids.length+x.thn.length+x.els.length=0) by rw[Bool.eq_iff_iff,decide_eq_true_eq,decide_eq_true_eq]; omega];exact hK
 refine r3 _ ?_;clear r3;unfold zeroB;generalize (cntOp x.op||noNum x.n)=b1;generalize (decide (x.op=7)||x.name==[])=b2;generalize (decide (x.op=8)||(decide (x.c.op=0)&&(decide (x.c.who=0)&&(x.c.name==[]&&decide (x.c.nums.length+x.c.kids.length+x.thn.length+x.els.length=0)))))=b3;cases b1<;>cases b2
 all_goals (repeat (first|refine Xa ?_|refine Zb ?_|refine Yb rfl ?_|refine Zc rfl ?_|refine Xc rfl ?_|refine Xd rfl ?_|refine Ya (Xf ..) ?_|refine Ya (Zg ..) ?_|refine Ya (ldr (row:=[iv8 x.op,iv8 x.who,iv8 x.n.op,iv x.n.n,iv8 x.n.who,.rsl false false 4 (x.n.kids.map nmC),.str x.name,iv8 x.c.op,iv8 x.c.who,.str x.c.name,.rsl false false 4 (x.c.nums.map nmC),.rsl false false 5 (x.c.kids.map cnC),.rsl false false 14 (x.thn.map efC),.rsl false false 14 (x.els.map efC)]) rfl) ?_|refine Ya rfl ?_))
 all_goals rfl
end Go.Ah.Tz
end
section
namespace Go.Ah.Tz
open Go.Proofs.Tryz (prog)
def efArm(cs:List Cd)(t:Bool)(d:Int)(x:Ef):Bool:=
 if x.op=0∨x.op=1 then sdOp x.who||(decide (x.who=2)&&t)
 else if x.op=2∨x.op=4∨x.op=6 then sdOp x.who
 else if x.op=3∨x.op=5 then decide (x.who=0)
 else if x.op=7 then decide (x.who=0)&&findC cs x.name true
 else if x.op=8 then decide (x.who=0)&&(cnOk cs t x.c&&(lstOk cs t (d+1) x.thn&&lstOk cs t (d+1) x.els))
 else false
theorem Yb0(x:Ef):(decide (x.c.op=0)&&(decide (x.c.who=0)&&(x.c.name==[]&&decide (x.c.nums.length+x.c.kids.length+x.thn.length+x.els.length=0))))=(noCond x.c&&(decide (x.thn.length=0)&&decide (x.els.length=0))):=by
 have e:decide (x.c.nums.length+x.c.kids.length+x.thn.length+x.els.length=0)=(decide (x.c.nums.length=0)&&(decide (x.c.kids.length=0)&&(decide (x.thn.length=0)&&decide (x.els.length=0)))):=by
  rw[Bool.eq_iff_iff];simp only[Bool.and_eq_true,decide_eq_true_eq]; omega
 rw[e,noCond];simp only[Bool.and_assoc]
theorem QcH(cs:List Cd)(t:Bool)(d:Int)(x:Ef):efOk cs t d x=((zeroB x&&(!cntOp x.op||nmOk t x.n))&&efArm cs t d x):=by
 rw[ZbW,zeroB,Yb0];by_cases hr:0≤x.op∧x.op≤8;rotate_left
 ·have:efArm cs t d x=false:=by
   rw[efArm,if_neg (by omega),if_neg (by omega),if_neg (by omega),if_neg (by omega),if_neg (by omega)]
  rw[this,Bool.and_false,Bool.eq_false_iff];intro h; simp only[Bool.and_eq_true,decide_eq_true_eq] at h; exact hr ⟨h.1,h.2.1⟩
 obtain⟨r1,r2⟩:=hr;rw[decide_eq_true r1,decide_eq_true r2,Bool.true_and,Bool.true_and];generalize noCond x.c=b1;generalize decide (x.thn.length=0)=b2;generalize decide (x.els.length=0)=b3;generalize noNum x.n=b4;generalize nmOk t x.n=b5;generalize (x.name==[])=b6;unfold efArm efEnd efMid;generalize lstOk cs t (d+1) x.thn=b7;generalize lstOk cs t (d+1) x.els=b8;generalize cnOk cs t x.c=b9;generalize findC cs x.name true=b10;generalize sdOp x.who=b11;generalize decide (x.who=0)=b12;generalize decide (x.who=2)=b13;have h:x.op=0∨x.op=1∨x.op=2∨x.op=3∨x.op=4∨x.op=5∨x.op=6∨x.op=7∨x.op=8:=by omega
 generalize x.op=op at h;clear r1 r2;rcases h with h|h|h|h|h|h|h|h|h<;>subst h<;>simp[cntOp]<;>cases b1<;>cases b2<;>cases b3<;>cases b4<;>cases b5<;>cases b6<;>simp<;>cases b12<;>simp
attribute [local irreducible] Ans.rd Ans.pu Ans.wr Ans.dr Ans.gr Ans.gw Ans.gl Ans.gd Ans.opt joinK W
set_option maxHeartbeats 4000000
theorem XcH(x:Ef):NmAt (efC x) (0+2) x.n:=nmAt2 x
theorem YcH(x:Ef):CnAt (efC x) (0+7) x.c:=cnAt7 x
theorem c157'(m:List (Tx×Bool))(cs:List Cd)(hU:Units m cs)(t:Bool):∀(k:Nat) (l:List Ef) (d:Int),SizeOf.sizeOf l≤k→lsFit l=true→0≤d→PC 157 [.rptr (chkM m t) 0,efV l,iv d] (.bool (lstOk cs t d l))
 |0,l,_,h,_,_=>by cases l<;>simp at h
 |k+1,l,d,hk,hf,hd=>by
  refine Qd hP g157_ok rfl rfl ?_;unfold g157;have hlen:=Zz hf;rw[bigE] at hlen;refine Ya rfl (Ya rfl ?_);refine YB rfl rfl ?_;refine Yc (λh=>?_) (λh=>?_)
  ·have h:¬(l.length≤16∧d≤8):=by simp at h; omega
   rw[lstOk];rcases Decidable.not_and_iff_or_not.1 h with h|h<;>simp[h]
  have h:l.length≤16∧d≤8:=by simp at h; omega
  have hl:lstOk cs t d l=efsOk cs t d l:=by simp[lstOk,h]
  rw[hl];clear hl;refine Ya rfl ?_;refine Yj (ι:=Nat) (λi vs σ=>vs=[iv i]∧σ=[]∧i≤l.length∧efsOk cs t d l=efsOk cs t d (l.drop i)) (λi=>l.length-i) 0 ⟨rfl,rfl,by omega,by simp⟩ ?_;rintro i vs σ again ⟨rfl,rfl,hi,hu⟩ hag;refine Ya rfl ?_;refine Yc (λh=>?_) (λh=>?_);rotate_left
  ·have h:i=l.length:=by simp at h; omega
   subst h;rw[List.drop_length,efsOk] at hu;rw[hu]
  have hil:i<l.length:=by simpa using h
  have hdr:l.drop i=l[i]::l.drop (i+1):=by rw[YLD hil]
  rw[hdr,efsOk] at hu;have hm:l[i]∈l:=List.getElem_mem hil;have hsz:=List.sizeOf_lt_of_mem hm;have hfx:=QK hf hm;have ix:=λ(s:List ABlk)=>Yo s efC false false 14 l .i64 i hil;generalize l[i]=x at hu hsz hfx ix;have hs2:=XU x;rename_i hd8;obtain⟨h16,h8⟩:=hd8;have go:∀c,c=efOk cs t d x→VV.rd (Xo .not [.bool c] []) λt152=>VV.test t152 (AVal.bool false=AVal.bool (efsOk cs t d l)) (VV.rd (Xh .add false [iv i,(.int .i64 1)] []) λt153=>again [t153] []):=by
   rintro c hc;refine Ya rfl ?_;rw[←hc] at hu;refine Yc (λh=>?_) (λh=>?_)
   ·have h:c=false:=by simpa using h
    rw[hu,h]; rfl
   ·have h:c=true:=by simpa using h
    rw[h,Bool.true_and] at hu;refine Ya (Yk ..) ?_;rw[Qf (n:=i) (by omega)];exact hag (i+1) _ _ (by omega) ⟨rfl,rfl,by omega,hu⟩
  have stop:efOk cs t d x=false→AVal.bool false=AVal.bool (efsOk cs t d l):=by
   intro he; rw[hu,he]; rfl
  clear hag hu;rw[QcH] at stop go;refine Ya (ix _) ?_;refine Yd (c209 x hfx) rfl g209_ok.plain rfl ?_;have r1:∀K:AVal→List ABlk→Prop,K (.bool (zeroB x&&(!cntOp x.op||nmOk t x.n))) []→VV.gr (AVal.bool (zeroB x)) true (λk=>VV.rd (Yh [(AVal.rptr (efC x) 0)] []) k) λt28_11=>VV.gr (AVal.bool (zeroB x)) true (λk=>VV.rd (Qa [t28_11] []) k) λt29_12=>VV.gr (AVal.bool (zeroB x)) true (λk=>VV.rd (Za 0 [t29_12] []) k) λt30_13=>VV.gr (AVal.bool (zeroB x)) true (λk=>VV.rd (Zd false 1 [t30_13] []) k) λt31_14=>VV.gw (AVal.bool (zeroB x)) true (λk=>VV.call (.call 210) [t31_14] [] k) ([]:List ABlk) λt32_15 σ=>VV.gr (AVal.bool (zeroB x)) true (λk=>VV.rd (Xo .not [t32_15] σ) k) λt33_16=>VV.gr (AVal.bool (zeroB x)) true (λk=>VV.rd (Yh [t33_16] σ) k) λt34_17=>VV.gr t34_17 false (λk=>VV.rd (Yh [(AVal.rptr (chkM m t) 0)] σ) k) λt35_18=>VV.gr t34_17 false (λk=>VV.rd (Yh [(AVal.rptr (efC x) 0)] σ) k) λt36_19=>VV.gr t34_17 false (λk=>VV.rd (Qa [t36_19] σ) k) λt37_20=>VV.gr t34_17 false (λk=>VV.rd (Za 2 [t37_20] σ) k) λt38_21=>VV.gw t34_17 false (λk=>VV.call (.call 211) [t35_18,t38_21] σ k) σ λt39_22 σ=>VV.gr (AVal.bool (zeroB x)) true (λk=>VV.rd (Ym [t34_17,(.bool true),t39_22] σ) k) λt40_23=>VV.rd (Ym [(AVal.bool (zeroB x)),t40_23,(.bool false)] σ) (λv=>K v σ):=by
   intro K hK;rcases YBE (zeroB x) with h|h
   rotate_left
   ·rw[h] at hK ⊢;repeat first|refine Xa ?_|refine Zb ?_|refine Yb rfl ?_|refine Zc rfl ?_|refine Xc rfl ?_|refine Xd rfl ?_|refine Ya (ldr (efLd0 x)) ?_|refine Ya (ldr (efLd1 x)) ?_|refine Ya (ldr (efLd6 x)) ?_|refine Ya (ldr (Qp x)) ?_|refine Ya (ldr (Zq x)) ?_|refine Ya (Xf ..) ?_|refine Ya (Zg ..) ?_|refine Ya (ldr (row:=chkM m t) rfl) ?_|refine Ya (Xl ..) ?_|refine Ya rfl ?_
    exact hK
   rw[h,Bool.true_and] at hK;rw[h];repeat first|refine Xa ?_|refine Zb ?_|refine Ya (ldr (efLd0 x)) ?_|refine Ya (ldr (efLd1 x)) ?_|refine Ya (ldr (efLd6 x)) ?_|refine Ya (ldr (Qp x)) ?_|refine Ya (ldr (Zq x)) ?_|refine Ya (Xf ..) ?_|refine Ya (Zg ..) ?_|refine Ya (ldr (row:=chkM m t) rfl) ?_|refine Ya (Xl ..) ?_|refine Ya rfl ?_
   refine Yd (c210 _) rfl g210_ok.plain rfl ?_;repeat first|refine Xa ?_|refine Zb ?_|refine Ya (ldr (efLd0 x)) ?_|refine Ya (ldr (efLd1 x)) ?_|refine Ya (ldr (efLd6 x)) ?_|refine Ya (ldr (Qp x)) ?_|refine Ya (ldr (Zq x)) ?_|refine Ya (Xf ..) ?_|refine Ya (Zg ..) ?_|refine Ya (ldr (row:=chkM m t) rfl) ?_|refine Ya (Xl ..) ?_|refine Ya rfl ?_
   rcases YBE (!cntOp x.op) with h2|h2
   ·rw[h2] at hK ⊢;repeat first|refine Xa ?_|refine Zb ?_|refine Yb rfl ?_|refine Zc rfl ?_|refine Xc rfl ?_|refine Xd rfl ?_|refine Ya (ldr (efLd0 x)) ?_|refine Ya (ldr (efLd1 x)) ?_|refine Ya (ldr (efLd6 x)) ?_|refine Ya (ldr (Qp x)) ?_|refine Ya (ldr (Zq x)) ?_|refine Ya (Xf ..) ?_|refine Ya (Zg ..) ?_|refine Ya (ldr (row:=chkM m t) rfl) ?_|refine Ya (Xl ..) ?_|refine Ya rfl ?_
    exact hK
   rw[h2,Bool.false_or] at hK;rw[h2];repeat first|refine Xa ?_|refine Zb ?_|refine Ya (ldr (efLd0 x)) ?_|refine Ya (ldr (efLd1 x)) ?_|refine Ya (ldr (efLd6 x)) ?_|refine Ya (ldr (Qp x)) ?_|refine Ya (ldr (Zq x)) ?_|refine Ya (Xf ..) ?_|refine Ya (Zg ..) ?_|refine Ya (ldr (row:=chkM m t) rfl) ?_|refine Ya (Xl ..) ?_|refine Ya rfl ?_
   refine Yd (c211 _ t x.n _ _ (XcH x) (Z0 hfx)) rfl g211_ok.plain rfl ?_;repeat first|refine Xa ?_|refine Zb ?_|refine Ya (ldr (efLd0 x)) ?_|refine Ya (ldr (efLd1 x)) ?_|refine Ya (ldr (efLd6 x)) ?_|refine Ya (ldr (Qp x)) ?_|refine Ya (ldr (Zq x)) ?_|refine Ya (Xf ..) ?_|refine Ya (Zg ..) ?_|refine Ya (ldr (row:=chkM m t) rfl) ?_|refine Ya (Xl ..) ?_|refine Ya rfl ?_
   exact hK
  refine r1 _ ?_;clear r1;generalize (zeroB x&&(!cntOp x.op||nmOk t x.n))=z at go stop ⊢;repeat first|refine Ya (ldr (efLd0 x)) ?_|refine Ya (ldr (efLd1 x)) ?_|refine Ya (ldr (efLd6 x)) ?_|refine Ya (ldr (Qp x)) ?_|refine Ya (ldr (Zq x)) ?_|refine Ya (Xf ..) ?_|refine Ya (Zg ..) ?_|refine Ya (ldr (row:=chkM m t) rfl) ?_|refine Ya (Xl ..) ?_|refine Ya rfl ?_
  refine Xn λk28 hk28=>?_;have kk:∀c,c=(z&&efArm cs t d x)→k28 [.bool c] []:=by
   rintro c hc;rw[hk28];exact go c hc
  clear hk28 go;repeat first|refine Ya (ldr (efLd0 x)) ?_|refine Ya (ldr (efLd1 x)) ?_|refine Ya (ldr (efLd6 x)) ?_|refine Ya (ldr (Qp x)) ?_|refine Ya (ldr (Zq x)) ?_|refine Ya (Xf ..) ?_|refine Ya (Zg ..) ?_|refine Ya (ldr (row:=chkM m t) rfl) ?_|refine Ya (Xl ..) ?_|refine Ya rfl ?_
  refine Xn λk1 hk1=>?_;have m1:∀c,c=decide (x.op=0∨x.op=1)→k1 [.bool c] []:=by
   rintro c hc;rw[hk1]; clear hk1 k1;refine Yc (λh=>?_) (λh=>?_)
   ·rw[h] at hc;have a1:x.op=0∨x.op=1:=by simpa using hc.symm
    have e:efArm cs t d x=(sdOp x.who||(decide (x.who=2)&&t)):=by rw[efArm,if_pos a1]
    rw[e] at kk;cases z with
    |false=>
     repeat first|refine Xa ?_|refine Zb ?_|refine Yb rfl ?_|refine Zc rfl ?_|refine Xc rfl ?_|refine Xd rfl ?_|refine Ya (ldr (efLd0 x)) ?_|refine Ya (ldr (efLd1 x)) ?_|refine Ya (ldr (efLd6 x)) ?_|refine Ya (ldr (Qp x)) ?_|refine Ya (ldr (Zq x)) ?_|refine Ya (Xf ..) ?_|refine Ya (Zg ..) ?_|refine Ya (ldr (row:=chkM m t) rfl) ?_|refine Ya (Xl ..) ?_|refine Ya rfl ?_
     exact kk _ rfl
    |true=>
     repeat first|refine Xa ?_|refine Zb ?_|refine Ya (ldr (efLd0 x)) ?_|refine Ya (ldr (efLd1 x)) ?_|refine Ya (ldr (efLd6 x)) ?_|refine Ya (ldr (Qp x)) ?_|refine Ya (ldr (Zq x)) ?_|refine Ya (Xf ..) ?_|refine Ya (Zg ..) ?_|refine Ya (ldr (row:=chkM m t) rfl) ?_|refine Ya (Xl ..) ?_|refine Ya rfl ?_
     refine Yd (c212 _) rfl g212_ok.plain rfl ?_;repeat first|refine Xa ?_|refine Zb ?_|refine Ya (ldr (efLd0 x)) ?_|refine Ya (ldr (efLd1 x)) ?_|refine Ya (ldr (efLd6 x)) ?_|refine Ya (ldr (Qp x)) ?_|refine Ya (ldr (Zq x)) ?_|refine Ya (Xf ..) ?_|refine Ya (Zg ..) ?_|refine Ya (ldr (row:=chkM m t) rfl) ?_|refine Ya (Xl ..) ?_|refine Ya rfl ?_
     rcases YBE (sdOp x.who) with h2|h2
     ·rw[h2] at kk ⊢;repeat first|refine Xa ?_|refine Zb ?_|refine Yb rfl ?_|refine Zc rfl ?_|refine Xc rfl ?_|refine Xd rfl ?_|refine Ya (ldr (efLd0 x)) ?_|refine Ya (ldr (efLd1 x)) ?_|refine Ya (ldr (efLd6 x)) ?_|refine Ya (ldr (Qp x)) ?_|refine Ya (ldr (Zq x)) ?_|refine Ya (Xf ..) ?_|refine Ya (Zg ..) ?_|refine Ya (ldr (row:=chkM m t) rfl) ?_|refine Ya (Xl ..) ?_|refine Ya rfl ?_
      exact kk _ rfl
     rw[h2] at kk ⊢;repeat first|refine Xa ?_|refine Zb ?_|refine Ya (ldr (efLd0 x)) ?_|refine Ya (ldr (efLd1 x)) ?_|refine Ya (ldr (efLd6 x)) ?_|refine Ya (ldr (Qp x)) ?_|refine Ya (ldr (Zq x)) ?_|refine Ya (Xf ..) ?_|refine Ya (Zg ..) ?_|refine Ya (ldr (row:=chkM m t) rfl) ?_|refine Ya (Xl ..) ?_|refine Ya rfl ?_
     rcases YBE (decide (x.who=2)) with h3|h3
     ·rw[h3] at kk ⊢;repeat first|refine Xa ?_|refine Zb ?_|refine Ya (ldr (efLd0 x)) ?_|refine Ya (ldr (efLd1 x)) ?_|refine Ya (ldr (efLd6 x)) ?_|refine Ya (ldr (Qp x)) ?_|refine Ya (ldr (Zq x)) ?_|refine Ya (Xf ..) ?_|refine Ya (Zg ..) ?_|refine Ya (ldr (row:=chkM m t) rfl) ?_|refine Ya (Xl ..) ?_|refine Ya rfl ?_
      exact kk _ (by simp)
     rw[h3] at kk ⊢;repeat first|refine Xa ?_|refine Zb ?_|refine Yb rfl ?_|refine Zc rfl ?_|refine Xc rfl ?_|refine Xd rfl ?_|refine Ya (ldr (efLd0 x)) ?_|refine Ya (ldr (efLd1 x)) ?_|refine Ya (ldr (efLd6 x)) ?_|refine Ya (ldr (Qp x)) ?_|refine Ya (ldr (Zq x)) ?_|refine Ya (Xf ..) ?_|refine Ya (Zg ..) ?_|refine Ya (ldr (row:=chkM m t) rfl) ?_|refine Ya (Xl ..) ?_|refine Ya rfl ?_
     exact kk _ (by simp)
   rw[h] at hc;have a1:¬(x.op=0∨x.op=1):=by simpa using hc.symm
   repeat first|refine Ya (ldr (efLd0 x)) ?_|refine Ya (ldr (efLd1 x)) ?_|refine Ya (ldr (efLd6 x)) ?_|refine Ya (ldr (Qp x)) ?_|refine Ya (ldr (Zq x)) ?_|refine Ya (Xf ..) ?_|refine Ya (Zg ..) ?_|refine Ya (ldr (row:=chkM m t) rfl) ?_|refine Ya (Xl ..) ?_|refine Ya rfl ?_
   refine Xn λk1 hk1=>?_;have m2:∀c,c=decide (x.op=2∨x.op=4∨x.op=6)→k1 [.bool c] []:=by
    rintro c hc;rw[hk1]; clear hk1 k1;refine Yc (λh=>?_) (λh=>?_)
    ·rw[h] at hc;have a2:x.op=2∨x.op=4∨x.op=6:=by simpa using hc.symm
     have e:efArm cs t d x=sdOp x.who:=by rw[efArm,if_neg a1,if_pos a2]
     rw[e] at kk;cases z with
     |false=>
      repeat first|refine Xa ?_|refine Zb ?_|refine Yb rfl ?_|refine Zc rfl ?_|refine Xc rfl ?_|refine Xd rfl ?_|refine Ya (ldr (efLd0 x)) ?_|refine Ya (ldr (efLd1 x)) ?_|refine Ya (ldr (efLd6 x)) ?_|refine Ya (ldr (Qp x)) ?_|refine Ya (ldr (Zq x)) ?_|refine Ya (Xf ..) ?_|refine Ya (Zg ..) ?_|refine Ya (ldr (row:=chkM m t) rfl) ?_|refine Ya (Xl ..) ?_|refine Ya rfl ?_
      exact kk _ rfl
     |true=>
      repeat first|refine Xa ?_|refine Zb ?_|refine Ya (ldr (efLd0 x)) ?_|refine Ya (ldr (efLd1 x)) ?_|refine Ya (ldr (efLd6 x)) ?_|refine Ya (ldr (Qp x)) ?_|refine Ya (ldr (Zq x)) ?_|refine Ya (Xf ..) ?_|refine Ya (Zg ..) ?_|refine Ya (ldr (row:=chkM m t) rfl) ?_|refine Ya (Xl ..) ?_|refine Ya rfl ?_
      refine Yd (c212 _) rfl g212_ok.plain rfl ?_;repeat first|refine Xa ?_|refine Zb ?_|refine Ya (ldr (efLd0 x)) ?_|refine Ya (ldr (efLd1 x)) ?_|refine Ya (ldr (efLd6 x)) ?_|refine Ya (ldr (Qp x)) ?_|refine Ya (ldr (Zq x)) ?_|refine Ya (Xf ..) ?_|refine Ya (Zg ..) ?_|refine Ya (ldr (row:=chkM m t) rfl) ?_|refine Ya (Xl ..) ?_|refine Ya rfl ?_
      exact kk _ (by simp)
    rw[h] at hc;have a2:¬(x.op=2∨x.op=4∨x.op=6):=by simpa using hc.symm
    repeat first|refine Ya (ldr (efLd0 x)) ?_|refine Ya (ldr (efLd1 x)) ?_|refine Ya (ldr (efLd6 x)) ?_|refine Ya (ldr (Qp x)) ?_|refine Ya (ldr (Zq x)) ?_|refine Ya (Xf ..) ?_|refine Ya (Zg ..) ?_|refine Ya (ldr (row:=chkM m t) rfl) ?_|refine Ya (Xl ..) ?_|refine Ya rfl ?_
    refine Xn λk1 hk1=>?_;have m3:∀c,c=decide (x.op=3∨x.op=5)→k1 [.bool c] []:=by
     rintro c hc;rw[hk1]; clear hk1 k1;refine Yc (λh=>?_) (λh=>?_)
     ·rw[h] at hc;have a3:x.op=3∨x.op=5:=by simpa using hc.symm
      have e:efArm cs t d x=decide (x.who=0):=by rw[efArm,if_neg a1,if_neg a2,if_pos a3]
      rw[e] at kk;cases z with
      |false=>
       repeat first|refine Xa ?_|refine Zb ?_|refine Yb rfl ?_|refine Zc rfl ?_|refine Xc rfl ?_|refine Xd rfl ?_|refine Ya (ldr (efLd0 x)) ?_|refine Ya (ldr (efLd1 x)) ?_|refine Ya (ldr (efLd6 x)) ?_|refine Ya (ldr (Qp x)) ?_|refine Ya (ldr (Zq x)) ?_|refine Ya (Xf ..) ?_|refine Ya (Zg ..) ?_|refine Ya (ldr (row:=chkM m t) rfl) ?_|refine Ya (Xl ..) ?_|refine Ya rfl ?_
       exact kk _ rfl
      |true=>
       repeat first|refine Xa ?_|refine Zb ?_|refine Ya (ldr (efLd0 x)) ?_|refine Ya (ldr (efLd1 x)) ?_|refine Ya (ldr (efLd6 x)) ?_|refine Ya (ldr (Qp x)) ?_|refine Ya (ldr (Zq x)) ?_|refine Ya (Xf ..) ?_|refine Ya (Zg ..) ?_|refine Ya (ldr (row:=chkM m t) rfl) ?_|refine Ya (Xl ..) ?_|refine Ya rfl ?_
       exact kk _ (by simp)
     rw[h] at hc;have a3:¬(x.op=3∨x.op=5):=by simpa using hc.symm
     repeat first|refine Ya (ldr (efLd0 x)) ?_|refine Ya (ldr (efLd1 x)) ?_|refine Ya (ldr (efLd6 x)) ?_|refine Ya (ldr (Qp x)) ?_|refine Ya (ldr (Zq x)) ?_|refine Ya (Xf ..) ?_|refine Ya (Zg ..) ?_|refine Ya (ldr (row:=chkM m t) rfl) ?_|refine Ya (Xl ..) ?_|refine Ya rfl ?_
     refine Yc (λa7=>?_) (λa7=>?_)
     ·have a7:x.op=7:=by simpa using a7
      have e:efArm cs t d x=(decide (x.who=0)&&(tlook x.name m).getD false):=by
       rw[efArm,if_neg a1,if_neg a2,if_neg a3,if_pos a7,hU];cases tlook x.name m<;>simp
      rw[e] at kk;cases z with
      |false=>
       repeat first|refine Xa ?_|refine Zb ?_|refine Yb rfl ?_|refine Zc rfl ?_|refine Xc rfl ?_|refine Xd rfl ?_|refine Ya (ldr (efLd0 x)) ?_|refine Ya (ldr (efLd1 x)) ?_|refine Ya (ldr (efLd6 x)) ?_|refine Ya (ldr (Qp x)) ?_|refine Ya (ldr (Zq x)) ?_|refine Ya (Xf ..) ?_|refine Ya (Zg ..) ?_|refine Ya (ldr (row:=chkM m t) rfl) ?_|refine Ya (Xl ..) ?_|refine Ya rfl ?_
       exact kk _ rfl
      |true=>
       repeat first|refine Xa ?_|refine Zb ?_|refine Ya (ldr (efLd0 x)) ?_|refine Ya (ldr (efLd1 x)) ?_|refine Ya (ldr (efLd6 x)) ?_|refine Ya (ldr (Qp x)) ?_|refine Ya (ldr (Zq x)) ?_|refine Ya (Xf ..) ?_|refine Ya (Zg ..) ?_|refine Ya (ldr (row:=chkM m t) rfl) ?_|refine Ya (Xl ..) ?_|refine Ya rfl ?_
       rcases YBE (decide (x.who=0)) with h3|h3
       ·rw[h3] at kk ⊢;repeat first|refine Xa ?_|refine Zb ?_|refine Ya (ldr (efLd0 x)) ?_|refine Ya (ldr (efLd1 x)) ?_|refine Ya (ldr (efLd6 x)) ?_|refine Ya (ldr (Qp x)) ?_|refine Ya (ldr (Zq x)) ?_|refine Ya (Xf ..) ?_|refine Ya (Zg ..) ?_|refine Ya (ldr (row:=chkM m t) rfl) ?_|refine Ya (Xl ..) ?_|refine Ya rfl ?_
        exact kk _ (by simp)
       rw[h3] at kk ⊢;repeat first|refine Xa ?_|refine Zb ?_|refine Yb rfl ?_|refine Zc rfl ?_|refine Xc rfl ?_|refine Xd rfl ?_|refine Ya (ldr (efLd0 x)) ?_|refine Ya (ldr (efLd1 x)) ?_|refine Ya (ldr (efLd6 x)) ?_|refine Ya (ldr (Qp x)) ?_|refine Ya (ldr (Zq x)) ?_|refine Ya (Xf ..) ?_|refine Ya (Zg ..) ?_|refine Ya (ldr (row:=chkM m t) rfl) ?_|refine Ya (Xl ..) ?_|refine Ya rfl ?_
       exact kk _ (by simp)
     have a7:x.op≠7:=by simpa using a7
     repeat first|refine Ya (ldr (efLd0 x)) ?_|refine Ya (ldr (efLd1 x)) ?_|refine Ya (ldr (efLd6 x)) ?_|refine Ya (ldr (Qp x)) ?_|refine Ya (ldr (Zq x)) ?_|refine Ya (Xf ..) ?_|refine Ya (Zg ..) ?_|refine Ya (ldr (row:=chkM m t) rfl) ?_|refine Ya (Xl ..) ?_|refine Ya rfl ?_
     refine Yc (λa8=>?_) (λa8=>?_);rotate_left
     ·have a8:x.op≠8:=by simpa using a8
      refine stop ?_;rw[efArm,if_neg a1,if_neg a2,if_neg a3,if_neg a7,if_neg a8,Bool.and_false]
     have a8:x.op=8:=by simpa using a8
     have e:efArm cs t d x=(decide (x.who=0)&&(cnOk cs t x.c&&(lstOk cs t (d+1) x.thn&&lstOk cs t (d+1) x.els))):=by
      rw[efArm,if_neg a1,if_neg a2,if_neg a3,if_neg a7,if_pos a8]
     rw[e] at kk;have hw:IntKind.i64.wrap (d+1)=d+1:=wrapI (by omega) (by omega);cases z with
     |false=>
      repeat first|refine Xa ?_|refine Zb ?_|refine Yb rfl ?_|refine Zc rfl ?_|refine Xc rfl ?_|refine Xd rfl ?_|refine Ya (ldr (efLd0 x)) ?_|refine Ya (ldr (efLd1 x)) ?_|refine Ya (ldr (efLd6 x)) ?_|refine Ya (ldr (Qp x)) ?_|refine Ya (ldr (Zq x)) ?_|refine Ya (Xf ..) ?_|refine Ya (Zg ..) ?_|refine Ya (ldr (row:=chkM m t) rfl) ?_|refine Ya (Xl ..) ?_|refine Ya rfl ?_
      exact kk _ rfl
     |true=>
      repeat first|refine Xa ?_|refine Zb ?_|refine Ya (ldr (efLd0 x)) ?_|refine Ya (ldr (efLd1 x)) ?_|refine Ya (ldr (efLd6 x)) ?_|refine Ya (ldr (Qp x)) ?_|refine Ya (ldr (Zq x)) ?_|refine Ya (Xf ..) ?_|refine Ya (Zg ..) ?_|refine Ya (ldr (row:=chkM m t) rfl) ?_|refine Ya (Xl ..) ?_|refine Ya rfl ?_
      rcases YBE (decide (x.who=0)) with h3|h3
      rotate_left
      ·rw[h3] at kk ⊢;repeat first|refine Xa ?_|refine Zb ?_|refine Yb rfl ?_|refine Zc rfl ?_|refine Xc rfl ?_|refine Xd rfl ?_|refine Ya (ldr (efLd0 x)) ?_|refine Ya (ldr (efLd1 x)) ?_|refine Ya (ldr (efLd6 x)) ?_|refine Ya (ldr (Qp x)) ?_|refine Ya (ldr (Zq x)) ?_|refine Ya (Xf ..) ?_|refine Ya (Zg ..) ?_|refine Ya (ldr (row:=chkM m t) rfl) ?_|refine Ya (Xl ..) ?_|refine Ya rfl ?_
       exact kk _ (by simp)
      rw[h3] at kk ⊢;repeat first|refine Xa ?_|refine Zb ?_|refine Ya (ldr (efLd0 x)) ?_|refine Ya (ldr (efLd1 x)) ?_|refine Ya (ldr (efLd6 x)) ?_|refine Ya (ldr (Qp x)) ?_|refine Ya (ldr (Zq x)) ?_|refine Ya (Xf ..) ?_|refine Ya (Zg ..) ?_|refine Ya (ldr (row:=chkM m t) rfl) ?_|refine Ya (Xl ..) ?_|refine Ya rfl ?_
      refine Yd (c213 m cs hU t x.c _ _ (YcH x) (ZX hfx)) rfl g213_ok.plain rfl ?_;repeat first|refine Xa ?_|refine Zb ?_|refine Ya (ldr (efLd0 x)) ?_|refine Ya (ldr (efLd1 x)) ?_|refine Ya (ldr (efLd6 x)) ?_|refine Ya (ldr (Qp x)) ?_|refine Ya (ldr (Zq x)) ?_|refine Ya (Xf ..) ?_|refine Ya (Zg ..) ?_|refine Ya (ldr (row:=chkM m t) rfl) ?_|refine Ya (Xl ..) ?_|refine Ya rfl ?_
      rcases YBE (cnOk cs t x.c) with h4|h4
      rotate_left
      ·rw[h4] at kk ⊢;repeat first|refine Xa ?_|refine Zb ?_|refine Yb rfl ?_|refine Zc rfl ?_|refine Xc rfl ?_|refine Xd rfl ?_|refine Ya (ldr (efLd0 x)) ?_|refine Ya (ldr (efLd1 x)) ?_|refine Ya (ldr (efLd6 x)) ?_|refine Ya (ldr (Qp x)) ?_|refine Ya (ldr (Zq x)) ?_|refine Ya (Xf ..) ?_|refine Ya (Zg ..) ?_|refine Ya (ldr (row:=chkM m t) rfl) ?_|refine Ya (Xl ..) ?_|refine Ya rfl ?_
       exact kk _ (by simp)
      rw[h4] at kk ⊢;repeat first|refine Xa ?_|refine Zb ?_|refine Ya (ldr (efLd0 x)) ?_|refine Ya (ldr (efLd1 x)) ?_|refine Ya (ldr (efLd6 x)) ?_|refine Ya (ldr (Qp x)) ?_|refine Ya (ldr (Zq x)) ?_|refine Ya (Xf ..) ?_|refine Ya (Zg ..) ?_|refine Ya (ldr (row:=chkM m t) rfl) ?_|refine Ya (Xl ..) ?_|refine Ya rfl ?_
      rw[hw];refine Yd (c157' m cs hU t k x.thn (d+1) (by omega) (QG hfx) (by omega)) rfl g157_ok.plain rfl ?_;repeat first|refine Xa ?_|refine Zb ?_|refine Ya (ldr (efLd0 x)) ?_|refine Ya (ldr (efLd1 x)) ?_|refine Ya (ldr (efLd6 x)) ?_|refine Ya (ldr (Qp x)) ?_|refine Ya (ldr (Zq x)) ?_|refine Ya (Xf ..) ?_|refine Ya (Zg ..) ?_|refine Ya (ldr (row:=chkM m t) rfl) ?_|refine Ya (Xl ..) ?_|refine Ya rfl ?_
      rcases YBE (lstOk cs t (d+1) x.thn) with h5|h5
      rotate_left
      ·rw[h5] at kk ⊢;repeat first|refine Xa ?_|refine Zb ?_|refine Yb rfl ?_|refine Zc rfl ?_|refine Xc rfl ?_|refine Xd rfl ?_|refine Ya (ldr (efLd0 x)) ?_|refine Ya (ldr (efLd1 x)) ?_|refine Ya (ldr (efLd6 x)) ?_|refine Ya (ldr (Qp x)) ?_|refine Ya (ldr (Zq x)) ?_|refine Ya (Xf ..) ?_|refine Ya (Zg ..) ?_|refine Ya (ldr (row:=chkM m t) rfl) ?_|refine Ya (Xl ..) ?_|refine Ya rfl ?_
       exact kk _ (by simp)
      rw[h5] at kk ⊢;repeat first|refine Xa ?_|refine Zb ?_|refine Ya (ldr (efLd0 x)) ?_|refine Ya (ldr (efLd1 x)) ?_|refine Ya (ldr (efLd6 x)) ?_|refine Ya (ldr (Qp x)) ?_|refine Ya (ldr (Zq x)) ?_|refine Ya (Xf ..) ?_|refine Ya (Zg ..) ?_|refine Ya (ldr (row:=chkM m t) rfl) ?_|refine Ya (Xl ..) ?_|refine Ya rfl ?_
      rw[hw];refine Yd (c157' m cs hU t k x.els (d+1) (by omega) (XG hfx) (by omega)) rfl g157_ok.plain rfl ?_;repeat first|refine Xa ?_|refine Zb ?_|refine Ya (ldr (efLd0 x)) ?_|refine Ya (ldr (efLd1 x)) ?_|refine Ya (ldr (efLd6 x)) ?_|refine Ya (ldr (Qp x)) ?_|refine Ya (ldr (Zq x)) ?_|refine Ya (Xf ..) ?_|refine Ya (Zg ..) ?_|refine Ya (ldr (row:=chkM m t) rfl) ?_|refine Ya (Xl ..) ?_|refine Ya rfl ?_
      exact kk _ (by simp)
    clear hk1;refine Yc (λc1=>m3 _ ?_) (λc1=>?_)
    ·simp at c1; simp[c1]
    refine Ya (Xf ..) (m3 _ ?_);simp at c1; simp[c1]
   clear hk1;refine Yc (λc1=>m2 _ ?_) (λc1=>?_)
   ·simp at c1; simp[c1]
   refine Ya (Xf ..) (Yc (λc2=>m2 _ ?_) (λc2=>?_))
   ·simp at c2; simp[c2]
   refine Ya (Xf ..) (m2 _ ?_);simp at c1 c2; simp[c1,c2]
  clear hk1;refine Yc (λc1=>m1 _ ?_) (λc1=>?_)
  ·simp at c1; simp[c1]
  refine Ya (Xf ..) (m1 _ ?_);simp at c1; simp[c1]
theorem c157(m:List (Tx×Bool))(cs:List Cd)(hU:Units m cs)(t:Bool)(l:List Ef)(d:Int)(hf:lsFit l=true)(hd:0≤d):PC 157 [.rptr (chkM m t) 0,efV l,iv d] (.bool (lstOk cs t d l)):=c157' m cs hU t _ l d (Nat.le_refl _) hf hd
end Go.Ah.Tz
end
section
namespace Go.Ah.Tz
open Go.Proofs.Tryz (prog)
attribute [local irreducible] Ans.rd Ans.pu Ans.wr Ans.dr Ans.gr Ans.gw Ans.gl Ans.gd Ans.opt joinK W
set_option maxHeartbeats 2000000
theorem c221(m:List (Tx×Bool))(cs:List Cd)(hU:Units m cs)(c:Cd)(hf:cdFit c=true)
 (h223:PC 223 [.str c.name] (.bool (nameOk c.name)))(h124:PC 124 [.agg (cdC c)] (iv (cdW c))) :
  PC 221 [.rptr (cdC c) 0,.rmap (mpE m)] (.bool (cdOk cs c)):=by
 simp only[cdFit,Bool.and_eq_true,decide_eq_true_eq] at hf;obtain⟨f0,f1,f2,f3⟩:=hf;have bad:cdOk cs c=false→AVal.bool false=AVal.bool (cdOk cs c):=λh=>by rw[h]
 refine Qd hP g221_ok rfl rfl ?_;unfold g221;repeat first|refine Ya (ldr (row:=cdC c) rfl) ?_|refine Ya rfl ?_
 refine QE 7 ?_;refine Zl (Ya rfl (Ze (Ya rfl (Ya rfl (YB rfl rfl (Yc (λh=>bad ?_) (λb1=>Ya rfl ?_)))))))
 ·have:in999 c.cost=false:=by
   rw[Bool.eq_false_iff]; intro hh; simp[in999] at hh; simp at h; omega
  simp[cdOk,this]
 have b1:0≤c.cost∧c.cost≤999:=by simp at b1; omega
 refine Zl (Ya rfl (Ze (Ya rfl (Ya rfl (YB rfl rfl (Yc (λh=>bad ?_) (λb2=>Ya rfl ?_)))))))
 ·have:in999 c.power=false:=by
   rw[Bool.eq_false_iff]; intro hh; simp[in999] at hh; simp at h; omega
  simp[cdOk,this]
 have b2:0≤c.power∧c.power≤999:=by simp at b2; omega
 refine Zl (Ya rfl (Ze (Ya rfl (Ya rfl (YB rfl rfl (Yc (λh=>bad ?_) (λb3=>Ya rfl ?_)))))))
 ·have:in999 c.health=false:=by
   rw[Bool.eq_false_iff]; intro hh; simp[in999] at hh; simp at h; omega
  simp[cdOk,this]
 have b3:0≤c.health∧c.health≤999:=by simp at b3; omega
 refine Zl (Ya rfl (Ze (Ya rfl (Ya rfl (YB rfl rfl (Yc (λh=>bad ?_) (λb4=>Ya rfl ?_)))))))
 ·have:in999 c.shield=false:=by
   rw[Bool.eq_false_iff]; intro hh; simp[in999] at hh; simp at h; omega
  simp[cdOk,this]
 have b4:0≤c.shield∧c.shield≤999:=by simp at b4; omega
 refine Zl (Ya rfl (Ze (Ya rfl (Ya rfl (YB rfl rfl (Yc (λh=>bad ?_) (λb5=>Ya rfl ?_)))))))
 ·have:in999 c.aurap=false:=by
   rw[Bool.eq_false_iff]; intro hh; simp[in999] at hh; simp at h; omega
  simp[cdOk,this]
 have b5:0≤c.aurap∧c.aurap≤999:=by simp at b5; omega
 refine Zl (Ya rfl (Ze (Ya rfl (Ya rfl (YB rfl rfl (Yc (λh=>bad ?_) (λb6=>Ya rfl ?_)))))))
 ·have:in999 c.aurah=false:=by
   rw[Bool.eq_false_iff]; intro hh; simp[in999] at hh; simp at h; omega
  simp[cdOk,this]
 have b6:0≤c.aurah∧c.aurah≤999:=by simp at b6; omega
 refine Zl (Ya rfl (Qi ?_));have hok:cdOk cs c=(nameOk c.name&&(decide (cdW c≤200)&&(cdSum c&&(lstOk cs true 1 c.played&&(lstOk cs false 1 c.dead&&lstOk cs false 1 c.dawn))))):=by
  have e1:in999 c.cost=true:=by simp[in999]; omega
  have e2:in999 c.power=true:=by simp[in999]; omega
  have e3:in999 c.health=true:=by simp[in999]; omega
  have e4:in999 c.shield=true:=by simp[in999]; omega
  have e5:in999 c.aurap=true:=by simp[in999]; omega
  have e6:in999 c.aurah=true:=by simp[in999]; omega
  simp only[cdOk,e1,e2,e3,e4,e5,e6,Bool.true_and];generalize decide (cdW c≤200)=w;cases w<;>simp
 rw[hok] at bad ⊢;clear hok;repeat first|refine Ya (ldr (row:=cdC c) rfl) ?_|refine Ya rfl ?_
 refine Yd h223 rfl g223_ok.plain rfl ?_;refine Ya rfl ?_;refine Xn λk33 hk33=>?_;have kk1:(nameOk c.name&&(decide (cdW c≤200)&&(cdSum c&&(lstOk cs true 1 c.played&&(lstOk cs false 1 c.dead&&lstOk cs false 1 c.dawn)))))=false→k33 [.bool true] []:=by
  intro h;rw[hk33];exact Ze (bad h)
 have kk2:nameOk c.name=true→cdW c≤200→(c.unit=true→1≤c.health)→k33 [.bool false] []:=by
  intro n1 n2 n3;rw[hk33]; clear hk33 kk1 k33;rw[n1,decide_eq_true n2,Bool.true_and,Bool.true_and] at bad ⊢;refine Qi ?_;repeat first|refine Ya (ldr (row:=cdC c) rfl) ?_|refine Ya rfl ?_
  apply cutF (cdSum c=true)
  ·intro hR;cases hu:c.unit with
   |true=>
    repeat first|refine Xa ?_|refine Zb ?_|refine Yb rfl ?_|refine Zc rfl ?_|refine Xc rfl ?_|refine Xd rfl ?_|refine Ya (ldr (row:=cdC c) rfl) ?_|refine Ya rfl ?_
    refine Qi (hR ?_);simp[cdSum,hu,n3 hu]
   |false=>
    repeat first|refine Xa ?_|refine Zb ?_|refine Yb rfl ?_|refine Zc rfl ?_|refine Xc rfl ?_|refine Xd rfl ?_|refine Ya (ldr (row:=cdC c) rfl) ?_|refine Ya rfl ?_
    rw[wrapI (n:=c.power+c.health) (by omega) (by omega),wrapI (n:=c.power+c.health+c.shield) (by omega) (by omega),wrapI (n:=c.power+c.health+c.shield+c.aurap) (by omega) (by omega),wrapI (n:=c.power+c.health+c.shield+c.aurap+c.aurah) (by omega) (by omega)];rcases YBE (decide (c.power+c.health+c.shield+c.aurap+c.aurah>0)) with h|h
    ·rw[h];repeat first|refine Xa ?_|refine Zb ?_|refine Yb rfl ?_|refine Zc rfl ?_|refine Xc rfl ?_|refine Xd rfl ?_|refine Ya (ldr (row:=cdC c) rfl) ?_|refine Ya rfl ?_
     refine Ze (bad ?_);have h:¬(c.power+c.health+c.shield+c.aurap+c.aurah≤0):=by simp at h; omega
     simp[cdSum,hu,h]
    rw[h];repeat first|refine Xa ?_|refine Zb ?_|refine Ya (ldr (row:=cdC c) rfl) ?_|refine Ya rfl ?_
    have h:(c.power+c.health+c.shield+c.aurap+c.aurah≤0):=by simp at h; omega
    have l1:=Zz f2;have l2:=Zz f3;rw[bigE] at l1 l2;rw[List.length_map,List.length_map,wrapI (n:=(c.dead.length:Int)+(c.dawn.length:Int)) (by omega) (by omega)];refine Yc (λh2=>bad ?_) (λh2=>hR ?_)
    ·have h2:¬(c.dead.length+c.dawn.length=0):=by simp at h2; omega
     have:cdSum c=false:=by rw[cdSum,hu,decide_eq_false h2]; simp
     simp[this]
    ·have h2:(c.dead.length+c.dawn.length=0):=by simp at h2; omega
     rw[cdSum,hu,decide_eq_true h2,decide_eq_true h]; rfl
  intro b7;rw[b7,Bool.true_and];refine Ya rfl (Zf rfl rfl (Ya rfl (Ya rfl (Ya (ldr (row:=cdC c) rfl) ?_))));refine Yy (c157 m cs hU true c.played 1 f1 (by omega)) rfl g157_ok.plain rfl rfl ?_;refine Ya rfl (Yc (λp1=>?_) (λp1=>?_))
  ·have p1:lstOk cs true 1 c.played=false:=by simpa using p1
   rw[p1]; rfl
  have p1:lstOk cs true 1 c.played=true:=by simpa using p1
  rw[p1,Bool.true_and];refine Ya rfl (Ya rfl (Zf rfl rfl (Ya rfl (Ya rfl (Ya (ldr (row:=cdC c) rfl) ?_)))));refine Yy (c157 m cs hU false c.dead 1 f2 (by omega)) rfl g157_ok.plain rfl rfl ?_;rcases YBE (lstOk cs false 1 c.dead) with p2|p2
  rotate_left
  ·rw[p2];repeat first|refine Xa ?_|refine Zb ?_|refine Yb rfl ?_|refine Zc rfl ?_|refine Xc rfl ?_|refine Xd rfl ?_|refine Ya (ldr (row:=cdC c) rfl) ?_|refine Ya rfl ?_
   rfl
  rw[p2];repeat first|refine Xa ?_|refine Zb ?_|refine Ya (ldr (row:=cdC c) rfl) ?_|refine Ya rfl ?_
  refine Yy (c157 m cs hU false c.dawn 1 f3 (by omega)) rfl g157_ok.plain rfl rfl ?_;repeat first|refine Xa ?_|refine Zb ?_|refine Ya (ldr (row:=cdC c) rfl) ?_|refine Ya rfl ?_
  rfl
 clear hk33 bad;refine Yc (λn1=>?_) (λn1=>?_)
 ·rw[n1];refine kk1 ?_;have n1:nameOk c.name=false:=by simpa using n1
  rw[n1]; rfl
 have n1:nameOk c.name=true:=by simpa using n1
 refine Ya rfl (Ya (ldr (cdLd c)) ?_);refine Yd h124 rfl g124_ok.plain rfl ?_;refine Ya rfl (Yc (λn2=>?_) (λn2=>?_))
 ·rw[n2];refine kk1 ?_;have n2:¬cdW c≤200:=by simp at n2; omega
  rw[decide_eq_false n2]; simp
 have n2:cdW c≤200:=by simp at n2; omega
 repeat first|refine Ya (ldr (row:=cdC c) rfl) ?_|refine Ya rfl ?_
 cases hu:c.unit with
 |false=>
  repeat first|refine Xa ?_|refine Zb ?_|refine Yb rfl ?_|refine Zc rfl ?_|refine Xc rfl ?_|refine Xd rfl ?_|refine Ya (ldr (row:=cdC c) rfl) ?_|refine Ya rfl ?_
  exact kk2 n1 n2 (λh=>by rw[hu] at h; cases h)
 |true=>
  repeat first|refine Xa ?_|refine Zb ?_|refine Ya (ldr (row:=cdC c) rfl) ?_|refine Ya rfl ?_
  rcases YBE (decide (c.health<1)) with h|h
  ·rw[h];refine kk1 ?_;have:cdSum c=false:=by simp at h; simp[cdSum,hu]; omega
   rw[this]; simp
  ·rw[h];exact kk2 n1 n2 (λ_=>by simp at h; omega)
end Go.Ah.Tz
end
section
namespace Go.Ah.Tz
open Go.Proofs.Tryz (prog)
def tput(t:Tx)(v:Bool):List (Tx×Bool)→List (Tx×Bool)
 |[]=>[(t,v)]
 |p::l=>if t==p.1 then (t,v)::l else p::tput t v l
theorem Zbq(t:Tx)(v:Bool):∀l,aput (.str t) (.bool v) (mpE l)=some (mpE (tput t v l))
 |[]=>rfl
 |p::l=>by
  simp only[mpE,List.map_cons,aput,keyEq,tput];cases h:t==p.1 with
  |true=>rfl
  |false=>
   have:=Zbq t v l;simp only[mpE] at this;simp only[this]; rfl
theorem ZP(t n:Tx)(v:Bool):∀l,tlook t (tput n v l)=if t==n then some v else tlook t l
 |[]=>by simp[tput,tlook]
 |p::l=>by
  simp only[tput];by_cases h:n==p.1
  ·have e:n=p.1:=by simpa using h
   rw[if_pos h,tlook,tlook,←e];by_cases h2:t==n<;>simp[h2]
  ·rw[if_neg h,tlook,tlook,ZP t n v l];have e:n≠p.1:=by simpa using h
   by_cases h2:t==p.1
   ·have e2:t=p.1:=by simpa using h2
    have:¬(t==n)=true:=by simp[e2]; exact λh=>e h.symm
    rw[if_pos h2,if_neg this,if_pos h2]
   ·rw[if_neg h2];by_cases h3:t==n<;>simp[h3,h2]
theorem QaV:∀l,roES (mpE l)=true
 |[]=>rfl
 |p::l=>by
  have:=QaV l;simp only[mpE] at this;simp[mpE,roES,AVal.ro,this]
theorem YbO{σ:List ABlk}{b:Nat}{l:List (Tx×Bool)}(h:hget σ b=.map (mpE l))(row:List AVal)(j:Nat):Zt σ 1000 [.rptr row j,.map b]=some ([.rptr row j,.rmap (mpE l)],[b]):=by
 show Zt σ (998+1+1) _=_;simp[Zt,h,QaV,AVal.ro]
theorem Zcw{σ:List ABlk}{b:Nat}{l:List (Tx×Bool)}(h:hget σ b=.map (mpE l))(t:Tx):Zr true true (.bool false) [.map b,.str t] σ=.ok (.tup [.bool ((tlook t l).getD false),.bool (tlook t l).isSome]) [b] []:=by
 simp only[Zr,Q0,mapOf,h,X3,cond_true];cases tlook t l<;>rfl
theorem ZaS{σ:List ABlk}{b:Nat}{l:List (Tx×Bool)}(h:hget σ b=.map (mpE l))(t:Tx):Zr true false (.bool false) [.map b,.str t] σ=.ok (.bool ((tlook t l).getD false)) [b] []:=by
 simp only[Zr,Q0,mapOf,h,X3,cond_true];cases tlook t l<;>rfl
theorem Xa0{σ:List ABlk}{b:Nat}{l:List (Tx×Bool)}(h:hget σ b=.map (mpE l))(t:Tx)(v:Bool):Xy true [.map b,.str t,.bool v] σ=.ok .junk [] [(b,.map (mpE (tput t v l)))]:=by
 simp only[Xy,Q0,h,Zbq,cond_true]
def findO:List Cd→Tx→Option Bool
 |[],_=>none
 |c::l,t=>if c.name==t then some c.unit else findO l t
theorem QbW:∀ (l:List Cd) (t:Tx) (u:Bool),findC l t u=(match findO l t with
 |none=>false
 | some b=>b || !u)
 |[],_,_=>rfl
 |c::l,t,u=>by
  simp only[findC,findO];by_cases h:c.name==t
  ·rw[if_pos h,if_pos h]
  ·rw[if_neg h,if_neg h]; exact QbW l t u
theorem Yak:∀ (l:List Cd) (c:Cd) (t:Tx),findO (l ++ [c]) t=(match findO l t with
 |some b=>some b
 | none=>if c.name == t then some c.unit else none)
 |[],_,_=>rfl
 |d::l,c,t=>by
  simp only[List.cons_append,findO];by_cases h:d.name==t
  ·rw[if_pos h,if_pos h]
  ·rw[if_neg h,if_neg h]; exact Yak l c t
def UnitsO(m:List (Tx×Bool))(l:List Cd):Prop:=∀t,tlook t m=findO l t
theorem UnitsO.units{m:List (Tx×Bool)}{l:List Cd}(h:UnitsO m l):Units m l:=by
 intro t u; rw[QbW,h t]<;>cases findO l t<;>rfl
theorem UnitsO.old{m:List (Tx×Bool)}{l:List Cd}(h:UnitsO m l){c:Cd}(hc:(tlook c.name m).isSome=true):UnitsO m (l++[c]):=by
 intro t;rw[Yak,←h t];cases e:tlook t m with
 |some b=>rfl
 |none=>
  by_cases h2:c.name==t
  ·have:c.name=t:=by simpa using h2
   rw[this,e] at hc; cases hc
  ·rw[if_neg h2]
theorem UnitsO.new{m:List (Tx×Bool)}{l:List Cd}(h:UnitsO m l){c:Cd}(hc:(tlook c.name m).isSome=false):UnitsO (tput c.name c.unit m) (l++[c]):=by
 intro t;rw[Yak,←h t,ZP];by_cases h2:t==c.name
 ·have e:t=c.name:=by simpa using h2
  subst e;cases e:tlook c.name m with
  |some b=>rw[e] at hc; cases hc
  |none=>simp
 ·have h3:¬(c.name==t)=true:=by
   intro h; apply h2; simp at h; simp[h]
  rw[if_neg h2,if_neg h3];cases tlook t m<;>rfl
def Seen(m:List (Tx×Bool))(l:List Cd):Prop:=∀t,(tlook t m).getD false=l.any λd=>d.name==t
theorem Seen.put{m:List (Tx×Bool)}{l:List Cd}(h:Seen m l)(c:Cd):Seen (tput c.name true m) (l++[c]):=by
 intro t;rw[ZP,List.any_append,←h t];by_cases h2:t==c.name
 ·have e:t=c.name:=by simpa using h2
  simp[e]
 ·have h3:(c.name==t)=false:=by
   rw[Bool.eq_false_iff]; intro h; apply h2; simp at h; simp[h]
  rw[if_neg h2]; simp[h3]
theorem Qn{σ:List ABlk}{b:Nat}(x:ABlk)(h:b<σ.length):hget (σ.set b x) b=x:=QJ (by simp[h])
attribute [local irreducible] Ans.rd Ans.pu Ans.wr Ans.dr Ans.gr Ans.gw Ans.gl Ans.gd Ans.opt joinK W
set_option maxHeartbeats 1000000
theorem c180(cs:List Cd)(hf:ZQ cs=true)(h221:∀m,Units m cs→∀c∈cs,PC 221 [.rptr (cdC c) 0,.rmap (mpE m)] (.bool (cdOk cs c))) :
  PC 180 [cdV cs] (.agg [iv (cdsChk cs).1,iv (cdsChk cs).2]):=by
 simp only[ZQ,Bool.and_eq_true,decide_eq_true_eq] at hf;obtain⟨f0,f1⟩:=hf;rw[bigE] at f0;refine Qd hP g180_ok rfl rfl ?_;unfold g180;refine Zf rfl rfl (Ya rfl (Ya rfl ?_));refine Yc (λh=>?_) (λh=>?_)
 ·have h:240<cs.length:=by simp at h; omega
  refine Ya rfl (Zf rfl rfl (Ys rfl ?_));rw[cdsChk,if_pos h]
 have h:¬240<cs.length:=by simp at h; omega
 rw[cdsChk,if_neg h];refine Zf rfl rfl (Ya rfl ?_);refine Yj (ι:=Nat) (λi vs σ=>∃m,vs=[iv i]∧hget σ 0=.box [iv 0,iv 0]∧hget σ 1=.map (mpE m)∧1<σ.length∧i≤cs.length∧UnitsO m (cs.take i)) (λi=>cs.length-i) 0 ⟨[],rfl,rfl,rfl,by simp,by omega,λt=>by simp[tlook,findO]⟩ ?_;rintro i vs σ again ⟨m,rfl,hz,hm,hln,hi,hu⟩ hag;refine Ya rfl ?_;refine Yc (λh=>?_) (λh=>?_)
 ·have hil:i<cs.length:=by simpa using h
  have hix:=λ(s:List ABlk)=>Yo s cdC false false 12 cs .i64 i hil;have htk:cs.take (i+1)=cs.take i++[cs[i]]:=Xv cs i hil;generalize cs[i]=c at hix htk;refine Xn λk10 hk10=>?_;have kk:∀m' σ',UnitsO m' (cs.take i++[c])→hget σ' 0=.box [iv 0,iv 0]→hget σ' 1=.map (mpE m')→1<σ'.length→k10 [] σ':=by
   intro m' σ' q1 q2 q3 q4;rw[hk10];refine Ya (Yk ..) ?_;rw[Qf (n:=i) (by omega)];exact hag (i+1) _ _ (by omega) ⟨m',rfl,q2,q3,q4,by omega,by rw[htk]; exact q1⟩
  clear hk10 hag;refine Ya (hix _) (Ya (ldr (cdLd _)) (Xx (row:=cdC c) (row':=cdC c) rfl rfl rfl ?_));have hB0:=Zm σ (ABlk.box (cdC c));have hz':hget (σ++[ABlk.box (cdC c)]) 0=.box [iv 0,iv 0]:=Zn _ hz (by simp);have hm':hget (σ++[ABlk.box (cdC c)]) 1=.map (mpE m):=Zn _ hm (by simp);have hl':1<(σ++[ABlk.box (cdC c)]).length:=by simp; omega
  generalize σ++[ABlk.box (cdC c)]=base at hB0 hz' hm' hl' ⊢;generalize σ.length=b at hB0 ⊢;refine Ya rfl (Ya (ld hB0 rfl) (Ya (Zcw hm' _) (Ya rfl (Ya rfl (Ya rfl ?_)))));refine Yc (λh=>?_) (λh=>?_)
  ·have h:(tlook c.name m).isSome=false:=by simpa using h
   refine Ya rfl (Ya (ld hB0 rfl) (Ya rfl (Ya (ld hB0 rfl) (Zf (Xa0 hm' _ _) (Xp _ hl') ?_))));exact kk _ _ (hu.new h) (Qo hz' (by simp) (by omega)) (Qn _ hl') (by simpa using hl')
  ·have h:(tlook c.name m).isSome=true:=by simpa using h
   exact kk _ _ (hu.old h) hz' hm' hl'
 have h:i=cs.length:=by simp at h; omega
 subst h;rw[List.take_length] at hu;have hmay:=h221 m hu.units;clear hag hu h221;refine Zf rfl (YM _ _) (Ya rfl ?_);have hz':hget (σ++[ABlk.map []]) 0=.box [iv 0,iv 0]:=Zn _ hz (by simp);have hm':hget (σ++[ABlk.map []]) 1=.map (mpE m):=Zn _ hm (by simp);have hs':hget (σ++[ABlk.map []]) σ.length=.map (mpE []):=Zm _ _;have hl':σ.length<(σ++[ABlk.map []]).length:=by simp
 generalize σ++[ABlk.map []]=base at hz' hm' hs' hl' ⊢;generalize σ.length=b at hs' hl' hln ⊢;refine Yj (ι:=Nat) (λi vs s=>∃m2,vs=[iv i]∧hget s 0=.box [iv 0,iv 0]∧hget s 1=.map (mpE m)∧hget s b=.map (mpE m2)∧b<s.length∧i≤cs.length∧Seen m2 (cs.take i)∧cdsGo cs [] cs=cdsGo cs (cs.take i) (cs.drop i)) (λi=>cs.length-i) 0 ⟨[],rfl,hz',hm',hs',hl',by omega,λt=>by simp[tlook],by simp⟩ ?_;clear hz' hm' hs' hl' base hz hm σ;rintro i vs s again ⟨m2,rfl,hz,hm,hs,hl,hi,hse,hu⟩ hag;refine Ya rfl ?_;refine Yc (λh=>?_) (λh=>?_);rotate_left
 ·have h:i=cs.length:=by simp at h; omega
  subst h;rw[List.drop_length,cdsGo] at hu;refine Ya rfl (Zf (stv hz rfl rfl rfl) (Xp _ (by show 0<s.length; omega)) (Ys (YG (by show 0<s.length; omega) rfl) ?_));rw[hu]
 have hil:i<cs.length:=by simpa using h
 have hdr:cs.drop i=cs[i]::cs.drop (i+1):=by rw[YLD hil]
 have hix:=λ(s:List ABlk)=>Yo s cdC false false 12 cs .i64 i hil;have htk:cs.take (i+1)=cs.take i++[cs[i]]:=Xv cs i hil;have hmy:=hmay _ (List.getElem_mem hil);generalize cs[i]=c at hix htk hdr hmy;rw[hdr,cdsGo,←hse c.name] at hu;refine Ya (hix _) (Ya rfl (Ya rfl (Ya (ldr (cdLd0 _)) (Ya (ZaS hs _) ?_))));refine Yc (λh=>?_) (λh=>?_)
 ·rw[if_pos h] at hu;refine Ya rfl (Ya rfl (Ya (ldr (Qbq _)) (Ya rfl (Zf (stv hz rfl rfl rfl) (Xp _ (by show 0<s.length; omega)) (Ys (YG (by show 0<s.length; omega) rfl) ?_)))));rw[hu]
 rw[if_neg (by rw[h]; simp)] at hu;refine Yy hmy rfl g221_ok.plain (YbO hm _ _) rfl ?_;refine Ya rfl ?_;refine Yc (λh=>?_) (λh=>?_)
 ·have h:cdOk cs c=false:=by simpa using h
  rw[h] at hu
  replace hu:cdsGo cs [] cs=(130,c.pl):=hu
  refine Ya rfl (Ya rfl (Ya (ldr (Qbq _)) (Ya rfl (Zf (stv hz rfl rfl rfl) (Xp _ (by show 0<s.length; omega)) (Ys (YG (by show 0<s.length; omega) rfl) ?_)))));rw[hu]
 ·have h:cdOk cs c=true:=by simpa using h
  rw[h,if_pos rfl] at hu;refine Ya rfl (Ya rfl (Ya (ldr (cdLd0 _)) (Zf (Xa0 hs _ _) (Xp _ hl) (Ya (Yk ..) ?_))));rw[Qf (n:=i) (by omega)];refine hag (i+1) _ _ (by omega) ⟨_,rfl,?_,?_,Qn _ hl,by simpa using hl,by omega,by rw[htk]; exact hse.put c,by rw[htk]; exact hu⟩
  ·exact Qo hz (by simp) (by omega)
  ·exact Qo hm (by simp) (by omega)
end Go.Ah.Tz
end
section
namespace Go.Ah.Tz
open Go.Proofs.Tryz (prog)
set_option maxRecDepth 1000000
theorem hTm:∀f np g,tb.get f=some (np,g)→GQ f np g:=GT.get_ok tb_ok
def ownTx:Tx:=[99,97,114,100,32,117,110,105,116,32,99,104,97,114,109,32,102,111,114,109,97,116,32,112,108,97,121,101,100,32,100,101,97,100,32,100,97,119,110,32,97,117,114,97,32,115,104,105,101,108,100,32,104,97,114,109,32,109,101,110,100,32,100,114,97,119,32,103,97,105,110,32,100,114,111,112,32,108,111,111,107,32,115,104,111,119,32,115,117,109,109,111,110,32,105,102,32,101,108,115,101,32,109,101,32,102,111,101,32,116,97,114,103,101,116,32,108,105,102,101,32,104,97,110,100,32,100,101,99,107,32,117,110,105,116,115,32,109,97,110,97,32,99,111,115,116,32,116,111,112,32,112,111,119,101,114,32,109,105,110,32,109,97,120,32,110,111,116,32,97,110,100,32,111,114,32,104,111,108,100,115,32,108,101,97,115,116,32,109,111,115,116,32,99,111,112,105,101,115,32,98,97,110,110,101,100,32,115,105,110,103,108,101]
theorem p264:PC 264 [.str ownTx] (.rsl true false 1 (keysR.map txC)):=Yau hP hTm (much:=1000000000) 60 (by kernel_rfl)
def ownM:List (Tx×Bool):=keysR.foldl (λm k=>tput k true m) []
theorem QaP(t:Tx):∀(l:List Tx) (m:List (Tx×Bool)),(tlook t (l.foldl (λm k=>tput k true m) m)).getD false=((tlook t m).getD false||ownIn l t)
 |[],m=>by simp[ownIn]
 |k::l,m=>by
  rw[List.foldl_cons,QaP t l,ZP,ownIn];by_cases h:t==k
  ·have e:t=k:=by simpa using h
   subst e; simp
  ·have h2:(k==t)=false:=by
    rw[Bool.eq_false_iff]; intro q; apply h; simp at q; simp[q]
   rw[if_neg h,h2,Bool.false_or]
theorem Ycy(t:Tx):(tlook t ownM).getD false=ownIn keysR t:=by
 rw[ownM,QaP]; rfl
attribute [local irreducible] Ans.rd Ans.pu Ans.wr Ans.dr Ans.gr Ans.gw Ans.gl Ans.gd Ans.opt joinK W
theorem c258:PC 258 [] (.rmap (mpE ownM)):=by
 refine Xa5 hP g258_ok rfl ⟨.map 0,[.map (mpE ownM)],?_,?_⟩
 ·show (match Zt [.map (mpE ownM)] (998 + 1 + 1) [.map 0] with
   |some ([y],_)=>some y
   | _=>none)=_
  have:hget [ABlk.map (mpE ownM)] 0=.map (mpE ownM):=rfl;simp only[Zt,this,QaV,cond_true]
 unfold g258;refine Zf rfl rfl ?_;refine Yd p264 rfl g264_ok.plain rfl ?_;refine Ya rfl ?_;have hlen:keysR.length=41:=rfl;unfold ownM;generalize keysR=l at hlen ⊢;refine Yj (ι:=Nat) (λi vs σ=>∃m,vs=[iv i]∧σ=[.map (mpE m)]∧i≤l.length∧l.foldl (λm k=>tput k true m) []=(l.drop i).foldl (λm k=>tput k true m) m) (λi=>l.length-i) 0 ⟨[],rfl,rfl,by omega,by simp⟩ ?_;rintro i vs σ again ⟨m,rfl,rfl,hi,hu⟩ hag;refine Ya rfl ?_;refine Yc (λh=>?_) (λh=>?_)
 ·have h:i<l.length:=by simpa using h
  have hdr:l.drop i=l[i]::l.drop (i+1):=by rw[YLD h]
  rw[hdr,List.foldl_cons] at hu;refine Ya (Yo _ txC _ _ _ l .i64 i h) (Ya (ldr (txLd _)) (Zf (Xa0 (b:=0) rfl _ _) rfl (Ya (Yk ..) ?_)));rw[Qf (n:=i) (by omega)];exact hag (i+1) _ _ (by omega) ⟨_,rfl,rfl,by omega,hu⟩
 ·have h:i=l.length:=by simp at h; omega
  subst h;rw[List.drop_length,List.foldl_nil] at hu;rw[hu]; exact⟨rfl,rfl⟩
theorem c242(s:Tx):PC 242 [.str s] (.bool (ownIn keysR s)):=by
 refine Qd hP g242_ok rfl rfl ?_;unfold g242;refine Yd c258 rfl g258_ok.plain rfl ?_;refine Ya (Xl ..) ?_;rw[Ycy]
end Go.Ah.Tz
end
section
namespace Go.Ah.Tz
open Go.Proofs.Tryz (prog)
attribute [local irreducible] Ans.rd Ans.pu Ans.wr Ans.dr Ans.gr Ans.gw Ans.gl Ans.gd Ans.opt joinK W
theorem c257(x:Int):PC 257 [.int .i32 x] (.bool (isDig x)):=by
 refine Qd hP g257_ok rfl rfl ?_;unfold g257;refine Ya rfl (X2 rfl rfl ?_);exact congrArg AVal.bool (by rw[Bool.eq_iff_iff]; simp[isDig])
theorem c256(x:Int):PC 256 [.int .i32 x] (.bool (isLet x)):=by
 refine Qd hP g256_ok rfl rfl ?_;unfold g256;refine Ya rfl (X2 rfl rfl ?_);refine Xn λk1 hk1=>?_;have kk:∀c,c=decide ((97≤x∧x≤122)∨(65≤x∧x≤90))→k1 [.bool c] []:=by
  rintro c hc;rw[hk1]; clear hk1 k1;refine Yc (λh=>?_) (λh=>?_)
  ·rw[h] at hc;have hc:(97≤x∧x≤122)∨(65≤x∧x≤90):=by simpa using hc.symm
   exact congrArg AVal.bool (by rw[eq_comm,isLet,decide_eq_true_eq]; omega)
  rw[h] at hc;have hc:¬((97≤x∧x≤122)∨(65≤x∧x≤90)):=of_decide_eq_false hc.symm;refine Ya (Xf ..) ?_;refine Xn λk1 hk1=>?_;have k2:∀c,c=decide (x=215∨x=247)→k1 [.bool c] []:=by
   rintro c hc2;rw[hk1]; clear hk1 k1;refine Yc (λh=>?_) (λh=>?_)
   ·rw[h] at hc2;have hc2:x=215∨x=247:=of_decide_eq_true hc2.symm;exact congrArg AVal.bool (by rw[eq_comm,isLet,decide_eq_false_iff_not]; omega)
   rw[h] at hc2;have hc2:¬(x=215∨x=247):=of_decide_eq_false hc2.symm;refine Ya rfl (X2 rfl rfl ?_);exact congrArg AVal.bool (by rw[Bool.eq_iff_iff,Bool.and_eq_true,isLet,decide_eq_true_eq,decide_eq_true_eq,decide_eq_true_eq]; omega)
  clear hk1;refine Yc (λh=>k2 _ ?_) (λh=>?_)
  ·rw[h]; rw[eq_comm,decide_eq_true_eq]; exact Or.inl (of_decide_eq_true h)
  ·have h:x≠215:=of_decide_eq_false h;refine Ya (Xf ..) (k2 _ ?_);rw[Bool.eq_iff_iff,decide_eq_true_eq,decide_eq_true_eq]; omega
 clear hk1;refine Yc (λh=>kk _ ?_) (λh=>?_)
 ·rw[h]; rw[eq_comm,decide_eq_true_eq]; simp at h; omega
 ·refine Ya rfl (X2 rfl rfl (kk _ ?_));rw[Bool.eq_iff_iff,Bool.and_eq_true,decide_eq_true_eq,decide_eq_true_eq,decide_eq_true_eq]; simp at h; omega
end Go.Ah.Tz
end
section
namespace Go.Ah.Tz
theorem all256{p:Nat→Bool}(h:(List.range 256).all p=true){c:Nat}(hc:c<256):p c=true:=List.all_eq_true.1 h c (List.mem_range.2 hc)
theorem and31{c:Nat}(hc:c<256):bits .and .i64 (c:Int) 31=((c%32:Nat):Int):=by
 have:=all256 (p:=λc=>bits .and .i64 (c:Int) 31==((c%32:Nat):Int)) (by kernel_rfl) hc;simpa using this
theorem and15{c:Nat}(hc:c<256):bits .and .i64 (c:Int) 15=((c%16:Nat):Int):=by
 have:=all256 (p:=λc=>bits .and .i64 (c:Int) 15==((c%16:Nat):Int)) (by kernel_rfl) hc;simpa using this
theorem and7{c:Nat}(hc:c<256):bits .and .i64 (c:Int) 7=((c%8:Nat):Int):=by
 have:=all256 (p:=λc=>bits .and .i64 (c:Int) 7==((c%8:Nat):Int)) (by kernel_rfl) hc;simpa using this
theorem and63{c:Nat}(hc:c<256):bits .and .u8 (c:Int) 63=((c%64:Nat):Int):=by
 have:=all256 (p:=λc=>bits .and .u8 (c:Int) 63==((c%64:Nat):Int)) (by kernel_rfl) hc;simpa using this
theorem and192{c:Nat}(hc:c<256):(bits .and .u8 (c:Int) 192 != 128) = !(c/64==2):=by
 have:=all256 (p:=λc=>(bits .and .u8 (c:Int) 192 != 128) == !(c/64==2)) (by kernel_rfl) hc;simpa using this
theorem Zci(c:UInt8):rCont c = !(c.toNat/64==2):=and192 c.toNat_lt
theorem or64(q y:Nat)(hq:q<1099511627776)(hy:y<64):bits .or .i64 ((q*64:Nat):Int) (y:Int)=((q*64+y:Nat):Int):=by
 have h1:(BitVec.ofInt 64 ((q*64:Nat):Int)).toNat=q*64:=by
  rw[BitVec.toNat_ofInt]; omega
 have h2:(BitVec.ofInt 64 (y:Int)).toNat=y:=by
  rw[BitVec.toNat_ofInt]; omega
 have h3:q*64 ||| y=q*64+y:=by
  have:=Nat.two_pow_add_eq_or_of_lt (i:=6) (b:=y) (by omega) q;rw[show 2 ^ 6*q=q*64 by omega] at this;exact this.symm
 show IntKind.i64.wrap (((BitVec.ofInt 64 ((q*64:Nat):Int)) ||| (BitVec.ofInt 64 (y:Int))).toNat:Int)=_;rw[BitVec.toNat_or,h1,h2,h3];exact wrapI (by omega) (by omega)
theorem Xci(x:Nat)(hx:x<1099511627776)(c:UInt8):rStep (x:Int) c=((x*64+c.toNat%64:Nat):Int):=by
 have e:shl6 (x:Int)=((x*64:Nat):Int):=by
  show IntKind.i64.wrap ((x:Int)*64)=_;rw[wrapI (by omega) (by omega)]; simp
 rw[rStep,e,and63 c.toNat_lt,wrapI (by omega) (by omega)];exact or64 x _ hx (Nat.mod_lt _ (by omega))
theorem YbU(s:Tx)(a:Nat)(ha:a<s.length) :
  (((runeR s a).2≠0→((Utf8.decode ⟨s.toArray⟩ a).1:Int)=(runeR s a).1∧(Utf8.decode ⟨s.toArray⟩ a).2=(runeR s a).2)∧((runeR s a).2=0→(Utf8.decode ⟨s.toArray⟩ a).1=65533)):=by
 have hat:∀k,((⟨s.toArray⟩:ByteArray).get! (a+k))=(s[a+k]?).getD 0:=by
  intro k;show (s.toArray)[a+k]! = _;simp[List.getElem!_eq_getElem?_getD];rfl
 have hsz:(⟨s.toArray⟩:ByteArray).size=s.length:=by simp[ByteArray.size]
 rw[runeR,List.getElem?_eq_getElem ha];unfold Utf8.decode;simp only[hat,hsz];have h0:(s[a+0]?).getD 0=s[a]:=by simp[List.getElem?_eq_getElem ha]
 rw[h0];have hb:s[a].toNat<256:=s[a].toNat_lt;generalize s[a].toNat=b at hb ⊢;have hcn:∀k,¬a+k<s.length→s[a+k]?=none:=λk h=>by simp; omega
 have ht:∀(i x:Nat),x<1000000→∀m,rTail s a (m+1) i (x:Int)=if a+i<s.length∧((s[a+i]?).getD 0).toNat/64=2 then rTail s a m (i+1) ((x*64+((s[a+i]?).getD 0).toNat%64:Nat):Int) else none:=by
  intro i x hx m;by_cases h:a+i<s.length
  ·rw[rTail,List.getElem?_eq_getElem h];simp only[Zci,Option.getD_some,h,true_and];by_cases h2:s[a+i].toNat/64=2
   ·simp[h2,Xci x (by omega)]
   ·simp[h2]
  ·rw[rTail,hcn i h]; simp[h]
 have hcd:∀k,(decide (a+k<s.length)&&(((s[a+k]?).getD 0).toNat/64==2))=decide (a+k<s.length∧((s[a+k]?).getD 0).toNat/64=2):=by
  intro k; rw[Bool.eq_iff_iff]; simp
 simp only[hcd];have t1:=λx hx m=>ht 1 x hx m;have t2:=λx hx m=>ht 2 x hx m;have t3:=λx hx m=>ht 3 x hx m;clear ht hcd hcn hat hsz h0;generalize ((s[a+1]?).getD 0).toNat=d1 at *;generalize ((s[a+2]?).getD 0).toNat=d2 at *;generalize ((s[a+3]?).getD 0).toNat=d3 at *;by_cases c1:b<128
 ·have hh:rHead (b:Int)=some (1,(b:Int),0):=by
   rw[rHead,if_neg (by omega),if_neg (by omega),if_neg (by omega),if_neg (by omega)]
  simp only[hh,if_pos c1,Nat.sub_self,rTail,rEnd];rw[if_neg (by omega)]; simp
 rw[if_neg c1];by_cases c2:b<192
 ·have hh:rHead (b:Int)=none:=by
   rw[rHead,if_neg (by omega),if_neg (by omega),if_neg (by omega),if_pos (by omega)]
  simp only[hh];have e1:¬b/32=6:=by omega
  have e2:¬b/16=14:=by omega
  have e3:¬b/8=30:=by omega
  simp[e1,e2,e3,Utf8.runeError]
 by_cases c3:b<224
 ·have hh:rHead (b:Int)=some (2,((b%32:Nat):Int),128):=by
   rw[rHead,if_pos (by omega),and31 hb]
  have e1:b/32=6:=by omega
  have e2:¬b/16=14:=by omega
  have e3:¬b/8=30:=by omega
  simp only[hh];rw[t1 _ (by omega) 0];by_cases p1:a+1<s.length∧d1/64=2
  ·simp only[if_pos p1,rTail,rEnd,e1,decide_eq_true p1,beq_self_eq_true,Bool.and_self,if_true];by_cases y:b%32*64+d1%64 ≥ 128
   ·rw[if_pos y,if_neg (by omega)]; simp
   ·rw[if_neg y,if_pos (by omega)]; simp[Utf8.runeError]
  ·simp only[if_neg p1,rEnd,decide_eq_false p1,Bool.and_false,Bool.false_and,Bool.false_eq_true,if_false];simp[Utf8.runeError]
 by_cases c4:b<240
 ·have hh:rHead (b:Int)=some (3,((b%16:Nat):Int),2048):=by
   rw[rHead,if_neg (by omega),if_pos (by omega),and15 hb]
  have e1:¬b/32=6:=by omega
  have e2:b/16=14:=by omega
  have e3:¬b/8=30:=by omega
  simp only[hh];rw[t1 _ (by omega) 1];have f1:(b/32==6)=false:=by simpa using e1
  by_cases p1:a+1<s.length∧d1/64=2
  ·rw[if_pos p1,t2 _ (by omega) 0];by_cases p2:a+2<s.length∧d2/64=2
   ·simp only[if_pos p2,rTail,rEnd,f1,e2,decide_eq_true p1,decide_eq_true p2,beq_self_eq_true,Bool.and_self,if_true,Bool.false_and,Bool.false_eq_true,if_false];by_cases y:(b%16*64+d1%64)*64+d2%64<2048∨(55296≤(b%16*64+d1%64)*64+d2%64∧(b%16*64+d1%64)*64+d2%64≤57343)
    ·rw[if_pos (by omega),if_neg (by simp[Utf8.valid]; omega)]; simp[Utf8.runeError]
    ·rw[if_neg (by omega),if_pos (by simp[Utf8.valid]; omega)]; simp; omega
   ·simp only[if_neg p2,rEnd,f1,decide_eq_false p2,Bool.and_false,Bool.false_and,Bool.false_eq_true,if_false];simp[Utf8.runeError]
  ·simp only[if_neg p1,rEnd,f1,decide_eq_false p1,Bool.and_false,Bool.false_and,Bool.false_eq_true,if_false];simp[Utf8.runeError]
 by_cases c5:b<248
 ·have hh:rHead (b:Int)=some (4,((b%8:Nat):Int),65536):=by
   rw[rHead,if_neg (by omega),if_neg (by omega),if_pos (by omega),and7 hb]
  have e3:b/8=30:=by omega
  have f1:(b/32==6)=false:=by simp; omega
  have f2:(b/16==14)=false:=by simp; omega
  simp only[hh];rw[t1 _ (by omega) 2];by_cases p1:a+1<s.length∧d1/64=2
  ·rw[if_pos p1,t2 _ (by omega) 1];by_cases p2:a+2<s.length∧d2/64=2
   ·rw[if_pos p2,t3 _ (by omega) 0];by_cases p3:a+3<s.length∧d3/64=2
    ·simp only[if_pos p3,rTail,rEnd,f1,f2,e3,decide_eq_true p1,decide_eq_true p2,decide_eq_true p3,beq_self_eq_true,Bool.and_self,if_true,Bool.false_and,Bool.false_eq_true,if_false];by_cases y:((b%8*64+d1%64)*64+d2%64)*64+d3%64<65536∨1114111<((b%8*64+d1%64)*64+d2%64)*64+d3%64
     ·rw[if_pos (by omega),if_neg (by simp[Utf8.valid]; omega)]; simp[Utf8.runeError]
     ·rw[if_neg (by omega),if_pos (by simp[Utf8.valid]; omega)]; simp; omega
    ·simp only[if_neg p3,rEnd,f1,f2,decide_eq_false p3,Bool.and_false,Bool.false_and,Bool.false_eq_true,if_false];simp[Utf8.runeError]
   ·simp only[if_neg p2,rEnd,f1,f2,decide_eq_false p2,Bool.and_false,Bool.false_and,Bool.false_eq_true,if_false];simp[Utf8.runeError]
  ·simp only[if_neg p1,rEnd,f1,f2,decide_eq_false p1,Bool.and_false,Bool.false_and,Bool.false_eq_true,if_false];simp[Utf8.runeError]
 ·have hh:rHead (b:Int)=none:=by
   rw[rHead,if_neg (by omega),if_neg (by omega),if_neg (by omega),if_pos (by omega)]
  simp only[hh];have e1:¬b/32=6:=by omega
  have e2:¬b/16=14:=by omega
  have e3:¬b/8=30:=by omega
  simp[e1,e2,e3,Utf8.runeError]
end Go.Ah.Tz
end
section
namespace Go.Ah.Tz
open Go.Proofs.Tryz (prog)
theorem Zbz(s:Tx)(a:Nat):∀(m i:Nat) (x y:Int),rTail s a (m+1) i x=some y→a+i+m<s.length
 |m,i,x,y,h=>by
  rw[rTail] at h;cases e:s[a+i]? with
  |none=>rw[e] at h; cases h
  |some c=>
   have hl:a+i<s.length:=(YLG e).1;rw[e] at h;cases m with
   |zero=>omega
   |succ m=>
    have h2:(if rCont c=true then none else rTail s a (m+1) (i+1) (rStep x c))=some y:=h;split at h2
    ·cases h2
    ·have:=Zbz s a m (i+1) _ _ h2;omega
theorem Qci(s:Tx)(a:Nat)(ha:a<s.length)(h:(runeR s a).2≠0):a+(runeR s a).2≤s.length:=by
 unfold runeR at h ⊢;rw[List.getElem?_eq_getElem ha] at h ⊢;simp only at h ⊢;cases e:rHead (s[a].toNat:Int) with
 |none=>rw[e] at h; simp at h
 |some p=>
  obtain⟨n,x,least⟩:=p;rw[e] at h;simp only at h ⊢;cases e2:rTail s a (n-1) 1 x with
  |none=>rw[e2] at h; simp[rEnd] at h
  |some y=>
   rw[e2] at h;have h3:(rEnd n least (some y)).2≤n:=by rw[rEnd]; split<;>simp
   by_cases hn:n≤1
   ·omega
   ·have:=Zbz s a (n-2) 1 x y (by rw[show n-2+1=n-1 by omega]; exact e2);omega
attribute [local irreducible] Ans.rd Ans.pu Ans.wr Ans.dr Ans.gr Ans.gw Ans.gl Ans.gd Ans.opt joinK W
set_option maxHeartbeats 1000000
theorem QcG{s:Tx}{a:Nat}(h:a<s.length):ZaZ [.iter 0] [.siter s a]=.ok (.tup [.bool true,iv a,.int .i32 (Utf8.decode ⟨s.toArray⟩ a).1]) [] [(0,.siter s (a+(Utf8.decode ⟨s.toArray⟩ a).2))]:=by
 have hb:Nat.blt a s.length=true:=by simpa[Nat.blt_eq] using h
 show (bif Nat.blt a s.length then _ else _)=_;rw[hb]; rfl
theorem Ycw{s:Tx}{a:Nat}(h:¬a<s.length):ZaZ [.iter 0] [.siter s a]=.ok (.tup [.bool false]) [0] []:=by
 have hb:Nat.blt a s.length=false:=by rw[Bool.eq_false_iff]; intro q; exact h (by simpa[Nat.blt_eq] using q)
 show (bif Nat.blt a s.length then _ else _)=_;rw[hb]; rfl
theorem c241(s:Tx)(hs:s.length≤big):PC 241 [.str s] (.tup [iv (nameR s 0 0).1,iv (nameR s 0 0).2]):=by
 rw[bigE] at hs;refine Qd hP g241_ok rfl rfl ?_;unfold g241;refine Zf rfl rfl ?_;refine Yj (ι:=Nat) (λa vs σ=>∃n:Nat,vs=[iv n]∧σ=[.siter s a]∧n≤a∧(a=0↔n=0)∧a≤s.length∧nameR s 0 0=nameR s a n) (λa=>s.length-a) 0 ⟨0,rfl,rfl,by omega,by simp,by omega,rfl⟩ ?_;rintro a vs σ again ⟨n,rfl,rfl,i1,i0,i2,hu⟩ hag;by_cases h:a<s.length;rotate_left
 ·refine Zf (Ycw h) rfl (Ya rfl (Qi (Ya rfl ?_)));rw[show nameR s a n=(a,n) by rw[nameR,dif_neg h]] at hu;rw[hu,show s.length=a by omega]; rfl
 refine Zf (QcG h) rfl (Ya rfl (Ze (Ya rfl (Ya rfl ?_))));obtain⟨d1,d2⟩:=YbU s a h;have hin:=Qci s a h;generalize Utf8.decode ⟨s.toArray⟩ a=p at d1 d2 ⊢;have hst:Yap s a n↔(isLet (p.1:Int)=false∧(a=0∨(isDig (p.1:Int)=false∧(p.1:Int)≠39))):=by
  unfold Yap;by_cases h0:(runeR s a).2=0
  ·have:=d2 h0;rw[this];have e1:isLet 65533=false:=by decide
   have e2:isDig 65533=false:=by decide
   simp[h0,e1,e2]
  ·rw[(d1 h0).1];simp[h0,i0]
 have stp:(isLet (p.1:Int)=false∧(a=0∨(isDig (p.1:Int)=false∧(p.1:Int)≠39)))→AVal.tup [iv a,iv n]=AVal.tup [iv (nameR s 0 0).1,iv (nameR s 0 0).2]:=by
  intro q;rw[hu,nameR,dif_pos h,dif_pos (hst.2 q)]
 have go:¬(isLet (p.1:Int)=false∧(a=0∨(isDig (p.1:Int)=false∧(p.1:Int)≠39)))→VV.rd (Xh .add false [iv n,(.int .i64 1)] [.siter s (a+p.2)]) λt31=>again [t31] [.siter s (a+p.2)]:=by
  intro q;have q2:¬Yap s a n:=λz=>q (hst.1 z);have h0:(runeR s a).2≠0:=λe=>q2 (Or.inl e);have:=(d1 h0).2;have:=hin h0;refine Ya (Yk ..) ?_;rw[Qf (n:=n) (by omega)];refine hag (a+p.2) _ _ (by omega) ⟨n+1,rfl,rfl,by omega,by omega,by omega,?_⟩;rw[hu,nameR,dif_pos h,dif_neg q2,(d1 h0).2]
 clear hag hu hst d1 d2 hin;generalize (p.1:Int)=r at stp go ⊢;refine Yd (c256 r) rfl g256_ok.plain rfl ?_;refine Ya rfl ?_;rcases YBE (!isLet r) with h1|h1
 rotate_left
 ·rw[h1];repeat first|refine Xa ?_|refine Zb ?_|refine Yb rfl ?_|refine Zc rfl ?_|refine Xc rfl ?_|refine Xd rfl ?_|refine Ya rfl ?_
  exact Qi (go (by have h1:isLet r=true:=(by simpa using h1); simp[h1]))
 rw[h1];have h1:isLet r=false:=by simpa using h1
 repeat first|refine Xa ?_|refine Zb ?_|refine Ya rfl ?_
 rcases YBE ((a:Int)==0) with h2|h2
 ·rw[h2];repeat first|refine Xa ?_|refine Zb ?_|refine Yb rfl ?_|refine Zc rfl ?_|refine Xc rfl ?_|refine Xd rfl ?_|refine Ya rfl ?_
  exact Ze (stp ⟨h1,Or.inl (by simpa using h2)⟩)
 rw[h2];have h2:a≠0:=by simpa using h2
 repeat first|refine Xa ?_|refine Zb ?_|refine Ya rfl ?_
 refine Yd (c257 r) rfl g257_ok.plain rfl ?_;repeat first|refine Xa ?_|refine Zb ?_|refine Ya rfl ?_
 rcases YBE (!isDig r) with h3|h3
 rotate_left
 ·rw[h3];repeat first|refine Xa ?_|refine Zb ?_|refine Yb rfl ?_|refine Zc rfl ?_|refine Xc rfl ?_|refine Xd rfl ?_|refine Ya rfl ?_
  exact Qi (go (by have h3:isDig r=true:=(by simpa using h3); simp[h2,h3]))
 rw[h3];have h3:isDig r=false:=by simpa using h3
 repeat first|refine Xa ?_|refine Zb ?_|refine Ya rfl ?_
 refine Yc (λh4=>stp ⟨h1,Or.inr ⟨h3,by simpa using h4⟩⟩) (λh4=>go ?_);have h4:r=39:=by simpa using h4
 simp[h2,h4]
theorem c223(s:Tx)(hs:s.length≤big):PC 223 [.str s] (.bool (nameOk s)):=by
 refine Qd hP g223_ok rfl rfl ?_;unfold g223;refine Yd (c241 s hs) rfl g241_ok.plain rfl ?_;unfold nameOk;generalize (nameR s 0 0).1=e;generalize (nameR s 0 0).2=n;refine Ya rfl (Ya rfl (Ya rfl ?_));rcases YBE (decide ((n:Int)>0)) with h1|h1
 rotate_left
 ·rw[h1];repeat first|refine Yb rfl ?_|refine Zc rfl ?_|refine Xc rfl ?_|refine Xd rfl ?_|refine Ya rfl ?_
  have h1:¬1≤n:=by simp at h1; omega
  simp[h1]
 rw[h1];repeat first|refine Xa ?_|refine Zb ?_|refine Ya rfl ?_
 rcases YBE (decide ((n:Int)≤24)) with h2|h2
 rotate_left
 ·rw[h2];repeat first|refine Yb rfl ?_|refine Zc rfl ?_|refine Xc rfl ?_|refine Xd rfl ?_|refine Ya rfl ?_
  have h2:¬n≤24:=by simp at h2; omega
  simp[h2]
 rw[h2];repeat first|refine Xa ?_|refine Zb ?_|refine Ya rfl ?_
 rcases YBE ((e:Int)==(s.length:Int)) with h3|h3
 rotate_left
 ·rw[h3];repeat first|refine Yb rfl ?_|refine Zc rfl ?_|refine Xc rfl ?_|refine Xd rfl ?_|refine Ya rfl ?_
  have h3:¬e=s.length:=by simp at h3; omega
  simp[h3]
 rw[h3];repeat first|refine Xa ?_|refine Zb ?_|refine Ya rfl ?_
 have h3:e=s.length:=by simp at h3; omega
 subst h3;rcases YBE (decide ((s.length:Int)≤40)) with h4|h4
 rotate_left
 ·rw[h4];repeat first|refine Yb rfl ?_|refine Zc rfl ?_|refine Xc rfl ?_|refine Xd rfl ?_|refine Ya rfl ?_
  have h4:¬s.length≤40:=by simp at h4; omega
  simp[h4]
 rw[h4];repeat first|refine Xa ?_|refine Zb ?_|refine Ya rfl ?_
 refine Yd (c242 _) rfl g242_ok.plain rfl ?_;repeat first|refine Xa ?_|refine Zb ?_|refine Ya rfl ?_
 have h1:1≤n:=by simp at h1; omega
 have h2:n≤24:=by simp at h2; omega
 have h4:s.length≤40:=by simp at h4; omega
 simp[h1,h2,h4]
end Go.Ah.Tz
end
section
namespace Go.Ah.Tz
open Go.Proofs.Tryz (prog)
theorem Ya3(a:Int):lbN a=0∨lbN a=1∨lbN a=2∨lbN a=3:=by unfold lbN; split<;>omega
attribute [local irreducible] Ans.rd Ans.pu Ans.wr Ans.dr Ans.gr Ans.gw Ans.gl Ans.gd Ans.opt joinK W
theorem c252(a:Int):PC 252 [iv8 a] (iv8 (lbN a)):=by
 refine Qd hP g252_ok rfl rfl ?_;unfold g252;refine Ya rfl (YB rfl rfl ?_);refine Yc (λh=>?_) (λh=>?_)
 ·rw[lbN,if_pos (by simpa using h)]
 ·rw[lbN,if_neg (by simpa using h)]
def joinT:AVal:=.agg [iv8 0,iv8 1,iv8 2,iv8 3,iv8 1,iv8 1,iv8 3,iv8 3,iv8 2,iv8 3,iv8 2,iv8 3,iv8 3,iv8 3,iv8 3,iv8 3]
theorem c263:PC 263 [] joinT:=by
 refine Qd hP g263_ok rfl rfl ?_;unfold g263;refine Zf rfl rfl (Ya rfl (Ya rfl (Ya rfl (Ya rfl (Ya rfl (Zf rfl rfl (Ys rfl ?_)))))));rfl
theorem c250(a b:Int):PC 250 [iv8 a,iv8 b] (iv8 (joinL a b)):=by
 refine Qd hP g250_ok rfl rfl ?_;unfold g250;refine Qj c263 rfl g263_ok.plain rfl ?_;refine Qj (c252 a) rfl g252_ok.plain rfl ?_;have h1:=Ya3 a;have h2:=Ya3 b;unfold joinL;have k:=c252 b;generalize lbN a=p at h1 ⊢;generalize lbN b=q at h2 k ⊢;rcases h1 with h1|h1|h1|h1<;>subst h1<;>refine Yi rfl ?_<;>refine Qj k rfl g252_ok.plain rfl ?_<;>rcases h2 with h2|h2|h2|h2<;>subst h2<;>exact Yi rfl (QN (by kernel_rfl) rfl)
theorem c253(a b:Int):PC 253 [iv8 a,iv8 b] (.bool (decide (joinL a b=lbN b))):=by
 refine Qd hP g253_ok rfl rfl ?_;unfold g253;refine Yd (c250 a b) rfl g250_ok.plain rfl ?_;refine Yd (c252 b) rfl g252_ok.plain rfl ?_;refine Ya (Xf ..) ?_;rfl
theorem YaM(b:Int):joinL b b=lbN b:=by rw[joinL,if_pos (Or.inl rfl)]
end Go.Ah.Tz
end
section
namespace Go.Ah.Tz
open Go.Proofs.Tryz (prog)
attribute [local irreducible] Ans.rd Ans.pu Ans.wr Ans.dr Ans.gr Ans.gw Ans.gl Ans.gd Ans.opt joinK W
set_option maxHeartbeats 1000000
theorem Zcy(x:Nm):nmL x=if x.op=6 then 3 else if 8≤x.op∧x.op≤12 then nmLs 0 x.kids else 0:=by
 rw[Zcq];by_cases h:x.op=6
 ·rw[if_neg (by omega),if_pos h,if_pos h]
 ·rw[if_neg h,if_neg h]
theorem c251':∀(k:Nat) (x:Nm),SizeOf.sizeOf x≤k→nmFit x=true→PC 251 [.agg (nmC x)] (iv8 (nmL x))
 |0,x,h,_=>by cases x; simp at h
 |k+1,x,hk,hf=>by
  rw[Yx];refine Qd hP g251_ok rfl rfl ?_;unfold g251;refine Zf rfl rfl ?_;rw[Zcy];have hlen:=ZZ hf;rw[bigE] at hlen;generalize hB:([]++[ABlk.box [iv8 x.op,iv x.n,iv8 x.who,.rsl false false 4 (x.kids.map nmC)]]:List ABlk)=base;have hB0:hget base 0=.box [iv8 x.op,iv x.n,iv8 x.who,.rsl false false 4 (x.kids.map nmC)]:=by rw[←hB]; rfl
  clear hB;refine Ya rfl (Ya (ld hB0 rfl) (Ya (Xf ..) ?_));refine Yc (λh=>?_) (λh=>?_)
  ·rw[if_pos (by simpa using h)]
  rw[if_neg (by simpa using h)];refine Ya rfl (Ya (ld hB0 rfl) (Ya rfl ?_));refine Q9 rfl (ld hB0 rfl) rfl ?_;rw[show (decide (x.op ≥ 8)&&decide (x.op≤12))=decide (8≤x.op∧x.op≤12) by simp];refine Yc (λh=>?_) (λh=>?_);rotate_left
  ·rw[if_neg (by simpa using h)]
  rw[if_pos (by simpa using h)];refine Ya rfl (Ya (ld hB0 rfl) (Ya rfl ?_));clear hB0;refine Yj (ι:=Nat) (λi vs σ=>∃n,vs=[iv i,iv8 n]∧i≤x.kids.length∧nmLs 0 x.kids=nmLs n (x.kids.drop i)) (λi=>x.kids.length-i) 0 ⟨0,rfl,by omega,by simp⟩ ?_;rintro i vs σ again ⟨n,rfl,hi,hu⟩ hag;refine Ya rfl ?_;refine Yc (λh=>?_) (λh=>?_)
  ·have h:i<x.kids.length:=by simpa using h
   have hdr:x.kids.drop i=x.kids[i]::x.kids.drop (i+1):=by rw[YLD h]
   rw[hdr,nmLs] at hu;have hm:x.kids[i]∈x.kids:=List.getElem_mem h;have hix:=λ(s:List ABlk)=>Yo s nmC false false 4 x.kids .i64 i h;have hsz:=Xad hm;have hfk:=ZS hf hm;generalize x.kids[i]=y at hu hix hsz hfk;refine Ya (hix _) (Ya (ldr (nmLd _)) ?_);refine Xx (row:=[iv8 y.op,iv y.n,iv8 y.who,.rsl false false 4 (y.kids.map nmC)]) (row':=[iv8 y.op,iv y.n,iv8 y.who,.rsl false false 4 (y.kids.map nmC)]) (by rw[Yx]; rfl) rfl rfl ?_;have hB1:=Zm σ (ABlk.box [iv8 y.op,iv y.n,iv8 y.who,.rsl false false 4 (y.kids.map nmC)]);have hN:Zd true 4 [.bptr σ.length 0] (σ++[ABlk.box [iv8 y.op,iv y.n,iv8 y.who,.rsl false false 4 (y.kids.map nmC)]])=.ok (.agg (nmC y)) [σ.length] []:=ld hB1 (by rw[Yx]; rfl);refine Ya hN ?_;refine Yd (c251' k y (by omega) hfk) rfl g251_ok.plain (nmRo _) ?_;refine Yd (c250 _ _) rfl g250_ok.plain rfl ?_;refine Ya (Yk ..) ?_;rw[Qf (n:=i) (by omega)];exact hag (i+1) _ _ (by omega) ⟨_,rfl,by omega,hu⟩
  ·have h:i=x.kids.length:=by simp at h; omega
   subst h;rw[List.drop_length,nmLs] at hu;rw[hu]; rfl
theorem c251(x:Nm)(hf:nmFit x=true):PC 251 [.agg (nmC x)] (iv8 (nmL x)):=c251' _ x (Nat.le_refl _) hf
end Go.Ah.Tz
end
