/- Part of the proof that ZoneKeeps holds of the program for arguments that together hold at most 1048576 values and letters; no other condition. -/
import Derived.Test.YtflcpnaigpgciaaGreatDoorP4
set_option linter.all false
section
namespace Go.Ah.Tz
open Go.Proofs.Tryz (prog)
theorem Xcq(f:Int→AVal)(z:AVal)(o:Option Int):lookV true z (o.map f)=.tup [(o.map f).getD z,.bool o.isSome]:=by cases o<;>rfl
theorem QbP{σ:List ABlk}{b:Nat}{row:List AVal}(h:hget σ b=.box [.rptr row 0])(l:List Int)(id:FuncId):Zv σ 1000 [rowV l,.func (.func id) [] [.bptr b 0]]=some ([rowV l,.func (.func id) [] [.rptr [.rptr row 0] 0]],[b]):=by
 show Zv σ (997+1+1+1) _=_;simp[Zv,h,AVal.ro]
attribute [local irreducible] Ans.rd Ans.pu Ans.wr Ans.dr Ans.gr Ans.gw Ans.gl Ans.gd Ans.opt joinK W
set_option maxHeartbeats 4000000
@[reducible] def bkC(b:Bk):List AVal:=[cdV b.cards,foV b.formats]
theorem YbB(b:Bk)(l:List Int)(hl:l.length≤big)(most:Int){σ:List ABlk}{b4:Nat}(hb:hget σ b4=.box [.rptr (bkC b) 0]){R K:List ABlk→Prop}(hR:Qo b.cards.length l most=false→∀σ',Old σ σ'→R σ')(hK:Qo b.cards.length l most=true→∀σ',Old σ σ'→K σ') :
  VV.wr (Xe [.nils,(.int .i64 0)] [] σ) σ λt11_62 σ=>VV.wr (Xb 2 [t11_62,.agg [rowV l,iv most]] σ) σ λ_ σ=>
  VV.rd (Ya 0 [t11_62] σ) λt88_63=>VV.rd (Yd false 1 [t88_63] σ) λt89_64=>VV.rd (Qf [t89_64] σ) λt90_65=>
  VV.rd (Ya 1 [t11_62] σ) λt91_66=>VV.rd (Yd false 1 [t91_66] σ) λt92_67=>VV.rd (Zk .gtr false [t90_65,t92_67] σ) λt93_68=>
  VV.gr t93_68 false (λk=>VV.rd (Ya 0 [t11_62] σ) k) λt95_69=>VV.gr t93_68 false (λk=>VV.rd (Yd false 1 [t95_69] σ) k) λt96_70=>
  VV.gr t93_68 false (λk=>VV.rd (Zt (.func 186) 0 [.bptr b4 0] σ) k) λt97_71=>VV.gw t93_68 false (λk=>VV.call (.call 185) [t96_70,t97_71] σ k) σ λt98_72 σ=>
  VV.rd (Zo [t93_68,(.bool true),t98_72] σ) λt99_73=>VV.test t99_73 (R σ) (K σ):=by
 refine Zw (row:=[rowV l,iv most]) rfl rfl rfl ?_;have hB:=Yj σ (ABlk.box [rowV l,iv most]);have hb':hget (σ++[ABlk.box [rowV l,iv most]]) b4=.box [.rptr (bkC b) 0]:=Ym _ hb (by simp);have ho:=Old.app σ [ABlk.box [rowV l,iv most]];generalize σ++[ABlk.box [rowV l,iv most]]=τ at hB hb' ho ⊢;generalize σ.length=c at hB ⊢;refine Za rfl (Za (ld hB rfl) (Za (v:=iv l.length) (rd:=[]) (by simp[Yg]) (Za rfl (Za (ld hB rfl) (Za (XX ..) ?_)))));refine Zch (d:=l.any λx=>decide (x<0)||decide ((b.cards.length:Int)≤x)) (λ_=>rfl) (λ_=>ld hB rfl) (λ_=>rfl) (λ_ k hk=>?_) ?_
 ·exact Xz (c185 l hl 186 [] [.rptr [.rptr (bkC b) 0] 0] g186_ok.plain (λx=>decide (x<0)||decide ((b.cards.length:Int)≤x)) (λx _=>c186 b x) (λx=>rfl) rfl) rfl g185_ok.plain (QbP hb' l 186) rfl hk
 have he:=QbG b.cards.length l most;refine Qb (λh=>hR ?_ _ ho) (λh=>hK ?_ _ ho)
 ·rw[←he,h]; rfl
 ·rw[←he,h]; rfl
theorem ZcJ(b:Bk)(next:Int)(u:Th)(met:Bool) :
  (!((((((((met||decide (u.card<0))||decide ((b.cards.length:Int)≤u.card)) || !((b.cards[u.card.toNat]?).getD default).unit)||decide (u.harm<0))||decide (1000000<u.harm))||decide (u.id<1))||decide (next≤u.id))))=(Qq b next u && !met):=by
 rw[Qq];cases met with
 |true=>simp
 |false=>
  by_cases h1:u.card<0
  ·have:¬0≤u.card:=by omega
   simp[h1,this]
  by_cases h2:(b.cards.length:Int)≤u.card
  ·have:¬u.card<b.cards.length:=by omega
   simp[h2,this]
  have e1:0≤u.card:=by omega
  have e2:u.card<b.cards.length:=by omega
  have e3:u.card.toNat<b.cards.length:=by omega
  simp only[h1,h2,e1,e2,decide_true,decide_false,Bool.or_false,Bool.true_and,Bool.not_false,Bool.and_true,Bool.false_or];rw[List.getElem?_eq_getElem e3];simp only[Option.map_some,Option.getD_some];generalize b.cards[u.card.toNat].unit=q;rw[Bool.eq_iff_iff];cases q<;>simp<;>omega
theorem c144(b:Bk)(s:St)(side:Int)(j:Nat)(x:Sd)(hx:SdAt (stC s) j x)(hj:∀σ,Zh 2 8 [.rptr (stC s) (0+7),iv side] σ=.ok (.rptr (stC s) j) [] [])(hs:SdLe 1000000000 x)(ids:List (Int×Int)){m:Nat}{σ:List ABlk}(hm:hget σ m=.map (mpG iv ids)){K:AVal→List ABlk→Prop}
 (hF:(Xm b.cards.length x&&Qr b s.next (ids.map (·.1)) x.units)=false→∀σ',K (.bool false) σ')
 (hT:(Xm b.cards.length x&&Qr b s.next (ids.map (·.1)) x.units)=true→∀σ',Bt m σ σ'→hget σ' m=.map (mpG iv (ids++x.units.map λu=>(u.id,side)))→K (.bool true) σ') :
  g144 VV [.rptr (bkC b) 0,.rptr (stC s) 0,iv side,.map m] σ K:=by
 unfold g144;refine Xd rfl (ZL _ _) ?_;have hB:=Yj σ (ABlk.box [.rptr (bkC b) 0]);have hm':hget (σ++[ABlk.box [.rptr (bkC b) 0]]) m=.map (mpG iv ids):=Ym _ hm (by simp);have ho:=Old.app σ [ABlk.box [.rptr (bkC b) 0]];have hml:=Zp hm (by simp);have hne:m≠σ.length:=by omega
 generalize σ++[ABlk.box [.rptr (bkC b) 0]]=τ at hB hm' ho ⊢;generalize σ.length=c at hB hne ⊢;refine Za rfl (Za rfl (Za (hj _) (Za rfl (Za rfl (Za (ldr hx.h0) ?_)))));refine Xc (c57 _) rfl g57_ok.plain rfl (Za rfl ?_);refine Zbi (λ_=>rfl) (λ_=>rfl) (λ_=>rfl) (λ_=>ldr hx.h1) (λ_=>ZJ ..) ?_;refine Ych (λ_=>rfl) (λ_=>rfl) (λ_=>rfl) (λ_=>ldr hx.h1) (λ_ k hk=>Xc (c57 _) rfl g57_ok.plain rfl hk) (λ_=>rfl) ?_;refine Zbi (λ_=>rfl) (λ_=>rfl) (λ_=>rfl) (λ_=>ldr hx.h2) (λ_=>ZJ ..) ?_;refine Zbi (λ_=>rfl) (λ_=>rfl) (λ_=>rfl) (λ_=>ldr hx.h2) (λ_=>XX ..) ?_;refine YcA (λ_=>rfl) (λ_=>rfl) (λ_=>rfl) (λ_=>ldr hx.h6) (v5:=iv x.units.length) (q5:=[]) (λ_=>by simp[Yg]) (λ_=>XX ..) ?_;refine Qb (λh=>hF ?_ _) (λh=>?_)
 ·have:Xm b.cards.length x=false:=by
   rw[Bool.eq_false_iff]; intro hh;simp only[Xm,Bool.and_eq_true,decide_eq_true_eq] at hh;obtain⟨p1,p2,p3,p4,p5,_,_,_,_,p6⟩:=hh;simp only[p1,p3,Bool.not_true,Bool.false_or,Bool.or_false,Bool.or_eq_true,decide_eq_true_eq] at h;omega
  rw[this]; rfl
 simp only[Bool.or_eq_false_iff,Bool.not_eq_false',decide_eq_false_iff_not] at h;obtain⟨⟨⟨⟨⟨p1,p2⟩,p3⟩,p4⟩,p5⟩,p6⟩:=h;have hh:Xm b.cards.length x=(Qo b.cards.length x.deck 60&&(Qo b.cards.length x.hand 10&&(Qo b.cards.length x.grave 1000000&&Qo b.cards.length x.told 1000000))):=by
  have q2:decide (0≤x.mana)=true:=by simp; omega
  have q4:decide (0≤x.most)=true:=by simp; omega
  have q5:decide (x.most≤10)=true:=by simp; omega
  have q6:decide (x.units.length≤7)=true:=by simp; omega
  rw[Xm,p1,p3,q2,q4,q5,q6]; simp
 rw[hh] at hF hT;clear hh p1 p2 p3 p4 p5 p6;refine Za rfl (Za rfl (Za (ldr hx.h3) (Za rfl (Za rfl (Za rfl (Za (ldr hx.h4) (Za rfl (Za rfl (Za rfl (Za (ldr hx.h5) (Za rfl (Za rfl (Za rfl (Za (ldr hx.h7) (Za rfl (Za rfl ?_))))))))))))))));have d1:=hs.deck;have d2:=hs.hand;have d3:=hs.grave;have d4:=hs.told;have d5:=hs.units;refine Yy 5 (Zi (Za rfl (Qd (Za rfl ?_))));refine YbB b x.deck (by rw[bigE]; omega) 60 hB (λh _ _=>hF (by rw[h]; rfl) _) (λa1 σ1 o1=>Za rfl (Zi (Za rfl (Qd (Za rfl ?_)))));refine YbB b x.hand (by rw[bigE]; omega) 10 (o1.get hB (by simp)) (λh _ _=>hF (by rw[a1,h]; rfl) _) (λa2 σ2 o2=>Za rfl (Zi (Za rfl (Qd (Za rfl ?_)))))
 replace o2:=o1.trans o2
 refine YbB b x.grave (by rw[bigE]; omega) 1000000 (o2.get hB (by simp)) (λh _ _=>hF (by rw[a1,a2,h]; rfl) _) (λa3 σ3 o3=>Za rfl (Zi (Za rfl (Qd (Za rfl ?_)))))
 replace o3:=o2.trans o3
 refine YbB b x.told (by rw[bigE]; omega) 1000000 (o3.get hB (by simp)) (λh _ _=>hF (by rw[a1,a2,a3,h]; rfl) _) (λa4 σ4 o4=>Za rfl (Zi (Za rfl (Xg ?_))))
 replace o4:=o3.trans o4
 rw[a1,a2,a3,a4] at hF hT;simp only[Bool.and_self,Bool.true_and] at hF hT;have hB4:=o4.get hB (by simp);have hm4:=o4.get hm' (by simp);have oo:=ho.trans o4;clear o1 o2 o3 o4 ho hB hm' hm;refine Za rfl (Za rfl (Za (ldr hx.h6) (Za (v:=iv x.units.length) (rd:=[]) (by simp[Yg]) ?_)));refine Yl (ι:=Nat) (λi vs τ=>vs=[iv i]∧i≤x.units.length∧hget τ c=.box [.rptr (bkC b) 0]∧hget τ m=.map (mpG iv (ids++(x.units.take i).map λu=>(u.id,side)))∧Bt m σ τ∧Qr b s.next (ids.map (·.1)) x.units=Qr b s.next ((ids++(x.units.take i).map λu=>(u.id,side)).map (·.1)) (x.units.drop i)) (λi=>x.units.length-i) 0
  ⟨rfl,by omega,hB4,by simpa using hm4,⟨oo.1,λc hc _=>oo.2 c hc⟩,by simp⟩ ?_
 clear hB4 hm4 oo;rintro i vs τ1 again ⟨rfl,hi,hB,hm,hbt,hr⟩ hag;refine Za rfl (Qb (λh=>?_) (λh=>?_));rotate_left
 ·have h:i=x.units.length:=by simp at h; omega
  subst h;rw[List.drop_length,Qr] at hr;rw[List.take_length] at hm;exact hT hr _ hbt hm
 have h:i<x.units.length:=by simpa using h
 have hix:=λ(s:List ABlk)=>Xq s thC false false 4 x.units .i64 i h;have htk:=Xx _ _ h;rw[YLD h,Qr] at hr;generalize x.units[i]=u at hix htk hr;generalize hq:ids++(x.units.take i).map (λu=>(u.id,side))=cur at hm hr;have hcur:ids++(x.units.take (i+1)).map (λu=>(u.id,side))=cur++[(u.id,side)]:=by rw[htk,List.map_append,←List.append_assoc,hq]; rfl
 refine Za (hix _) (Za (ldr rfl) (Zw (row:=thC u) (row':=thC u) rfl rfl rfl ?_));have hU:=Yj τ1 (ABlk.box (thC u));have hB':hget (τ1++[ABlk.box (thC u)]) c=.box [.rptr (bkC b) 0]:=Ym _ hB (by simp);have hm':hget (τ1++[ABlk.box (thC u)]) m=.map (mpG iv cur):=Ym _ hm (by simp);have hml':=Zp hm' (by simp);have hbt':Bt m σ (τ1++[ABlk.box (thC u)]):=hbt.trans (Bt.gr m (Old.app _ _).1 (Old.app _ _).2);generalize τ1++[ABlk.box (thC u)]=τ2 at hU hB' hm' hml' hbt' ⊢;generalize τ1.length=d at hU ⊢;refine Za rfl (Za (ld hU rfl) (Za (Zbp iv _ _ hm' _) ?_));rw[Xcq];refine Za rfl (Za rfl ?_);refine ZaN (λ_=>rfl) (λ_=>ld hU rfl) (λ_=>ZJ ..) ?_;refine ZcR (λ_=>rfl) (λ_=>ld hU rfl) (λ_=>ld hB' rfl) (λ_=>rfl) (λ_=>rfl) (λ_=>ldr rfl) (v7:=iv b.cards.length) (q7:=[]) (λ_=>by simp[Yg]) (λ_=>QT ..) ?_;refine QcG (d:=!((b.cards[u.card.toNat]?).getD default).unit) (λ_=>ld hB' rfl) (λ_=>rfl) (λ_=>rfl) (λ_=>ldr rfl) (λ_=>rfl) (λ_=>ld hU rfl) (v7:=.rptr (cdC ((b.cards[u.card.toNat]?).getD default)) 0) (q7:=[]) (λhc=>?_) (λ_=>rfl) (λ_=>ldr (cdLd1 _)) (λ_=>rfl) ?_
 ·simp only[Bool.or_eq_false_iff,decide_eq_false_iff_not] at hc;have e3:u.card.toNat<b.cards.length:=by omega
  rw[List.getElem?_eq_getElem e3];exact Za9 _ cdC _ _ _ b.cards _ u.card (by omega) e3
 refine ZaN (λ_=>rfl) (λ_=>ld hU rfl) (λ_=>ZJ ..) ?_;refine ZaN (λ_=>rfl) (λ_=>ld hU rfl) (λ_=>XX ..) ?_;refine ZaN (λ_=>rfl) (λ_=>ld hU rfl) (λ_=>ZJ ..) ?_;refine YaN (λ_=>rfl) (λ_=>ld hU rfl) (λ_=>rfl) (λ_=>rfl) (λ_=>rfl) (v6:=iv s.next) (q6:=[]) (λ_=>ldr rfl) (λ_=>QT ..) ?_;have hue:=ZcJ b s.next u (ilook u.id cur).isSome;have hk:=Xap u.id cur;refine Qb (λh2=>hF ?_ _) (λh2=>?_)
 ·rw[h2] at hue;rw[hr,←hk];have hue:(Qq b s.next u && !(ilook u.id cur).isSome)=false:=hue.symm;cases h5:Qq b s.next u with
  |false=>rfl
  |true=>
   rw[h5] at hue;have:(ilook u.id cur).isSome=true:=by simpa using hue
   rw[this]; rfl
 ·rw[h2] at hue;have hue:(Qq b s.next u && !(ilook u.id cur).isSome)=true:=hue.symm;simp only[Bool.and_eq_true,Bool.not_eq_true'] at hue;have hnone:ilook u.id cur=none:=by
   have:=hue.2;cases h5:ilook u.id cur with
   |none=>rfl
   |some v=>rw[h5] at this; cases this
  rw[hue.1,←hk,hue.2,Bool.not_false,Bool.true_and,Bool.true_and] at hr;refine Za rfl (Za (ld hU rfl) (Xd (Qcx iv hm' _ side hnone) (Xo _ hml') (Za (Xi ..) ?_)));rw[Qe (n:=i) (by omega)];refine hag (i+1) _ _ (by omega) ⟨rfl,by omega,Qp hB' (by simp) (λe=>hne e),?_,hbt'.trans ⟨by simp,λc hc hne=>Qm _ hc hne⟩,?_⟩
  ·rw[hcur]; exact Xj _ hml'
  ·rw[hcur,hr,List.map_append]; rfl
end Go.Ah.Tz
end
section
namespace Go.Ah.Tz
open Go.Proofs.Tryz (prog)
theorem Ya2(k:Int)(a:Int):∀l:List Th,ilook a (l.map λu=>(u.id,k))=(fnd l a).map λ_=>k
 |[]=>rfl
 |u::l=>by
  have:=Ya2 k a l;simp only[List.map_cons,ilook,fnd,List.findIdx?_cons];by_cases h:u.id=a
  ·have h2:(a==u.id)=true:=by simp[h]
   simp[h]
  ·have h2:(a==u.id)=false:=by simp; exact λe=>h e.symm
   simp only[h2,Bool.false_eq_true,if_false,decide_eq_false h,this,fnd,Option.map_map];rfl
theorem Xb6(s:St)(a:Int):ilook a (s.s0.units.map (λu=>(u.id,(0:Int)))++s.s1.units.map (λu=>(u.id,(1:Int))))=if (unitR s a).2.2=true then some (unitR s a).1 else none:=by
 rw[Yau,Ya2,Ya2,unitR];cases fnd s.s0.units a with
 |some k=>rfl
 |none=>cases fnd s.s1.units a<;>rfl
attribute [local irreducible] Ans.rd Ans.pu Ans.wr Ans.dr Ans.gr Ans.gw Ans.gl Ans.gd Ans.opt joinK W
set_option maxHeartbeats 4000000
theorem bkLd(b:Bk):partA true 0 2 (bkC b)=some (bkV b):=rfl
theorem Xt{e:Int}{b:Bk}{s:St}{bare:Bool}(h:mayR e b s bare=true):e=0∧1≤s.turn∧s.turn≤4096∧0≤s.mover∧s.mover≤1∧0≤s.phase∧s.phase≤2∧0≤s.result∧s.result≤3∧((s.result==0)==(s.phase != 2))=true∧1≤s.next∧s.next≤1000000∧s.attack.length≤7:=by
 simp only[mayR,Bool.and_eq_true,decide_eq_true_eq] at h;obtain⟨h1,h2,h3,h4,h5,h6,h7,h8,h9,h10,h11,h12,h13,h14⟩:=h;refine⟨h1,h2,h3,h4,h5,h6,h7,h8,h9,h10,h11,h12,?_⟩;by_cases hp:s.phase≠1
 ·rw[if_pos hp] at h14; simp at h14; simp[h14]
 ·rw[if_neg hp] at h14; simp at h14; exact h14.2.2.1
theorem Yb6(o:Option Int):lookV true (iv 0) (o.map iv)=.tup [iv (o.getD 0),.bool o.isSome]:=by cases o<;>rfl
theorem Zb6(o:Option Bool):lookV false (.bool false) (o.map AVal.bool)=.bool (o.getD false):=by cases o<;>rfl
theorem ZbB(t:Int):∀l:List Int,(ilook t (l.map λa=>(a,true))).getD false=l.contains t
 |[]=>rfl
 |a::l=>by
  simp only[List.map_cons,ilook,List.contains_cons];cases h:t==a with
  |true=>rfl
  |false=>simp only[Bool.false_eq_true,if_false,Bool.false_or]; exact ZbB t l
theorem c111(b:Bk)(hf:bkFit b=true)(hsm:Yo b.cards)(s:St)(hs:StLe 1000000000 s)(bare:Bool):PC 111 [.rptr (bkC b) 0,.rptr (stC s) 0,.bool bare] (.bool (mayR (bkR b).1 b s bare)):=by
 have h143:=c143 b hf hsm;generalize (bkR b).1=e at h143 ⊢;generalize (bkR b).2=ep at h143;have hat:=hs.attack;refine Ye hP g111_ok rfl rfl ?_;unfold g111;refine Za rfl (Za rfl (Za (ldr rfl) (Za (ZJ ..) ?_)));refine Qh λk4 hk4=>?_;have kbad:(mayR e b s bare=true→False)→k4 [.bool true] []:=by
  intro h; rw[hk4]; refine Qd ?_;rw[Bool.eq_false_iff.2 (λhm=>h hm)]
 apply cutF (R:=k4 [.bool false] []) (1≤s.turn∧s.turn≤4096∧0≤s.mover∧s.mover≤1∧0≤s.phase∧s.phase≤2∧0≤s.result∧s.result≤3∧((s.result==0)==(s.phase != 2))=true∧1≤s.next∧s.next≤1000000∧s.attack.length≤7∧e=0)
 ·intro hR;clear hk4;refine Qb (λh=>by rw[h]; exact kbad (λhm=>by have:=Xt hm; simp at h; omega)) (λb1=>Za rfl (Za rfl (Za (ldr rfl) (Za (XX ..) ?_))));refine Qb (λh=>by rw[h]; exact kbad (λhm=>by have:=Xt hm; simp at h; omega)) (λb2=>Za rfl (Za rfl (Za (ldr rfl) (Za (ZJ ..) ?_))));refine Qb (λh=>by rw[h]; exact kbad (λhm=>by have:=Xt hm; simp at h; omega)) (λb3=>Za rfl (Za rfl (Za (ldr rfl) (Za (XX ..) ?_))));refine Qb (λh=>by rw[h]; exact kbad (λhm=>by have:=Xt hm; simp at h; omega)) (λb4=>Za rfl (Za rfl (Za (ldr rfl) (Za (ZJ ..) ?_))));refine Qb (λh=>by rw[h]; exact kbad (λhm=>by have:=Xt hm; simp at h; omega)) (λb5=>Za rfl (Za rfl (Za (ldr rfl) (Za (XX ..) ?_))));refine Qb (λh=>by rw[h]; exact kbad (λhm=>by have:=Xt hm; simp at h; omega)) (λb6=>Za rfl (Za rfl (Za (ldr rfl) (Za (ZJ ..) ?_))));refine Qb (λh=>by rw[h]; exact kbad (λhm=>by have:=Xt hm; simp at h; omega)) (λb7=>Za rfl (Za rfl (Za (ldr rfl) (Za (XX ..) ?_))));refine Qb (λh=>by rw[h]; exact kbad (λhm=>by have:=Xt hm; simp at h; omega)) (λb8=>Za rfl (Za rfl (Za (ldr rfl) (Za (Zf ..) (Za rfl (Za rfl (Za (ldr rfl) (Za (ZU ..) (Za (XcN ..) ?_)))))))));have hx:(!(decide (s.result=0)==decide (s.phase≠2))) = !((s.result==0)==(s.phase != 2)):=by
   congr 1
   have e1:decide (s.result=0)=(s.result==0):=by rw[Bool.eq_iff_iff]; simp
   have e2:decide (s.phase≠2)=(s.phase != 2):=by rw[Bool.eq_iff_iff]; simp
   rw[e1,e2]
  rw[hx];refine Qb (λh=>by rw[h]; exact kbad (λhm=>by have:=(Xt hm).2.2.2.2.2.2.2.2.2.1; rw[this] at h; cases h)) (λb9=>Za rfl (Za rfl (Za (ldr rfl) (Za (ZJ ..) ?_))));refine Qb (λh=>by rw[h]; exact kbad (λhm=>by have:=Xt hm; simp at h; omega)) (λb10=>Za rfl (Za rfl (Za (ldr rfl) (Za (XX ..) ?_))));refine Qb (λh=>by rw[h]; exact kbad (λhm=>by have:=Xt hm; simp at h; omega)) (λb11=>Za rfl (Za rfl (Za (ldr rfl) (Za (v:=iv s.attack.length) (rd:=[]) (by simp[Yg]) (Za (XX ..) ?_)))));refine Qb (λh=>by rw[h]; exact kbad (λhm=>by have:=Xt hm; simp at h; omega)) (λb12=>Za rfl (Za (ldr (bkLd b)) ?_));refine Xc h143 rfl g143_ok.plain rfl (Za rfl (Za (ZU ..) ?_));by_cases he:e=0
  ·rw[show decide (e≠0)=false by simp[he]];simp at b1 b2 b3 b4 b5 b6 b7 b8 b10 b11 b12;exact hR ⟨by omega,by omega,by omega,by omega,by omega,by omega,by omega,by omega,by simpa using b9,by omega,by omega,by omega,he⟩
  ·rw[show decide (e≠0)=true by simp[he]];exact kbad (λhm=>he (Xt hm).1)
 rintro⟨p1,p2,p3,p4,p5,p6,p7,p8,p9,p10,p11,p12,p13⟩;rw[hk4]; clear hk4 kbad k4;have hmay:mayR e b s bare=(Zu b s&&(if s.phase≠1 then decide (s.attack.length=0) else !(decide (s.attack.length=0) && !bare)&&(s.struck&&attOk s [] s.attack))):=by
  rw[mayR,decide_eq_true p13,decide_eq_true p1,decide_eq_true p2,decide_eq_true p3,decide_eq_true p4,decide_eq_true p5,decide_eq_true p6,decide_eq_true p7,decide_eq_true p8,p9,decide_eq_true p10,decide_eq_true p11,decide_eq_true p12];rfl
 rw[hmay]; clear hmay h143 p1 p2 p3 p4 p5 p6 p7 p8 p9 p10 p11 p13;have w1:IntKind.i64.wrap (0+1)=1:=by decide
 have w2:IntKind.i64.wrap (1+1)=2:=by decide
 refine Xg (Xd rfl rfl (Yy 3 (Zi (Za rfl (Qd ?_)))));refine Zs hP rfl g144_ok rfl (c144 b s 0 7 s.s0 (sdAt0 s) (λ_=>rfl) hs.s0 [] (by rfl) (λh σ1=>?_) (λh σ1 t1 m1=>?_))
 ·refine Za rfl (Qd ?_);have h:(Xm b.cards.length s.s0&&Qr b s.next [] s.s0.units)=false:=h;have:Zu b s=false:=by
   rw[Zu,←Bool.and_assoc,h]; rfl
  rw[this]; rfl
 refine Za rfl (Xg (Za rfl ?_));rw[w1];refine Zi (Za rfl (Qd ?_));refine Zs hP rfl g144_ok rfl (c144 b s 1 15 s.s1 (sdAt1 s) (λ_=>rfl) hs.s1 _ m1 (λh2 σ2=>?_) (λh2 σ2 t2 m2=>?_))
 ·refine Za rfl (Qd ?_);have e0:(([]++s.s0.units.map λu=>(u.id,(0:Int))):List (Int×Int)).map (·.1)=s.s0.units.map Th.id:=by simp[Function.comp_def]
  rw[e0] at h2;have:Zu b s=false:=by
   rw[Zu,h2]; simp
  rw[this]; rfl
 have hso:Zu b s=true:=by
  have e0:(([]++s.s0.units.map λu=>(u.id,(0:Int))):List (Int×Int)).map (·.1)=s.s0.units.map Th.id:=by simp[Function.comp_def]
  rw[e0] at h2;have h:(Xm b.cards.length s.s0&&Qr b s.next [] s.s0.units)=true:=h;rw[Zu,←Bool.and_assoc,h,h2]; rfl
 rw[hso,Bool.true_and];clear hso h h2 m1 t1 t2;refine Za rfl (Xg (Za rfl ?_));rw[w2];refine Zi (Za rfl (Xg (Za rfl (Za rfl (Za (ldr rfl) (Za (ZU ..) ?_))))));refine Qb (λhp=>?_) (λhp=>?_)
 ·have hp:s.phase≠1:=by simpa using hp
  rw[if_pos hp];refine Za rfl (Za rfl (Za (ldr rfl) (Za (v:=iv s.attack.length) (rd:=[]) (by simp[Yg]) (Za (Zf ..) ?_))))
  congr 1
  rw[Bool.eq_iff_iff]; simp
 have hp:¬s.phase≠1:=by simpa using hp
 rw[if_neg hp];refine Xd rfl (ZL _ _) (Za rfl (Za rfl (Za (ldr rfl) (Za (v:=iv s.attack.length) (rd:=[]) (by simp[Yg]) ?_))));have hnew:hget (σ2++[ABlk.map []]) σ2.length=.map (mpG AVal.bool (([]:List Int).map λa=>(a,true))):=Yj _ _;have hold:=Ym [ABlk.map []] m2 (by simp);have hne:σ2.length≠0:=by have:=Zp m2 (by simp); omega
 generalize σ2++[ABlk.map []]=τ at hnew hold ⊢;generalize σ2.length=mb at hnew hne ⊢;refine Yl (ι:=Nat) (λi vs τ=>vs=[iv i]∧i≤s.attack.length∧hget τ 0=.map (mpG iv (([]++s.s0.units.map λu=>(u.id,(0:Int)))++s.s1.units.map λu=>(u.id,(1:Int))))∧hget τ mb=.map (mpG AVal.bool ((s.attack.take i).map λa=>(a,true)))∧attOk s [] s.attack=attOk s (s.attack.take i) (s.attack.drop i)) (λi=>s.attack.length-i) 0
  ⟨rfl,by omega,hold,by simpa using hnew,by simp⟩ ?_
 clear hnew hold m2;rintro i vs τ1 again ⟨rfl,hi,hm0,hmb,hr⟩ hag;refine Za rfl (Qb (λh=>?_) (λh=>?_));rotate_left
 ·have h:i=s.attack.length:=by simp at h; omega
  subst h;rw[List.drop_length,attOk] at hr;rw[hr,Bool.and_true];refine Za rfl (Za rfl (Za (ldr rfl) ?_));cases hst:s.struck with
  |false=>
   refine Yb rfl (Yb rfl (Yc rfl (Yc rfl (Yc rfl (Yc rfl (Yc rfl (Yc rfl (Yb rfl (Za rfl ?_)))))))));simp
  |true=>
   refine Xa (Za rfl (Xa (Za rfl ?_)));cases bare with
   |true=>
    refine Yb rfl (Yb rfl (Yb rfl (Yb rfl (Yb rfl (Yb rfl (Xa (Za rfl (Za rfl ?_))))))));simp
   |false=>
    refine Xa (Za rfl (Xa (Za rfl (Xa (Za rfl (Xa (Za (ldr rfl) (Xa (Za (v:=iv s.attack.length) (rd:=[]) (by simp[Yg]) (Xa (Za (XX ..) (Xa (Za rfl (Za rfl ?_))))))))))))));show AVal.bool _=_
    congr 1
    rw[Bool.eq_iff_iff];simp[List.length_pos_iff]
 have h:i<s.attack.length:=by simpa using h
 have htk:=Xx _ _ h;rw[YLD h,attOk] at hr;refine Za (Xq _ cel _ _ _ s.attack _ i h) (Za (ldr rfl) (Za (Zbp iv _ _ hm0 _) ?_));rw[Yb6,List.nil_append,Xb6];generalize s.attack[i]=a at htk hr ⊢;generalize ho:(if (unitR s a).2.2=true then some (unitR s a).1 else none)=o;have ho1:o.isSome=(unitR s a).2.2:=by rw[←ho]; cases (unitR s a).2.2<;>rfl
 have ho2:(unitR s a).2.2=true→o.getD 0=(unitR s a).1:=by intro q; rw[←ho,if_pos q]; rfl
 refine Za rfl (Za rfl (Za rfl ?_));refine YcA (λ_=>rfl) (λ_=>rfl) (λ_=>rfl) (λ_=>rfl) (λ_=>ldr rfl) (λ_=>ZU ..) ?_;refine ZaN (d:=(ilook a ((s.attack.take i).map λa=>(a,true))).getD false) (λ_=>rfl) (λ_=>rfl) (λ_=>by rw[Zbp AVal.bool _ _ hmb,Zb6]) ?_;have hmet:=ZbB a (s.attack.take i);refine Qb (λh2=>?_) (λh2=>?_)
 ·have:attOk s [] s.attack=false:=by
   rw[hr,Bool.eq_false_iff]; intro q;simp only[Bool.and_eq_true,decide_eq_true_eq,Bool.not_eq_true'] at q;obtain⟨⟨q1,q2⟩,q3,q4⟩:=q;rw[ho1,ho2 q1,q1,q2,hmet,q3] at h2;simp at h2
  rw[this]; simp
 ·simp only[Bool.or_eq_false_iff,Bool.not_eq_false',decide_eq_false_iff_not,Decidable.not_not] at h2;obtain⟨⟨q1,q2⟩,q3⟩:=h2;rw[ho1] at q1;rw[ho2 q1] at q2;have hnone:ilook a ((s.attack.take i).map λa=>(a,true))=none:=by
   have:=Xap a ((s.attack.take i).map λa=>(a,true));simp only[List.map_map,Function.comp_def,List.map_id'] at this;rw[←hmet,q3] at this;cases h5:ilook a ((s.attack.take i).map λa=>(a,true)) with
   |none=>rfl
   |some v=>rw[h5] at this; cases this
  rw[hmet] at q3;rw[q1,q2,q3] at hr;have hml:=Zp hmb (by simp);refine Xd (Qcx AVal.bool hmb a true hnone) (Xo _ hml) (Za (Xi ..) ?_);rw[Qe (n:=i) (by omega)];refine hag (i+1) _ _ (by omega) ⟨rfl,by omega,Qp hm0 (by simp) (λe=>hne e),?_,?_⟩
  ·rw[htk,List.map_append]; exact Xj _ hml
  ·rw[htk,hr]; simp
end Go.Ah.Tz
end
section
namespace Go.Ah.Tz
open Go.Proofs.Tryz (prog)
def RI(σ:List ABlk)(rd:List Nat)(v:AVal)(l:List Int):Prop:=Bor (hp σ) rd v (rowV l)
def RT(σ:List ABlk)(rd:List Nat)(v:AVal)(l:List Th):Prop:=Bor (hp σ) rd v (thV l)
theorem QbQ:∀ {l:List Int},∀r∈l.map cel,roL r=true:=by
 intro l r hr;obtain⟨x,_,rfl⟩:=List.mem_map.1 hr; rfl
theorem QcS:∀ {l:List Th},∀r∈l.map thC,roL r=true:=by
 intro l r hr;obtain⟨x,_,rfl⟩:=List.mem_map.1 hr; rfl
theorem RI.own{σ:List ABlk}{rd:List Nat}{b:Nat}{ex:Bool}{l:List Int}{n:Nat}(hb:hget σ b=.rows 1 (l.map cel))(hin:b∈rd)(hn:n=l.length):RI σ rd (.sl b 0 n ex) l:=
 Bor.own hb hin (by simp[hn]) (YaG _ _ (by simp[hn])) QbQ
theorem RI.tail{σ:List ABlk}{rd:List Nat}{b:Nat}{ex:Bool}{x:Int}{l:List Int}{n:Nat}(hb:hget σ b=.rows 1 ((x::l).map cel))(hin:b∈rd)(hn:n=l.length):RI σ rd (.sl b 1 n ex) l:=
 Bor.own hb hin (by simp[hn]; omega) (Zcm _ _ _ (by simp[hn])) QbQ
theorem RI.ro{σ:List ABlk}{rd:List Nat}(l:List Int):RI σ rd (rowV l) l:=Bor.ro rfl
theorem RI.nils{σ:List ABlk}{rd:List Nat}:RI σ rd .nils []:=Bor.weak (Bor.ro rfl) (λM u d=>d.nils_rsl 1)
theorem RT.nils{σ:List ABlk}{rd:List Nat}:RT σ rd .nils []:=Bor.weak (Bor.ro rfl) (λM u d=>d.nils_rsl 4)
theorem RT.ro{σ:List ABlk}{rd:List Nat}(l:List Th):RT σ rd (thV l) l:=Bor.ro rfl
theorem RT.own{σ:List ABlk}{rd:List Nat}{b:Nat}{ex:Bool}{l:List Th}{n:Nat}(hb:hget σ b=.rows 4 (l.map thC))(hin:b∈rd)(hn:n=l.length):RT σ rd (.sl b 0 n ex) l:=
 Bor.own hb hin (by simp[hn]) (YaG _ _ (by simp[hn])) QcS
@[reducible] def stQ(s:St)(a d0 h0 g0 u0 t0 d1 h1 g1 u1 t1:AVal):List AVal:=[iv s.turn,iv s.mover,iv8 s.phase,.bool s.struck,iv8 s.result,a,iv s.next,
 iv s.s0.life,iv s.s0.mana,iv s.s0.most,d0,h0,g0,u0,t0,iv s.s1.life,iv s.s1.mana,iv s.s1.most,d1,h1,g1,u1,t1]
def SB(σ:List ABlk)(rd:List Nat)(cs:List AVal)(s:St):Prop:=BorL (hp σ) rd cs (stC s)
theorem SB.mk{σ:List ABlk}{rd:List Nat}{s:St}{a d0 h0 g0 u0 t0 d1 h1 g1 u1 t1:AVal}(x1:RI σ rd a s.attack)(x2:RI σ rd d0 s.s0.deck)(x3:RI σ rd h0 s.s0.hand)(x4:RI σ rd g0 s.s0.grave)(x5:RT σ rd u0 s.s0.units)(x6:RI σ rd t0 s.s0.told)
 (y2:RI σ rd d1 s.s1.deck)(y3:RI σ rd h1 s.s1.hand)(y4:RI σ rd g1 s.s1.grave)(y5:RT σ rd u1 s.s1.units)(y6:RI σ rd t1 s.s1.told):SB σ rd (stQ s a d0 h0 g0 u0 t0 d1 h1 g1 u1 t1) s:=
 .cons (Bor.ro rfl) <| .cons (Bor.ro rfl) <| .cons (Bor.ro rfl) <| .cons (Bor.ro rfl) <| .cons (Bor.ro rfl) <| .cons x1 <| .cons (Bor.ro rfl) <| .cons (Bor.ro rfl) <| .cons (Bor.ro rfl) <| .cons (Bor.ro rfl) <| .cons x2 <| .cons x3 <| .cons x4 <| .cons x5 <| .cons x6 <|
 .cons (Bor.ro rfl) <| .cons (Bor.ro rfl) <| .cons (Bor.ro rfl) <| .cons y2 <| .cons y3 <| .cons y4 <| .cons y5 <| .cons y6 .nil
theorem SB.ro{σ:List ABlk}{rd:List Nat}(s:St):SB σ rd (stC s) s:=BorL.ro rfl
theorem SB.agg{σ:List ABlk}{rd:List Nat}{cs:List AVal}{s:St}(h:SB σ rd cs s):Bor (hp σ) rd (.agg cs) (stV s):=Bor.agg h
def zSd:Sd:=⟨0,0,0,[],[],[],[],[]⟩
def zSt:St:=⟨0,0,0,false,0,[],0,zSd,zSd⟩
theorem SB.zero{σ:List ABlk}{rd:List Nat}:SB σ rd (stQ zSt .nils .nils .nils .nils .nils .nils .nils .nils .nils .nils .nils) zSt:=SB.mk .nils .nils .nils .nils .nils .nils .nils .nils .nils .nils .nils
structure Ev where
 kind:Int
 side:Int
 card:Int
 id:Int
 other:Int
 n:Int
 cards:List Int
 deriving DecidableEq,Inhabited
@[reducible] def evC(e:Ev):List AVal:=[iv8 e.kind,iv e.side,iv e.card,iv e.id,iv e.other,iv e.n,rowV e.cards]
@[reducible] def evV(e:Ev):AVal:=.agg (evC e)
def zEv:Ev:=⟨0,0,0,0,0,0,[]⟩
theorem evB{σ:List ABlk}{rd:List Nat}{e:Ev}{v:AVal}(h:RI σ rd v e.cards):Bor (hp σ) rd (.agg [iv8 e.kind,iv e.side,iv e.card,iv e.id,iv e.other,iv e.n,v]) (evV e):=
 Bor.agg (.cons (Bor.ro rfl) <| .cons (Bor.ro rfl) <| .cons (Bor.ro rfl) <| .cons (Bor.ro rfl) <| .cons (Bor.ro rfl) <| .cons (Bor.ro rfl) <| .cons h .nil)
attribute [local irreducible] Ans.rd Ans.pu Ans.wr Ans.dr Ans.gr Ans.gw Ans.gl Ans.gd Ans.opt joinK W
set_option maxHeartbeats 1000000
theorem c56(b:Bk)(hf:bkFit b=true)(hsm:Yo b.cards)(s:St)(hs:StLe 1000000000 s){σ:List ABlk}{bb sb:Nat}(h1:hget σ bb=.box (bkC b))(h2:hget σ sb=.box (stC s)){K:AVal→List ABlk→Prop}
 (hF:mayR (bkR b).1 b s true=false→K .nilp σ)(hT:mayR (bkR b).1 b s true=true→K (.bptr (σ++stB s).length 0) (σ++stB s++[.box (.bptr bb 0::stO s σ.length)])):g56 VV [.bptr bb 0,.bptr sb 0] σ K:=by
 unfold g56;have hb1:hp σ bb=some (.box (bkC b)):=Yx h1 (by simp);have hb2:hp σ sb=some (.box (stC s)):=Yx h2 (by simp);refine YU (rd:=[bb,sb]) (c111 b hf hsm s hs true) rfl g111_ok.plain (.cons (Bor.box hb1 (by simp) (BorL.ro rfl)) <| .cons (Bor.box hb2 (by simp) (BorL.ro rfl)) <| .cons (Bor.ro rfl) .nil) rfl ?_;refine Za rfl (Qb (λh=>?_) (λh=>?_))
 ·exact hF (by simpa using h)
 refine Za rfl (Za (ld h2 rfl) ?_);refine ZaA (c59 s hs) rfl g59_ok.plain rfl ?_;have e1:(AVal.agg (stO s 0)).ren (XB σ.length)=.agg (stO s σ.length):=by
  simp[AVal.ren,renL,XB,Nat.add_comm]; omega
 have e2:Qv σ.length (stB s)=stB s:=by
  simp only[Qv,stB,sdB,List.map_cons,List.map_append,List.map_nil,Xs,Yar]
 rw[e1,e2];refine Za rfl (Xd rfl (ZL _ _) ?_);exact hT (by simpa using h)
def tailV(b:Nat):List Int→AVal
 |[]=>.rsl false false 1 []
 |y::l=>.sl b 1 (y::l).length false
theorem ZcG{τ:List ABlk}{bf:Nat}{x:Int}{l:List Int}(hbf:hget τ bf=.rows 1 ((x::l).map cel)):∃rd,X0 1 [.sl bf 0 (l.length+1) false,iv 1] τ=.ok (tailV bf l) rd []:=by
 cases l with
 |nil=>
  refine⟨[],?_⟩;show (match hget τ bf with
   |.rows s _=>bif Nat.beq s 1 then (bif Nat.blt 1 1 then SRes.ok (.sl bf (0+1) (1-1) false) [bf] [] else bif Nat.beq 1 1 then .ok (.rsl false false 1 []) [] [] else .stop) else .stop
   | _=>.stop)=_
  rw[hbf]; rfl
 |cons y l=>
  refine⟨[bf],?_⟩;show (match hget τ bf with
   |.rows s _=>bif Nat.beq s 1 then (bif Nat.blt 1 ((y::l).length+1) then SRes.ok (.sl bf (0+1) ((y::l).length+1-1) false) [bf] [] else bif Nat.beq 1 ((y::l).length+1) then .ok (.rsl false false 1 []) [] [] else .stop) else .stop
   | _=>.stop)=_
  rw[hbf];have:Nat.blt 1 ((y::l).length+1)=true:=Nat.ble_eq_true_of_le (by simp);simp only[this];rfl
theorem RI.tailV{σ:List ABlk}{rd:List Nat}{b:Nat}{x:Int}{l:List Int}(hb:hget σ b=.rows 1 ((x::l).map cel))(hin:b∈rd):RI σ rd (Tz.tailV b l) l:=by
 cases l with
 |nil=>exact RI.ro []
 |cons y l=>exact RI.tail hb hin rfl
theorem c58{τ:List ABlk}{mb jf jt bf bt n k:Nat}{row row1 row2:List AVal}{x:Int}{l t:List Int}{vf:AVal}(hm:hget τ mb=.box row)(hf:partA false jf 1 row=some (.sl bf 0 n false))(hn:n=l.length+1)(ht:partA false jt 1 row1=some (.sl bt 0 k false))(hk:k=t.length)(hkl:t.length≤1000000000)
 (hbf:hget τ bf=.rows 1 ((x::l).map cel))(hbt:hget τ bt=.rows 1 (t.map cel))(hne:mb≠bf)(hne2:mb≠bt)(hvf:vf=tailV bf l)
 (h1:splice jf [vf] row=some row1)(h2:splice jt [.sl (τ.length+1) 0 (k+1) false] row1=some row2){K:AVal→List ABlk→Prop}
 (hK:K (iv x) (((((τ.set mb (.box row1)).set bt .dead)++[ABlk.rows 1 [cel x]])++[ABlk.rows 1 ((t++[x]).map cel)]).set mb (.box row2))):g58 VV [.bptr mb jf,.bptr mb jt] τ K:=by
 subst hn; subst hk;have hml:=Zp hm (by simp);have hbl:=Zp hbt (by simp);unfold g58;refine Za rfl (Za (ld hm hf) ?_);have hx:Qc 1 [.sl bf 0 (l.length+1) false,iv ((0:Nat):Int)] τ=.ok (.ptr bf (0+0) 0) [bf] []:=Yay τ bf 0 _ false 1 _ .i64 0 (by omega) hbf;refine Za hx ?_;refine Za (v:=iv x) (rd:=[bf]) ?_ ?_
 ·show (match hget τ bf with
   |.rows _ rs=>match nth rs 0 with
    |some row=>match partA false 0 1 row with
     |some v=>SRes.ok v [bf] []
     |none=>.stop
    |none=>.stop
   | _=>.stop)=_
  rw[hbf]; rfl
 refine Za rfl (Za (ld hm hf) ?_);have hvc:cellsOf vf=some [vf]:=by subst hvf; cases l<;>rfl
 obtain⟨rd,hsl⟩:=ZcG hbf;rw[←hvf] at hsl;refine Za hsl ?_;refine Za rfl (Xd (stv hm hvc rfl h1) (Xo _ hml) (Za rfl (Za (ld (Xj _ hml) ht) ?_)));have hbt':hget (τ.set mb (.box row1)) bt=.rows 1 (t.map cel):=Qp hbt (by simp) hne2;rw[ZB _ _ _ _ _ (cel x) rfl rfl,Z6 _ 1 8 (τ.set mb (.box row1)) bt t.length false _ (cel x) hbt' (by simp) rfl (by omega)];refine Za rfl ?_;have hz:t.map cel++[cel x]=(t++[x]).map cel:=by simp
 have hlen:(τ.set mb (ABlk.box row1)).length=τ.length:=by simp
 have hm3:hget ((((τ.set mb (.box row1)).set bt .dead)++[ABlk.rows 1 [cel x]])++[ABlk.rows 1 ((t++[x]).map cel)]) mb=.box row1:=by
  rw[XC _ (by simp; omega),XC _ (by simp; omega),Qm _ (by simp; omega) hne2,Xj _ hml]
 rw[hz,hlen];refine Xd (stv hm3 rfl rfl h2) (Xo _ (by simp; omega)) ?_;exact hK
end Go.Ah.Tz
end
section
namespace Go.Ah.Tz
open Go.Proofs.Tryz (prog)
theorem Ycf(s:St)(n:Nat):(AVal.agg (stO s 0)).ren (XB n)=.agg (stO s n):=by
 simp[AVal.ren,renL,XB,Nat.add_comm]; omega
theorem Zcf(s:St)(n:Nat):Qv n (stB s)=stB s:=by
 simp only[Qv,stB,sdB,List.map_cons,List.map_append,List.map_nil,Xs,Yar]
theorem XbC:∀l:List Int,YW (l.map cel)=true
 |[]=>rfl
 |x::l=>by simp only[List.map_cons,YW,XbC l,Bool.and_true]; rfl
theorem Qb8:∀l:List Th,YW (l.map thC)=true
 |[]=>rfl
 |x::l=>by simp only[List.map_cons,YW,Qb8 l,Bool.and_true]; rfl
theorem Zcv(s:St):Yav (stB s)=true:=by
 simp only[stB,sdB,List.cons_append,List.nil_append,Yav,ABlk.nosh,XbC,Qb8,Bool.and_self]
theorem d59{s:St}(hs:StLe 1000000000 s){σ:List ABlk}{rd:List Nat}{cs:List AVal}(h:SB σ rd cs s){K:AVal→List Nat×List Nat→List ABlk→Prop}(hK:K (.agg (stO s σ.length)) (rd,ZK σ.length (stB s)) (σ++stB s)):VV.dcall (.call 59) [.agg cs] σ K:=by
 refine QbF (c59 s hs) rfl g59_ok.plain (.cons (SB.agg h) .nil) rfl (Zcv s) ?_;rw[Ycf,Zcf]; exact hK
theorem SdLe.mono{n m:Nat}{s:Sd}(h:SdLe n s)(k:n≤m):SdLe m s:=⟨Nat.le_trans h.1 k,Nat.le_trans h.2 k,Nat.le_trans h.3 k,Nat.le_trans h.4 k,Nat.le_trans h.5 k⟩
theorem StLe.mono{n m:Nat}{s:St}(h:StLe n s)(k:n≤m):StLe m s:=⟨Nat.le_trans h.1 k,h.2.mono k,h.3.mono k⟩
theorem Zal{e:Int}{b:Bk}{s:St}{bare:Bool}(h:mayR e b s bare=true):Zu b s=true:=by
 simp only[mayR,Bool.and_eq_true] at h;exact h.2.2.2.2.2.2.2.2.2.2.2.2.1
theorem Yb7{e:Int}{b:Bk}{s:St}{bare:Bool}(h:mayR e b s bare=true):wIn s.s0.life=true:=by
 have:=Zal h;simp only[Zu,Xm,Bool.and_eq_true] at this;exact this.1.1
theorem Xb7{e:Int}{b:Bk}{s:St}{bare:Bool}(h:mayR e b s bare=true):wIn s.s1.life=true:=by
 have:=Zal h;simp only[Zu,Xm,Bool.and_eq_true] at this;exact this.2.2.1.1
theorem Ybk{n:Int}:wIn n=true↔-1000000≤n∧n≤1000000:=by simp[wIn]
theorem SB.copy{σ:List ABlk}{rd:List Nat}{s:St}{n:Nat}(key:∀i x,(stB s)[i]?=some x→hget σ (n+i)=x)(hin:∀i,i<11→n+i∈rd):SB σ rd (stO s n) s:=
 SB.mk (RI.own (key 0 _ rfl) (hin 0 (by decide)) rfl) (RI.own (key 1 _ rfl) (hin 1 (by decide)) rfl) (RI.own (key 2 _ rfl) (hin 2 (by decide)) rfl) (RI.own (key 3 _ rfl) (hin 3 (by decide)) rfl) (RT.own (key 4 _ rfl) (hin 4 (by decide)) rfl) (RI.own (key 5 _ rfl) (hin 5 (by decide)) rfl)
  (RI.own (key 6 _ rfl) (hin 6 (by decide)) rfl) (RI.own (key 7 _ rfl) (hin 7 (by decide)) rfl) (RI.own (key 8 _ rfl) (hin 8 (by decide)) rfl) (RT.own (key 9 _ rfl) (hin 9 (by decide)) rfl) (RI.own (key 10 _ rfl) (hin 10 (by decide)) rfl)
theorem Y6{agg:Bool}{σ:List ABlk}{b j n:Nat}{row:List AVal}{v:AVal}(hb:hget σ b=.box row)(hv:partA agg j n row=some v):cellV agg n (.bptr b j) σ=some v:=by
 simp only[cellV,hb,hv]
theorem c56n(b:Bk)(hf:bkFit b=true)(hsm:Yo b.cards)(s:St)(hs:StLe 1000000000 s){σ:List ABlk}{bb sb n0 n:Nat}(hn0:σ.length=n0)(hn:n0+11=n)(h1:hget σ bb=.box (bkC b))(h2:hget σ sb=.box (stC s)){K:AVal→List ABlk→Prop}
 (hF:mayR (bkR b).1 b s true=false→K .nilp σ)(hT:mayR (bkR b).1 b s true=true→K (.bptr n 0) (σ++stB s++[.box (.bptr bb 0::stO s n0)])):VV.call (.call 56) [.bptr bb 0,.bptr sb 0] σ K:=by
 subst hn0; subst hn;refine Zs hP rfl g56_ok rfl (c56 b hf hsm s hs h1 h2 hF (λh=>?_));have:(σ++stB s).length=σ.length+11:=by simp[stB,sdB]
 rw[this]; exact hT h
def St.side(s:St)(k:Int):Sd:=if k=0 then s.s0 else s.s1
def St.put(s:St)(k:Int)(d:Sd):St:=if k=0 then { s with s0:=d } else { s with s1:=d }
@[reducible] def resX(s:St)(e:Ev)(x:AVal):AVal:=.tup [stV s,evV e,x]
@[reducible] def resV(r:St×Ev×Int):AVal:=resX r.1 r.2.1 (iv r.2.2)
theorem resXB{σ:List ABlk}{rd:List Nat}{cs ec:List AVal}{s:St}{e:Ev}{x:AVal}(h1:SB σ rd cs s)(h2:Bor (hp σ) rd (.agg ec) (evV e))(hx:x.ro=true):Bor (hp σ) rd (.tup [.agg cs,.agg ec,x]) (resX s e x):=
 Bor.tup (.cons (SB.agg h1) <| .cons h2 <| .cons (Bor.ro hx) .nil)
theorem resB{σ:List ABlk}{rd:List Nat}{cs ec:List AVal}{r:St×Ev×Int}(h1:SB σ rd cs r.1)(h2:Bor (hp σ) rd (.agg ec) (evV r.2.1)):Bor (hp σ) rd (.tup [.agg cs,.agg ec,iv r.2.2]) (resV r):=resXB h1 h2 rfl
@[reducible] def zStC:List AVal:=stQ zSt .nils .nils .nils .nils .nils .nils .nils .nils .nils .nils .nils
@[reducible] def zEvC:List AVal:=[iv8 0,iv 0,iv 0,iv 0,iv 0,iv 0,.nils]
theorem resZ{σ:List ABlk}{rd:List Nat}(e:Int):Bor (hp σ) rd (.tup [.agg zStC,.agg zEvC,iv e]) (resV (zSt,zEv,e)):=
 resB (r:=(zSt,zEv,e)) SB.zero (evB (e:=zEv) RI.nils)
theorem resZX{σ:List ABlk}{rd:List Nat}{x:AVal}(hx:x.ro=true):Bor (hp σ) rd (.tup [.agg zStC,.agg zEvC,x]) (resX zSt zEv x):=
 resXB SB.zero (evB (e:=zEv) RI.nils) hx
end Go.Ah.Tz
end
section
namespace Go.Ah.Tz
open Go.Proofs.Tryz (prog)
theorem Zan{b:Nat}{l:List Int}{m:Nat→Option Nat}(h:m b=some b):(tailV b l).ren m=tailV b l:=by
 cases l with
 |nil=>rfl
 |cons y l=>simp only[tailV,AVal.ren,h]
abbrev mv4(s:St):List AVal:=[.bptr 0 0,iv s.turn,iv s.mover,iv8 s.phase,.bool s.struck,iv8 s.result,.sl 4 0 s.attack.length false,iv s.next,iv s.s0.life,iv s.s0.mana,iv s.s0.most,.sl 5 0 s.s0.deck.length false,.sl 6 0 s.s0.hand.length false,.sl 7 0 s.s0.grave.length false,.sl 8 0 s.s0.units.length false,.sl 9 0 s.s0.told.length false,iv s.s1.life,iv s.s1.mana,iv s.s1.most,.sl 10 0 s.s1.deck.length false,.sl 11 0 s.s1.hand.length false,.sl 12 0 s.s1.grave.length false,.sl 13 0 s.s1.units.length false,.sl 14 0 s.s1.told.length false]
abbrev st4(s:St):List AVal:=[iv s.turn,iv s.mover,iv8 s.phase,.bool s.struck,iv8 s.result,.sl 4 0 s.attack.length false,iv s.next,iv s.s0.life,iv s.s0.mana,iv s.s0.most,.sl 5 0 s.s0.deck.length false,.sl 6 0 s.s0.hand.length false,.sl 7 0 s.s0.grave.length false,.sl 8 0 s.s0.units.length false,.sl 9 0 s.s0.told.length false,iv s.s1.life,iv s.s1.mana,iv s.s1.most,.sl 10 0 s.s1.deck.length false,.sl 11 0 s.s1.hand.length false,.sl 12 0 s.s1.grave.length false,.sl 13 0 s.s1.units.length false,.sl 14 0 s.s1.told.length false]
abbrev sg4(b:Bk)(s:St):List ABlk:=[.box (bkC b),.box (stC s),.box zStC,.box zEvC,.rows 1 (s.attack.map cel),.rows 1 (s.s0.deck.map cel),.rows 1 (s.s0.hand.map cel),.rows 1 (s.s0.grave.map cel),.rows 4 (s.s0.units.map thC),.rows 1 (s.s0.told.map cel),.rows 1 (s.s1.deck.map cel),.rows 1 (s.s1.hand.map cel),.rows 1 (s.s1.grave.map cel),.rows 4 (s.s1.units.map thC),.rows 1 (s.s1.told.map cel)]
abbrev dd17:List ABlk:=[.dead,.dead,.dead,.dead,.dead,.dead,.dead,.dead,.dead,.dead,.dead,.dead,.dead,.dead,.dead,.dead,.dead]
def drawF(s:St)(k:Int):St×Ev×Int:=
 match (s.side k).deck with
 |[]=>if wIn ((s.side k).life-1) then (s.put k { s.side k with life:=(s.side k).life-1 },⟨3,k,-1,0,0,0,[]⟩,0) else (zSt,zEv,171)
 |c::l=>if 10≤(s.side k).hand.length then
   ({ s with s0:={ s.s0 with told:=s.s0.told++[c] },s1:={ s.s1 with told:=s.s1.told++[c] } } |> λs'=>s'.put k { s'.side k with deck:=l,grave:=(s.side k).grave++[c] },⟨4,k,c,0,0,0,[]⟩,0)
  else (s.put k { s.side k with deck:=l,hand:=(s.side k).hand++[c],told:=(s.side k).told++[c] },⟨3,k,c,0,0,0,[]⟩,0)
attribute [local irreducible] Ans.rd Ans.pu Ans.wr Ans.dr Ans.gr Ans.gw Ans.gl Ans.gd Ans.opt joinK W
set_option maxHeartbeats 4000000
theorem c18_0(b:Bk)(hf:bkFit b=true)(hsm:Yo b.cards)(s:St)(hs:StLe 2000000 s)(hm:mayR (bkR b).1 b s true=true):PC 18 [bkV b,stV s,iv 0] (resV (drawF s 0)):=by
 have hlf:=Ybk.1 (Yb7 hm);have hs9:StLe 1000000000 s:=hs.mono (by decide);refine Zq hP g18_ok rfl ?_;unfold g18;refine Xd (v:=.bptr 0 0) (rd:=[]) (up:=[(0,.box (bkC b))]) rfl rfl ?_;refine Xd (v:=.bptr 1 0) (rd:=[]) (up:=[(1,.box (stC s))]) rfl rfl ?_;refine Xd (v:=.bptr 2 0) (rd:=[]) (up:=[(2,.box zStC)]) rfl rfl ?_;refine Xd (v:=.bptr 3 0) (rd:=[]) (up:=[(3,.box zEvC)]) rfl rfl ?_;refine c56n b hf hsm s (hs.mono (by decide)) (n0:=4) (n:=15) rfl rfl rfl rfl (λh=>by rw[hm] at h; cases h) (λ_=>?_);refine Za rfl (Xg ?_);refine Za rfl (Xa (Za rfl (Xa (Za rfl (Za rfl (Xg ?_))))));refine Za rfl (Za rfl (Za rfl (Za rfl (Za rfl ?_))));refine Xd (v:=.bptr 16 0) (rd:=[]) (up:=[(16,.box zEvC)]) rfl rfl ?_;refine Xd (v:=.junk) (rd:=[]) (up:=[(16,.box [iv8 3,iv 0,iv 0,iv 0,iv 0,iv 0,.nils])]) rfl rfl ?_;refine Qh λk24 hk24=>?_;have kk:∀(σ:List ABlk) (cs:List AVal) (s':St) (e:Ev) (rd:List Nat) (n:Nat),σ.length=n→17≤n→hget σ 15=.box (.bptr 0 0::cs)→hget σ 16=.box [iv8 e.kind,iv e.side,iv e.card,iv e.id,iv e.other,iv e.n,.nils]→hget σ 2=.box zStC→hget σ 3=.box zEvC →
   partA true 1 23 (.bptr 0 0::cs)=some (.agg cs)→e.cards=[]→SB σ rd cs s'→StLe 1000000000 s'→drawF s 0=(s',e,0) →
   Qk [[],[0],[0,1],[0,1,2],[0,1,2,3],[],[0,1,2,3,4],[0,1,2,3,4,5,6],[0,1,2,3,4,5,6,7]] [([],[]),([],[]),([],[]),([15],[]),(rd,ZK n (stB s')),([16],[]),([],[2]),([],[3]),([],[])]=true→k24 [] σ:=by
  intro σ cs s' e rd n hl hn h15 h16 h2 h3 hld hec hsb hle hr hap;subst hl;rw[hk24];refine Qg rfl (Qg rfl (Yh (ld h15 hld) (Qj _) (d59 hle hsb ?_)));have q15:=Ym (stB s') h16 (by simp);have q2:=Ym (stB s') h2 (by simp);have q3:=Ym (stB s') h3 (by simp);have hln:(σ++stB s').length=σ.length+11:=by simp[stB,sdB]
  refine Yh (ld q15 rfl) (Qj _) ?_;refine Yh (stv q2 rfl rfl rfl) (Xo _ (by omega)) ?_;refine Yh (stv (Qp q3 (by simp) (by decide)) rfl rfl rfl) (Xo _ (by simp<;>omega)) ?_;refine QB hap ?_;refine Yi (Y6 (Qp (Xj _ (by omega)) (by simp) (by decide)) rfl) ?_;refine Yi (Y6 (Xj _ (by simp<;>omega)) rfl) ?_;refine⟨List.range' σ.length 11,?_⟩;rw[hr];refine resB (r:=(s',e,0)) (SB.copy (λi x hx=>?_) (λi hi=>by simp; omega)) ?_
  ·have hi:i<11:=(YLG hx).1;rw[Qm _ (by simp<;>omega) (by omega),Qm _ (by simp<;>omega) (by omega)];exact YI (by rw[List.getElem?_append_right (by omega)]; simpa using hx)
  ·exact evB (by rw[hec]; exact RI.nils)
 refine Za rfl (Za rfl (Za rfl (Za rfl (Za (Zf ..) ?_))));refine Qb (λh=>?_) (λh=>?_)
 ·have hd:s.s0.deck=[]:=List.length_eq_zero_iff.1 (by have:=of_decide_eq_true h; omega);have hw:IntKind.i64.wrap (s.s0.life-1)=s.s0.life-1:=IntWalk.i64_in _ (by omega);refine Za rfl ?_;refine Xd (v:=.junk) (rd:=[]) (up:=[(16,.box [iv8 3,iv 0,iv (-1),iv 0,iv 0,iv 0,.nils])]) rfl rfl ?_;refine Za rfl (Za rfl (Za rfl (Za (XbX ..) (Za rfl (Za rfl ?_)))));rw[hw];refine Xd (v:=.junk) (rd:=[]) (up:=[(15,.box ((mv4 s).set 8 (iv (s.s0.life-1))))]) rfl rfl ?_;refine Za rfl (Za rfl (Za rfl (Xc (c57 _) rfl g57_ok.plain rfl ?_)));refine Za rfl (Qb (λh2=>?_) (λh2=>?_))
  ·have h3:wIn (s.s0.life-1)=false:=by simpa using h2
   refine Za rfl (Za rfl (Xd rfl rfl (Xd rfl rfl (Yi rfl (Yi rfl ?_)))));have hr:drawF s 0=(zSt,zEv,171):=by
    show (match s.s0.deck with | []=>_|c::l=>_)=_;rw[hd]; show (if wIn (s.s0.life-1)=true then _ else _)=_;rw[h3]; rfl
   rw[hr];exact⟨[],resZ 171⟩
  ·have h3:wIn (s.s0.life-1)=true:=by simpa using h2
   refine kk _ _ { s with s0:={ s.s0 with life:=s.s0.life-1 } } ⟨3,0,-1,0,0,0,[]⟩ (List.range 17) 17 rfl (by decide) rfl rfl rfl rfl rfl rfl ?_ ?_ ?_ (by kernel_rfl)
   ·refine SB.mk (rd:=List.range 17) (s:={ s with s0:={ s.s0 with life:=s.s0.life-1 } }) ?_ ?_ ?_ ?_ ?_ ?_ ?_ ?_ ?_ ?_ ?_<;>first|exact RI.own rfl (by decide) rfl|exact RT.own rfl (by decide) rfl
   ·exact⟨hs9.1,⟨hs9.2.1,hs9.2.2,hs9.2.3,hs9.2.4,hs9.2.5⟩,⟨hs9.3.1,hs9.3.2,hs9.3.3,hs9.3.4,hs9.3.5⟩⟩
   ·show (match s.s0.deck with | []=>_|c::l=>_)=_;rw[hd]; show (if wIn (s.s0.life-1)=true then _ else _)=_;rw[h3]; rfl
 ·obtain⟨c,l,hd⟩:∃c l,s.s0.deck=c::l:=by
   cases q:s.s0.deck with
   |nil=>rw[q] at h; cases h
   |cons c l=>exact⟨c,l,rfl⟩
  have hdl:s.s0.deck.length=l.length+1:=by rw[hd]; rfl
  refine Za rfl (Za rfl (Za rfl (Za rfl (Za (QT ..) ?_))));refine Qb (λh2=>?_) (λh2=>?_)
  ·have h3:10≤s.s0.hand.length:=by have:=of_decide_eq_true h2; omega
   have w1:IntKind.i64.wrap (0+1)=1:=by decide
   have w2:IntKind.i64.wrap (1+1)=2:=by decide
   refine Za rfl (Xd (v:=.junk) (rd:=[]) (up:=[(16,.box [iv8 4,iv 0,iv 0,iv 0,iv 0,iv 0,.nils])]) rfl rfl ?_);refine Qg rfl (Qg rfl (Qg rfl (Qg rfl ?_)));refine YH hP rfl g58_ok rfl [15,5,7] [0,4,5,6,7,8,9,10,11,12,13,14,15] (v:=iv c) (m:=2) (σ:=((sg4 b s).append [.box (mv4 s),.box [iv8 4,iv 0,iv 0,iv 0,iv 0,iv 0,.nils]])) (τ:=(((dd17.set 5 (.rows 1 (s.s0.deck.map cel))).set 7 (.rows 1 (s.s0.grave.map cel))).set 15 (.box (mv4 s)))) (τ':=(((dd17.set 5 (.rows 1 (s.s0.deck.map cel))).set 15 (.box (((mv4 s).set 11 (tailV 5 l)).set 13 (.sl 18 0 (s.s0.grave.length+1) false)))).append [.rows 1 [cel c],.rows 1 ((s.s0.grave++[c]).map cel)])) (by decide) (show ∀b∈[0,4,5,6,7,8,9,10,11,12,13,14,15],b<17 by decide) rfl ?_ ?_ rfl (u:=iv c) (up:=[(15,.box (((mv4 s).set 11 (tailV 5 l)).set 13 (.sl 18 0 (s.s0.grave.length+1) false))),(5,.rows 1 (s.s0.deck.map cel)),(7,.dead),(17,.rows 1 [cel c]),(18,.rows 1 ((s.s0.grave++[c]).map cel))]) (σ':=(((sg4 b s).set 7 .dead).append [.box (((mv4 s).set 11 (tailV 5 l)).set 13 (.sl 18 0 (s.s0.grave.length+1) false)),.box [iv8 4,iv 0,iv 0,iv 0,iv 0,iv 0,.nils],.rows 1 [cel c],.rows 1 ((s.s0.grave++[c]).map cel)])) rfl ?_ rfl ?_
   ·show (((dd17.set 5 (ABlk.mapV (AVal.ren (ltM 17)) (.rows 1 (s.s0.deck.map cel)))).set 7 (ABlk.mapV (AVal.ren (ltM 17)) (.rows 1 (s.s0.grave.map cel)))).set 15 (.box (mv4 s)))=_;rw[Xs,Xs]
   ·exact c58 (τ:=(((dd17.set 5 (.rows 1 (s.s0.deck.map cel))).set 7 (.rows 1 (s.s0.grave.map cel))).set 15 (.box (mv4 s)))) (mb:=15) (jf:=11) (jt:=13) (bf:=5) (bt:=7) (row:=(mv4 s)) (row1:=((mv4 s).set 11 (tailV 5 l))) (row2:=(((mv4 s).set 11 (tailV 5 l)).set 13 (.sl 18 0 (s.s0.grave.length+1) false))) (x:=c) (l:=l) (t:=s.s0.grave) (vf:=tailV 5 l) rfl rfl hdl rfl rfl (Nat.le_trans hs.s0.grave (by decide)) (show ABlk.rows 1 (s.s0.deck.map cel)=_ by rw[hd]) rfl (by decide) (by decide) rfl rfl rfl ⟨rfl,rfl⟩
   ·show [(15,.box (((mv4 s).set 11 ((tailV 5 l).ren (keepM [0,4,5,6,7,8,9,10,11,12,13,14,15] 17 2))).set 13 (.sl 18 0 (s.s0.grave.length+1) false))),(5,ABlk.mapV (AVal.ren (keepM [0,4,5,6,7,8,9,10,11,12,13,14,15] 17 2)) (.rows 1 (s.s0.deck.map cel))),(7,.dead),(17,.rows 1 [cel c]),(18,ABlk.mapV (AVal.ren (keepM [0,4,5,6,7,8,9,10,11,12,13,14,15] 17 2)) (.rows 1 ((s.s0.grave++[c]).map cel)))]=_;rw[Zan (b:=5) (l:=l) (m:=keepM [0,4,5,6,7,8,9,10,11,12,13,14,15] 17 2) rfl,Xs,Xs]
   refine Qg rfl (Yh (v:=.junk) (rd:=[]) (up:=[(16,.box [iv8 4,iv 0,iv c,iv 0,iv 0,iv 0,.nils])]) rfl rfl ?_);refine QB (by kernel_rfl) ?_;refine Yy 3 (Zi ?_);refine Za rfl (Qd ?_);refine Qg rfl (Qg rfl (Qg rfl (Qg rfl (Qg rfl (Yh (ld (row:=(((mv4 s).set 11 (tailV 5 l)).set 13 (.sl 18 0 (s.s0.grave.length+1) false))) rfl rfl) (Qj _) ?_)))));refine Qg rfl (Yh (ld (row:=[iv8 4,iv 0,iv c,iv 0,iv 0,iv 0,.nils]) rfl rfl) (Qj _) ?_);refine Yh (v:=.sl 19 0 1 true) (rd:=[]) (up:=[(19,.rows 1 [cel c])]) rfl rfl ?_;refine Yh (v:=.sl 20 0 (s.s0.told.length+1) false) (rd:=[19]) (up:=[(9,.dead),(20,.rows 1 ((s.s0.told++[c]).map cel))]) ?_ rfl ?_
   ·have:=XV 1 8 (σ:=(((sg4 b s).set 7 .dead).append [.box (((mv4 s).set 11 (tailV 5 l)).set 13 (.sl 18 0 (s.s0.grave.length+1) false)),.box [iv8 4,iv 0,iv c,iv 0,iv 0,iv 0,.nils],.rows 1 [cel c],.rows 1 ((s.s0.grave++[c]).map cel),.rows 1 [cel c]])) (b:=9) (c:=19) (len:=s.s0.told.length) (ex:=false) (rs:=s.s0.told.map cel) (row:=cel c) rfl rfl (by simp) rfl (by have:=hs.s0.told; omega);rw[show (s.s0.told++[c]).map cel=s.s0.told.map cel++[cel c] by simp]; exact this
   refine Qg rfl (Qg rfl (Qg rfl (Qg rfl (Qg rfl (Yh (v:=.junk) (rd:=[]) (up:=[(15,.box ((((mv4 s).set 11 (tailV 5 l)).set 13 (.sl 18 0 (s.s0.grave.length+1) false)).set 15 (.sl 20 0 (s.s0.told.length+1) false)))]) rfl rfl ?_)))));refine QB (by kernel_rfl) (Za rfl ?_);rw[w1];refine Zi ?_;refine Za rfl (Qd ?_);refine Qg rfl (Qg rfl (Qg rfl (Qg rfl (Qg rfl (Yh (ld (row:=((((mv4 s).set 11 (tailV 5 l)).set 13 (.sl 18 0 (s.s0.grave.length+1) false)).set 15 (.sl 20 0 (s.s0.told.length+1) false))) rfl rfl) (Qj _) ?_)))));refine Qg rfl (Yh (ld (row:=[iv8 4,iv 0,iv c,iv 0,iv 0,iv 0,.nils]) rfl rfl) (Qj _) ?_);refine Yh (v:=.sl 21 0 1 true) (rd:=[]) (up:=[(21,.rows 1 [cel c])]) rfl rfl ?_;refine Yh (v:=.sl 22 0 (s.s1.told.length+1) false) (rd:=[21]) (up:=[(14,.dead),(22,.rows 1 ((s.s1.told++[c]).map cel))]) ?_ rfl ?_
   ·have:=XV 1 8 (σ:=((((sg4 b s).set 7 .dead).set 9 .dead).append [.box ((((mv4 s).set 11 (tailV 5 l)).set 13 (.sl 18 0 (s.s0.grave.length+1) false)).set 15 (.sl 20 0 (s.s0.told.length+1) false)),.box [iv8 4,iv 0,iv c,iv 0,iv 0,iv 0,.nils],.rows 1 [cel c],.rows 1 ((s.s0.grave++[c]).map cel),.rows 1 [cel c],.rows 1 ((s.s0.told++[c]).map cel),.rows 1 [cel c]])) (b:=14) (c:=21) (len:=s.s1.told.length) (ex:=false) (rs:=s.s1.told.map cel) (row:=cel c) rfl rfl (by simp) rfl (by have:=hs.s1.told; omega);rw[show (s.s1.told++[c]).map cel=s.s1.told.map cel++[cel c] by simp]; exact this
   refine Qg rfl (Qg rfl (Qg rfl (Qg rfl (Qg rfl (Yh (v:=.junk) (rd:=[]) (up:=[(15,.box (((((mv4 s).set 11 (tailV 5 l)).set 13 (.sl 18 0 (s.s0.grave.length+1) false)).set 15 (.sl 20 0 (s.s0.told.length+1) false)).set 23 (.sl 22 0 (s.s1.told.length+1) false)))]) rfl rfl ?_)))));refine QB (by kernel_rfl) (Za rfl ?_);rw[w2];refine Zi ?_;refine Za rfl (Xg ?_);refine kk _ _ { s with s0:={ s.s0 with deck:=l,grave:=s.s0.grave++[c],told:=s.s0.told++[c] },s1:={ s.s1 with told:=s.s1.told++[c] } } ⟨4,0,c,0,0,0,[]⟩ (List.range 23) 23 rfl (by decide) rfl rfl rfl rfl rfl rfl ?_ ?_ ?_ (by kernel_rfl)
   ·refine SB.mk (rd:=List.range 23) (s:={ s with s0:={ s.s0 with deck:=l,grave:=s.s0.grave++[c],told:=s.s0.told++[c] },s1:={ s.s1 with told:=s.s1.told++[c] } }) ?_ ?_ ?_ ?_ ?_ ?_ ?_ ?_ ?_ ?_ ?_<;>first|exact RI.own rfl (by decide) rfl|exact RI.own rfl (by decide) (by simp)|exact RT.own rfl (by decide) rfl|exact RI.tailV (show ABlk.rows 1 (s.s0.deck.map cel)=_ by rw[hd]) (by decide)
   ·have q1:=hs.s0.grave;have q2:=hs.s0.told;have q3:=hs.s0.deck;have q4:=hs.s1.told;refine⟨hs9.1,⟨by show l.length≤_; omega,hs9.2.2,by show (s.s0.grave++[c]).length≤_; simp; omega,hs9.2.4,by show (s.s0.told++[c]).length≤_; simp; omega⟩,⟨hs9.3.1,hs9.3.2,hs9.3.3,hs9.3.4,by show (s.s1.told++[c]).length≤_; simp; omega⟩⟩
   ·show (match s.s0.deck with | []=>_|c::l=>_)=_;rw[hd]; show (if 10≤s.s0.hand.length then _ else _)=_;rw[if_pos h3]; rfl
  ·have h3:¬10≤s.s0.hand.length:=by have:=of_decide_eq_false h2; omega
   refine Qg rfl (Qg rfl (Qg rfl (Qg rfl ?_)));refine YH hP rfl g58_ok rfl [15,5,6] [0,4,5,6,7,8,9,10,11,12,13,14,15] (v:=iv c) (m:=2) (σ:=((sg4 b s).append [.box (mv4 s),.box [iv8 3,iv 0,iv 0,iv 0,iv 0,iv 0,.nils]])) (τ:=(((dd17.set 5 (.rows 1 (s.s0.deck.map cel))).set 6 (.rows 1 (s.s0.hand.map cel))).set 15 (.box (mv4 s)))) (τ':=(((dd17.set 5 (.rows 1 (s.s0.deck.map cel))).set 15 (.box (((mv4 s).set 11 (tailV 5 l)).set 12 (.sl 18 0 (s.s0.hand.length+1) false)))).append [.rows 1 [cel c],.rows 1 ((s.s0.hand++[c]).map cel)])) (by decide) (show ∀b∈[0,4,5,6,7,8,9,10,11,12,13,14,15],b<17 by decide) rfl ?_ ?_ rfl (u:=iv c) (up:=[(15,.box (((mv4 s).set 11 (tailV 5 l)).set 12 (.sl 18 0 (s.s0.hand.length+1) false))),(5,.rows 1 (s.s0.deck.map cel)),(6,.dead),(17,.rows 1 [cel c]),(18,.rows 1 ((s.s0.hand++[c]).map cel))]) (σ':=(((sg4 b s).set 6 .dead).append [.box (((mv4 s).set 11 (tailV 5 l)).set 12 (.sl 18 0 (s.s0.hand.length+1) false)),.box [iv8 3,iv 0,iv 0,iv 0,iv 0,iv 0,.nils],.rows 1 [cel c],.rows 1 ((s.s0.hand++[c]).map cel)])) rfl ?_ rfl ?_
   ·show (((dd17.set 5 (ABlk.mapV (AVal.ren (ltM 17)) (.rows 1 (s.s0.deck.map cel)))).set 6 (ABlk.mapV (AVal.ren (ltM 17)) (.rows 1 (s.s0.hand.map cel)))).set 15 (.box (mv4 s)))=_;rw[Xs,Xs]
   ·exact c58 (τ:=(((dd17.set 5 (.rows 1 (s.s0.deck.map cel))).set 6 (.rows 1 (s.s0.hand.map cel))).set 15 (.box (mv4 s)))) (mb:=15) (jf:=11) (jt:=12) (bf:=5) (bt:=6) (row:=(mv4 s)) (row1:=((mv4 s).set 11 (tailV 5 l))) (row2:=(((mv4 s).set 11 (tailV 5 l)).set 12 (.sl 18 0 (s.s0.hand.length+1) false))) (x:=c) (l:=l) (t:=s.s0.hand) (vf:=tailV 5 l) rfl rfl hdl rfl rfl (Nat.le_trans hs.s0.hand (by decide)) (show ABlk.rows 1 (s.s0.deck.map cel)=_ by rw[hd]) rfl (by decide) (by decide) rfl rfl rfl ⟨rfl,rfl⟩
   ·show [(15,.box (((mv4 s).set 11 ((tailV 5 l).ren (keepM [0,4,5,6,7,8,9,10,11,12,13,14,15] 17 2))).set 12 (.sl 18 0 (s.s0.hand.length+1) false))),(5,ABlk.mapV (AVal.ren (keepM [0,4,5,6,7,8,9,10,11,12,13,14,15] 17 2)) (.rows 1 (s.s0.deck.map cel))),(6,.dead),(17,.rows 1 [cel c]),(18,ABlk.mapV (AVal.ren (keepM [0,4,5,6,7,8,9,10,11,12,13,14,15] 17 2)) (.rows 1 ((s.s0.hand++[c]).map cel)))]=_;rw[Zan (b:=5) (l:=l) (m:=keepM [0,4,5,6,7,8,9,10,11,12,13,14,15] 17 2) rfl,Xs,Xs]
   refine Qg rfl (Yh (v:=.junk) (rd:=[]) (up:=[(16,.box [iv8 3,iv 0,iv c,iv 0,iv 0,iv 0,.nils])]) rfl rfl ?_);refine QB (by kernel_rfl) ?_;refine Qg rfl (Qg rfl (Yh (ld (row:=(((mv4 s).set 11 (tailV 5 l)).set 12 (.sl 18 0 (s.s0.hand.length+1) false))) rfl rfl) (Qj _) ?_));refine Qg rfl (Yh (ld (row:=[iv8 3,iv 0,iv c,iv 0,iv 0,iv 0,.nils]) rfl rfl) (Qj _) ?_);refine Yh (v:=.sl 19 0 1 true) (rd:=[]) (up:=[(19,.rows 1 [cel c])]) rfl rfl ?_;refine Yh (v:=.sl 20 0 (s.s0.told.length+1) false) (rd:=[19]) (up:=[(9,.dead),(20,.rows 1 ((s.s0.told++[c]).map cel))]) ?_ rfl ?_
   ·have:=XV 1 8 (σ:=(((sg4 b s).set 6 .dead).append [.box (((mv4 s).set 11 (tailV 5 l)).set 12 (.sl 18 0 (s.s0.hand.length+1) false)),.box [iv8 3,iv 0,iv c,iv 0,iv 0,iv 0,.nils],.rows 1 [cel c],.rows 1 ((s.s0.hand++[c]).map cel),.rows 1 [cel c]])) (b:=9) (c:=19) (len:=s.s0.told.length) (ex:=false) (rs:=s.s0.told.map cel) (row:=cel c) rfl rfl (by simp) rfl (by have:=hs.s0.told; omega);rw[show (s.s0.told++[c]).map cel=s.s0.told.map cel++[cel c] by simp]; exact this
   refine Qg rfl (Qg rfl (Yh (v:=.junk) (rd:=[]) (up:=[(15,.box ((((mv4 s).set 11 (tailV 5 l)).set 12 (.sl 18 0 (s.s0.hand.length+1) false)).set 15 (.sl 20 0 (s.s0.told.length+1) false)))]) rfl rfl ?_));refine QB (by kernel_rfl) ?_;refine kk _ _ { s with s0:={ s.s0 with deck:=l,hand:=s.s0.hand++[c],told:=s.s0.told++[c] } } ⟨3,0,c,0,0,0,[]⟩ (List.range 21) 21 rfl (by decide) rfl rfl rfl rfl rfl rfl ?_ ?_ ?_ (by kernel_rfl)
   ·refine SB.mk (rd:=List.range 21) (s:={ s with s0:={ s.s0 with deck:=l,hand:=s.s0.hand++[c],told:=s.s0.told++[c] } }) ?_ ?_ ?_ ?_ ?_ ?_ ?_ ?_ ?_ ?_ ?_<;>first|exact RI.own rfl (by decide) rfl|exact RI.own rfl (by decide) (by simp)|exact RT.own rfl (by decide) rfl|exact RI.tailV (show ABlk.rows 1 (s.s0.deck.map cel)=_ by rw[hd]) (by decide)
   ·have q1:=hs.s0.hand;have q2:=hs.s0.told;have q3:=hs.s0.deck;refine⟨hs9.1,⟨by show l.length≤_; omega,by show (s.s0.hand++[c]).length≤_; simp; omega,hs9.2.3,hs9.2.4,by show (s.s0.told++[c]).length≤_; simp; omega⟩,⟨hs9.3.1,hs9.3.2,hs9.3.3,hs9.3.4,hs9.3.5⟩⟩
   ·show (match s.s0.deck with | []=>_|c::l=>_)=_;rw[hd]; show (if 10≤s.s0.hand.length then _ else _)=_;rw[if_neg h3]; rfl
theorem c18_1(b:Bk)(hf:bkFit b=true)(hsm:Yo b.cards)(s:St)(hs:StLe 2000000 s)(hm:mayR (bkR b).1 b s true=true):PC 18 [bkV b,stV s,iv 1] (resV (drawF s 1)):=by
 have hlf:=Ybk.1 (Xb7 hm);have hs9:StLe 1000000000 s:=hs.mono (by decide);refine Zq hP g18_ok rfl ?_;unfold g18;refine Xd (v:=.bptr 0 0) (rd:=[]) (up:=[(0,.box (bkC b))]) rfl rfl ?_;refine Xd (v:=.bptr 1 0) (rd:=[]) (up:=[(1,.box (stC s))]) rfl rfl ?_;refine Xd (v:=.bptr 2 0) (rd:=[]) (up:=[(2,.box zStC)]) rfl rfl ?_;refine Xd (v:=.bptr 3 0) (rd:=[]) (up:=[(3,.box zEvC)]) rfl rfl ?_;refine c56n b hf hsm s (hs.mono (by decide)) (n0:=4) (n:=15) rfl rfl rfl rfl (λh=>by rw[hm] at h; cases h) (λ_=>?_);refine Za rfl (Xg ?_);refine Za rfl (Xa (Za rfl (Xa (Za rfl (Za rfl (Xg ?_))))));refine Za rfl (Za rfl (Za rfl (Za rfl (Za rfl ?_))));refine Xd (v:=.bptr 16 0) (rd:=[]) (up:=[(16,.box zEvC)]) rfl rfl ?_;refine Xd (v:=.junk) (rd:=[]) (up:=[(16,.box [iv8 3,iv 1,iv 0,iv 0,iv 0,iv 0,.nils])]) rfl rfl ?_;refine Qh λk24 hk24=>?_;have kk:∀(σ:List ABlk) (cs:List AVal) (s':St) (e:Ev) (rd:List Nat) (n:Nat),σ.length=n→17≤n→hget σ 15=.box (.bptr 0 0::cs)→hget σ 16=.box [iv8 e.kind,iv e.side,iv e.card,iv e.id,iv e.other,iv e.n,.nils]→hget σ 2=.box zStC→hget σ 3=.box zEvC →
   partA true 1 23 (.bptr 0 0::cs)=some (.agg cs)→e.cards=[]→SB σ rd cs s'→StLe 1000000000 s'→drawF s 1=(s',e,0) →
   Qk [[],[0],[0,1],[0,1,2],[0,1,2,3],[],[0,1,2,3,4],[0,1,2,3,4,5,6],[0,1,2,3,4,5,6,7]] [([],[]),([],[]),([],[]),([15],[]),(rd,ZK n (stB s')),([16],[]),([],[2]),([],[3]),([],[])]=true→k24 [] σ:=by
  intro σ cs s' e rd n hl hn h15 h16 h2 h3 hld hec hsb hle hr hap;subst hl;rw[hk24];refine Qg rfl (Qg rfl (Yh (ld h15 hld) (Qj _) (d59 hle hsb ?_)));have q15:=Ym (stB s') h16 (by simp);have q2:=Ym (stB s') h2 (by simp);have q3:=Ym (stB s') h3 (by simp);have hln:(σ++stB s').length=σ.length+11:=by simp[stB,sdB]
  refine Yh (ld q15 rfl) (Qj _) ?_;refine Yh (stv q2 rfl rfl rfl) (Xo _ (by omega)) ?_;refine Yh (stv (Qp q3 (by simp) (by decide)) rfl rfl rfl) (Xo _ (by simp<;>omega)) ?_;refine QB hap ?_;refine Yi (Y6 (Qp (Xj _ (by omega)) (by simp) (by decide)) rfl) ?_;refine Yi (Y6 (Xj _ (by simp<;>omega)) rfl) ?_;refine⟨List.range' σ.length 11,?_⟩;rw[hr];refine resB (r:=(s',e,0)) (SB.copy (λi x hx=>?_) (λi hi=>by simp; omega)) ?_
  ·have hi:i<11:=(YLG hx).1;rw[Qm _ (by simp<;>omega) (by omega),Qm _ (by simp<;>omega) (by omega)];exact YI (by rw[List.getElem?_append_right (by omega)]; simpa using hx)
  ·exact evB (by rw[hec]; exact RI.nils)
 refine Za rfl (Za rfl (Za rfl (Za rfl (Za (Zf ..) ?_))));refine Qb (λh=>?_) (λh=>?_)
 ·have hd:s.s1.deck=[]:=List.length_eq_zero_iff.1 (by have:=of_decide_eq_true h; omega);have hw:IntKind.i64.wrap (s.s1.life-1)=s.s1.life-1:=IntWalk.i64_in _ (by omega);refine Za rfl ?_;refine Xd (v:=.junk) (rd:=[]) (up:=[(16,.box [iv8 3,iv 1,iv (-1),iv 0,iv 0,iv 0,.nils])]) rfl rfl ?_;refine Za rfl (Za rfl (Za rfl (Za (XbX ..) (Za rfl (Za rfl ?_)))));rw[hw];refine Xd (v:=.junk) (rd:=[]) (up:=[(15,.box ((mv4 s).set 16 (iv (s.s1.life-1))))]) rfl rfl ?_;refine Za rfl (Za rfl (Za rfl (Xc (c57 _) rfl g57_ok.plain rfl ?_)));refine Za rfl (Qb (λh2=>?_) (λh2=>?_))
  ·have h3:wIn (s.s1.life-1)=false:=by simpa using h2
   refine Za rfl (Za rfl (Xd rfl rfl (Xd rfl rfl (Yi rfl (Yi rfl ?_)))));have hr:drawF s 1=(zSt,zEv,171):=by
    show (match s.s1.deck with | []=>_|c::l=>_)=_;rw[hd]; show (if wIn (s.s1.life-1)=true then _ else _)=_;rw[h3]; rfl
   rw[hr];exact⟨[],resZ 171⟩
  ·have h3:wIn (s.s1.life-1)=true:=by simpa using h2
   refine kk _ _ { s with s1:={ s.s1 with life:=s.s1.life-1 } } ⟨3,1,-1,0,0,0,[]⟩ (List.range 17) 17 rfl (by decide) rfl rfl rfl rfl rfl rfl ?_ ?_ ?_ (by kernel_rfl)
   ·refine SB.mk (rd:=List.range 17) (s:={ s with s1:={ s.s1 with life:=s.s1.life-1 } }) ?_ ?_ ?_ ?_ ?_ ?_ ?_ ?_ ?_ ?_ ?_<;>first|exact RI.own rfl (by decide) rfl|exact RT.own rfl (by decide) rfl
   ·exact⟨hs9.1,⟨hs9.2.1,hs9.2.2,hs9.2.3,hs9.2.4,hs9.2.5⟩,⟨hs9.3.1,hs9.3.2,hs9.3.3,hs9.3.4,hs9.3.5⟩⟩
   ·show (match s.s1.deck with | []=>_|c::l=>_)=_;rw[hd]; show (if wIn (s.s1.life-1)=true then _ else _)=_;rw[h3]; rfl
 ·obtain⟨c,l,hd⟩:∃c l,s.s1.deck=c::l:=by
   cases q:s.s1.deck with
   |nil=>rw[q] at h; cases h
   |cons c l=>exact⟨c,l,rfl⟩
  have hdl:s.s1.deck.length=l.length+1:=by rw[hd]; rfl
  refine Za rfl (Za rfl (Za rfl (Za rfl (Za (QT ..) ?_))));refine Qb (λh2=>?_) (λh2=>?_)
  ·have h3:10≤s.s1.hand.length:=by have:=of_decide_eq_true h2; omega
   have w1:IntKind.i64.wrap (0+1)=1:=by decide
   have w2:IntKind.i64.wrap (1+1)=2:=by decide
   refine Za rfl (Xd (v:=.junk) (rd:=[]) (up:=[(16,.box [iv8 4,iv 1,iv 0,iv 0,iv 0,iv 0,.nils])]) rfl rfl ?_);refine Qg rfl (Qg rfl (Qg rfl (Qg rfl ?_)));refine YH hP rfl g58_ok rfl [15,10,12] [0,4,5,6,7,8,9,10,11,12,13,14,15] (v:=iv c) (m:=2) (σ:=((sg4 b s).append [.box (mv4 s),.box [iv8 4,iv 1,iv 0,iv 0,iv 0,iv 0,.nils]])) (τ:=(((dd17.set 10 (.rows 1 (s.s1.deck.map cel))).set 12 (.rows 1 (s.s1.grave.map cel))).set 15 (.box (mv4 s)))) (τ':=(((dd17.set 10 (.rows 1 (s.s1.deck.map cel))).set 15 (.box (((mv4 s).set 19 (tailV 10 l)).set 21 (.sl 18 0 (s.s1.grave.length+1) false)))).append [.rows 1 [cel c],.rows 1 ((s.s1.grave++[c]).map cel)])) (by decide) (show ∀b∈[0,4,5,6,7,8,9,10,11,12,13,14,15],b<17 by decide) rfl ?_ ?_ rfl (u:=iv c) (up:=[(15,.box (((mv4 s).set 19 (tailV 10 l)).set 21 (.sl 18 0 (s.s1.grave.length+1) false))),(10,.rows 1 (s.s1.deck.map cel)),(12,.dead),(17,.rows 1 [cel c]),(18,.rows 1 ((s.s1.grave++[c]).map cel))]) (σ':=(((sg4 b s).set 12 .dead).append [.box (((mv4 s).set 19 (tailV 10 l)).set 21 (.sl 18 0 (s.s1.grave.length+1) false)),.box [iv8 4,iv 1,iv 0,iv 0,iv 0,iv 0,.nils],.rows 1 [cel c],.rows 1 ((s.s1.grave++[c]).map cel)])) rfl ?_ rfl ?_
   ·show (((dd17.set 10 (ABlk.mapV (AVal.ren (ltM 17)) (.rows 1 (s.s1.deck.map cel)))).set 12 (ABlk.mapV (AVal.ren (ltM 17)) (.rows 1 (s.s1.grave.map cel)))).set 15 (.box (mv4 s)))=_;rw[Xs,Xs]
   ·exact c58 (τ:=(((dd17.set 10 (.rows 1 (s.s1.deck.map cel))).set 12 (.rows 1 (s.s1.grave.map cel))).set 15 (.box (mv4 s)))) (mb:=15) (jf:=19) (jt:=21) (bf:=10) (bt:=12) (row:=(mv4 s)) (row1:=((mv4 s).set 19 (tailV 10 l))) (row2:=(((mv4 s).set 19 (tailV 10 l)).set 21 (.sl 18 0 (s.s1.grave.length+1) false))) (x:=c) (l:=l) (t:=s.s1.grave) (vf:=tailV 10 l) rfl rfl hdl rfl rfl (Nat.le_trans hs.s1.grave (by decide)) (show ABlk.rows 1 (s.s1.deck.map cel)=_ by rw[hd]) rfl (by decide) (by decide) rfl rfl rfl ⟨rfl,rfl⟩
   ·show [(15,.box (((mv4 s).set 19 ((tailV 10 l).ren (keepM [0,4,5,6,7,8,9,10,11,12,13,14,15] 17 2))).set 21 (.sl 18 0 (s.s1.grave.length+1) false))),(10,ABlk.mapV (AVal.ren (keepM [0,4,5,6,7,8,9,10,11,12,13,14,15] 17 2)) (.rows 1 (s.s1.deck.map cel))),(12,.dead),(17,.rows 1 [cel c]),(18,ABlk.mapV (AVal.ren (keepM [0,4,5,6,7,8,9,10,11,12,13,14,15] 17 2)) (.rows 1 ((s.s1.grave++[c]).map cel)))]=_;rw[Zan (b:=10) (l:=l) (m:=keepM [0,4,5,6,7,8,9,10,11,12,13,14,15] 17 2) rfl,Xs,Xs]
   refine Qg rfl (Yh (v:=.junk) (rd:=[]) (up:=[(16,.box [iv8 4,iv 1,iv c,iv 0,iv 0,iv 0,.nils])]) rfl rfl ?_);refine QB (by kernel_rfl) ?_;refine Yy 3 (Zi ?_);refine Za rfl (Qd ?_);refine Qg rfl (Qg rfl (Qg rfl (Qg rfl (Qg rfl (Yh (ld (row:=(((mv4 s).set 19 (tailV 10 l)).set 21 (.sl 18 0 (s.s1.grave.length+1) false))) rfl rfl) (Qj _) ?_)))));refine Qg rfl (Yh (ld (row:=[iv8 4,iv 1,iv c,iv 0,iv 0,iv 0,.nils]) rfl rfl) (Qj _) ?_);refine Yh (v:=.sl 19 0 1 true) (rd:=[]) (up:=[(19,.rows 1 [cel c])]) rfl rfl ?_;refine Yh (v:=.sl 20 0 (s.s0.told.length+1) false) (rd:=[19]) (up:=[(9,.dead),(20,.rows 1 ((s.s0.told++[c]).map cel))]) ?_ rfl ?_
   ·have:=XV 1 8 (σ:=(((sg4 b s).set 12 .dead).append [.box (((mv4 s).set 19 (tailV 10 l)).set 21 (.sl 18 0 (s.s1.grave.length+1) false)),.box [iv8 4,iv 1,iv c,iv 0,iv 0,iv 0,.nils],.rows 1 [cel c],.rows 1 ((s.s1.grave++[c]).map cel),.rows 1 [cel c]])) (b:=9) (c:=19) (len:=s.s0.told.length) (ex:=false) (rs:=s.s0.told.map cel) (row:=cel c) rfl rfl (by simp) rfl (by have:=hs.s0.told; omega);rw[show (s.s0.told++[c]).map cel=s.s0.told.map cel++[cel c] by simp]; exact this
   refine Qg rfl (Qg rfl (Qg rfl (Qg rfl (Qg rfl (Yh (v:=.junk) (rd:=[]) (up:=[(15,.box ((((mv4 s).set 15 (.sl 20 0 (s.s0.told.length+1) false)).set 19 (tailV 10 l)).set 21 (.sl 18 0 (s.s1.grave.length+1) false)))]) rfl rfl ?_)))));refine QB (by kernel_rfl) (Za rfl ?_);rw[w1];refine Zi ?_;refine Za rfl (Qd ?_);refine Qg rfl (Qg rfl (Qg rfl (Qg rfl (Qg rfl (Yh (ld (row:=((((mv4 s).set 15 (.sl 20 0 (s.s0.told.length+1) false)).set 19 (tailV 10 l)).set 21 (.sl 18 0 (s.s1.grave.length+1) false))) rfl rfl) (Qj _) ?_)))));refine Qg rfl (Yh (ld (row:=[iv8 4,iv 1,iv c,iv 0,iv 0,iv 0,.nils]) rfl rfl) (Qj _) ?_);refine Yh (v:=.sl 21 0 1 true) (rd:=[]) (up:=[(21,.rows 1 [cel c])]) rfl rfl ?_;refine Yh (v:=.sl 22 0 (s.s1.told.length+1) false) (rd:=[21]) (up:=[(14,.dead),(22,.rows 1 ((s.s1.told++[c]).map cel))]) ?_ rfl ?_
   ·have:=XV 1 8 (σ:=((((sg4 b s).set 9 .dead).set 12 .dead).append [.box ((((mv4 s).set 15 (.sl 20 0 (s.s0.told.length+1) false)).set 19 (tailV 10 l)).set 21 (.sl 18 0 (s.s1.grave.length+1) false)),.box [iv8 4,iv 1,iv c,iv 0,iv 0,iv 0,.nils],.rows 1 [cel c],.rows 1 ((s.s1.grave++[c]).map cel),.rows 1 [cel c],.rows 1 ((s.s0.told++[c]).map cel),.rows 1 [cel c]])) (b:=14) (c:=21) (len:=s.s1.told.length) (ex:=false) (rs:=s.s1.told.map cel) (row:=cel c) rfl rfl (by simp) rfl (by have:=hs.s1.told; omega);rw[show (s.s1.told++[c]).map cel=s.s1.told.map cel++[cel c] by simp]; exact this
   refine Qg rfl (Qg rfl (Qg rfl (Qg rfl (Qg rfl (Yh (v:=.junk) (rd:=[]) (up:=[(15,.box (((((mv4 s).set 15 (.sl 20 0 (s.s0.told.length+1) false)).set 19 (tailV 10 l)).set 21 (.sl 18 0 (s.s1.grave.length+1) false)).set 23 (.sl 22 0 (s.s1.told.length+1) false)))]) rfl rfl ?_)))));refine QB (by kernel_rfl) (Za rfl ?_);rw[w2];refine Zi ?_;refine Za rfl (Xg ?_);refine kk _ _ { s with s1:={ s.s1 with deck:=l,grave:=s.s1.grave++[c],told:=s.s1.told++[c] },s0:={ s.s0 with told:=s.s0.told++[c] } } ⟨4,1,c,0,0,0,[]⟩ (List.range 23) 23 rfl (by decide) rfl rfl rfl rfl rfl rfl ?_ ?_ ?_ (by kernel_rfl)
   ·refine SB.mk (rd:=List.range 23) (s:={ s with s1:={ s.s1 with deck:=l,grave:=s.s1.grave++[c],told:=s.s1.told++[c] },s0:={ s.s0 with told:=s.s0.told++[c] } }) ?_ ?_ ?_ ?_ ?_ ?_ ?_ ?_ ?_ ?_ ?_<;>first|exact RI.own rfl (by decide) rfl|exact RI.own rfl (by decide) (by simp)|exact RT.own rfl (by decide) rfl|exact RI.tailV (show ABlk.rows 1 (s.s1.deck.map cel)=_ by rw[hd]) (by decide)
   ·have q1:=hs.s1.grave;have q2:=hs.s1.told;have q3:=hs.s1.deck;have q4:=hs.s0.told;refine⟨hs9.1,⟨hs9.2.1,hs9.2.2,hs9.2.3,hs9.2.4,by show (s.s0.told++[c]).length≤_; simp; omega⟩,⟨by show l.length≤_; omega,hs9.3.2,by show (s.s1.grave++[c]).length≤_; simp; omega,hs9.3.4,by show (s.s1.told++[c]).length≤_; simp; omega⟩⟩
   ·show (match s.s1.deck with | []=>_|c::l=>_)=_;rw[hd]; show (if 10≤s.s1.hand.length then _ else _)=_;rw[if_pos h3]; rfl
  ·have h3:¬10≤s.s1.hand.length:=by have:=of_decide_eq_false h2; omega
   refine Qg rfl (Qg rfl (Qg rfl (Qg rfl ?_)));refine YH hP rfl g58_ok rfl [15,10,11] [0,4,5,6,7,8,9,10,11,12,13,14,15] (v:=iv c) (m:=2) (σ:=((sg4 b s).append [.box (mv4 s),.box [iv8 3,iv 1,iv 0,iv 0,iv 0,iv 0,.nils]])) (τ:=(((dd17.set 10 (.rows 1 (s.s1.deck.map cel))).set 11 (.rows 1 (s.s1.hand.map cel))).set 15 (.box (mv4 s)))) (τ':=(((dd17.set 10 (.rows 1 (s.s1.deck.map cel))).set 15 (.box (((mv4 s).set 19 (tailV 10 l)).set 20 (.sl 18 0 (s.s1.hand.length+1) false)))).append [.rows 1 [cel c],.rows 1 ((s.s1.hand++[c]).map cel)])) (by decide) (show ∀b∈[0,4,5,6,7,8,9,10,11,12,13,14,15],b<17 by decide) rfl ?_ ?_ rfl (u:=iv c) (up:=[(15,.box (((mv4 s).set 19 (tailV 10 l)).set 20 (.sl 18 0 (s.s1.hand.length+1) false))),(10,.rows 1 (s.s1.deck.map cel)),(11,.dead),(17,.rows 1 [cel c]),(18,.rows 1 ((s.s1.hand++[c]).map cel))]) (σ':=(((sg4 b s).set 11 .dead).append [.box (((mv4 s).set 19 (tailV 10 l)).set 20 (.sl 18 0 (s.s1.hand.length+1) false)),.box [iv8 3,iv 1,iv 0,iv 0,iv 0,iv 0,.nils],.rows 1 [cel c],.rows 1 ((s.s1.hand++[c]).map cel)])) rfl ?_ rfl ?_
   ·show (((dd17.set 10 (ABlk.mapV (AVal.ren (ltM 17)) (.rows 1 (s.s1.deck.map cel)))).set 11 (ABlk.mapV (AVal.ren (ltM 17)) (.rows 1 (s.s1.hand.map cel)))).set 15 (.box (mv4 s)))=_;rw[Xs,Xs]
   ·exact c58 (τ:=(((dd17.set 10 (.rows 1 (s.s1.deck.map cel))).set 11 (.rows 1 (s.s1.hand.map cel))).set 15 (.box (mv4 s)))) (mb:=15) (jf:=19) (jt:=20) (bf:=10) (bt:=11) (row:=(mv4 s)) (row1:=((mv4 s).set 19 (tailV 10 l))) (row2:=(((mv4 s).set 19 (tailV 10 l)).set 20 (.sl 18 0 (s.s1.hand.length+1) false))) (x:=c) (l:=l) (t:=s.s1.hand) (vf:=tailV 10 l) rfl rfl hdl rfl rfl (Nat.le_trans hs.s1.hand (by decide)) (show ABlk.rows 1 (s.s1.deck.map cel)=_ by rw[hd]) rfl (by decide) (by decide) rfl rfl rfl ⟨rfl,rfl⟩
   ·show [(15,.box (((mv4 s).set 19 ((tailV 10 l).ren (keepM [0,4,5,6,7,8,9,10,11,12,13,14,15] 17 2))).set 20 (.sl 18 0 (s.s1.hand.length+1) false))),(10,ABlk.mapV (AVal.ren (keepM [0,4,5,6,7,8,9,10,11,12,13,14,15] 17 2)) (.rows 1 (s.s1.deck.map cel))),(11,.dead),(17,.rows 1 [cel c]),(18,ABlk.mapV (AVal.ren (keepM [0,4,5,6,7,8,9,10,11,12,13,14,15] 17 2)) (.rows 1 ((s.s1.hand++[c]).map cel)))]=_;rw[Zan (b:=10) (l:=l) (m:=keepM [0,4,5,6,7,8,9,10,11,12,13,14,15] 17 2) rfl,Xs,Xs]
   refine Qg rfl (Yh (v:=.junk) (rd:=[]) (up:=[(16,.box [iv8 3,iv 1,iv c,iv 0,iv 0,iv 0,.nils])]) rfl rfl ?_);refine QB (by kernel_rfl) ?_;refine Qg rfl (Qg rfl (Yh (ld (row:=(((mv4 s).set 19 (tailV 10 l)).set 20 (.sl 18 0 (s.s1.hand.length+1) false))) rfl rfl) (Qj _) ?_));refine Qg rfl (Yh (ld (row:=[iv8 3,iv 1,iv c,iv 0,iv 0,iv 0,.nils]) rfl rfl) (Qj _) ?_);refine Yh (v:=.sl 19 0 1 true) (rd:=[]) (up:=[(19,.rows 1 [cel c])]) rfl rfl ?_;refine Yh (v:=.sl 20 0 (s.s1.told.length+1) false) (rd:=[19]) (up:=[(14,.dead),(20,.rows 1 ((s.s1.told++[c]).map cel))]) ?_ rfl ?_
   ·have:=XV 1 8 (σ:=(((sg4 b s).set 11 .dead).append [.box (((mv4 s).set 19 (tailV 10 l)).set 20 (.sl 18 0 (s.s1.hand.length+1) false)),.box [iv8 3,iv 1,iv c,iv 0,iv 0,iv 0,.nils],.rows 1 [cel c],.rows 1 ((s.s1.hand++[c]).map cel),.rows 1 [cel c]])) (b:=14) (c:=19) (len:=s.s1.told.length) (ex:=false) (rs:=s.s1.told.map cel) (row:=cel c) rfl rfl (by simp) rfl (by have:=hs.s1.told; omega);rw[show (s.s1.told++[c]).map cel=s.s1.told.map cel++[cel c] by simp]; exact this
   refine Qg rfl (Qg rfl (Yh (v:=.junk) (rd:=[]) (up:=[(15,.box ((((mv4 s).set 19 (tailV 10 l)).set 20 (.sl 18 0 (s.s1.hand.length+1) false)).set 23 (.sl 20 0 (s.s1.told.length+1) false)))]) rfl rfl ?_));refine QB (by kernel_rfl) ?_;refine kk _ _ { s with s1:={ s.s1 with deck:=l,hand:=s.s1.hand++[c],told:=s.s1.told++[c] } } ⟨3,1,c,0,0,0,[]⟩ (List.range 21) 21 rfl (by decide) rfl rfl rfl rfl rfl rfl ?_ ?_ ?_ (by kernel_rfl)
   ·refine SB.mk (rd:=List.range 21) (s:={ s with s1:={ s.s1 with deck:=l,hand:=s.s1.hand++[c],told:=s.s1.told++[c] } }) ?_ ?_ ?_ ?_ ?_ ?_ ?_ ?_ ?_ ?_ ?_<;>first|exact RI.own rfl (by decide) rfl|exact RI.own rfl (by decide) (by simp)|exact RT.own rfl (by decide) rfl|exact RI.tailV (show ABlk.rows 1 (s.s1.deck.map cel)=_ by rw[hd]) (by decide)
   ·have q1:=hs.s1.hand;have q2:=hs.s1.told;have q3:=hs.s1.deck;refine⟨hs9.1,⟨hs9.2.1,hs9.2.2,hs9.2.3,hs9.2.4,hs9.2.5⟩,⟨by show l.length≤_; omega,by show (s.s1.hand++[c]).length≤_; simp; omega,hs9.3.3,hs9.3.4,by show (s.s1.told++[c]).length≤_; simp; omega⟩⟩
   ·show (match s.s1.deck with | []=>_|c::l=>_)=_;rw[hd]; show (if 10≤s.s1.hand.length then _ else _)=_;rw[if_neg h3]; rfl
end Go.Ah.Tz
end
section
namespace Go.Ah.Tz
open Go.Proofs.Tryz (prog)
def XS(b:Bk)(s:St)(k c:Int):Bool:=((((decide (c<0)||decide ((b.cards.length:Int)≤c)) || !((b.cards[c.toNat]?).getD default).unit)||decide (7≤((s.side k).units.length:Int)))||decide (1000000≤s.next))
def QG(s:St)(k c:Int):St:={ s.put k { s.side k with units:=(s.side k).units++[⟨s.next,c,0,true⟩] } with next:=s.next+1 }
def Xat(b:Bk)(s:St)(k c:Int):AVal:=
 if XS b s k c then resX zSt zEv (.bool false) else resX (QG s k c) ⟨2,k,c,s.next,0,0,[]⟩ (.bool true)
attribute [local irreducible] Ans.rd Ans.pu Ans.wr Ans.dr Ans.gr Ans.gw Ans.gl Ans.gd Ans.opt joinK W
set_option maxHeartbeats 4000000
theorem c21_0(b:Bk)(hf:bkFit b=true)(hsm:Yo b.cards)(s:St)(hs:StLe 2000000 s)(hm:mayR (bkR b).1 b s true=true)(c:Int):PC 21 [bkV b,stV s,iv 0,iv c] (Xat b s 0 c):=by
 have hfac:=Xt hm;have hw:IntKind.i64.wrap (s.next+1)=s.next+1:=IntWalk.i64_in _ (by omega);refine Zq hP g21_ok rfl ?_;unfold g21;refine Xd (v:=.bptr 0 0) (rd:=[]) (up:=[(0,.box (bkC b))]) rfl rfl ?_;refine Xd (v:=.bptr 1 0) (rd:=[]) (up:=[(1,.box (stC s))]) rfl rfl ?_;refine Xd (v:=.bptr 2 0) (rd:=[]) (up:=[(2,.box zStC)]) rfl rfl ?_;refine Xd (v:=.bptr 3 0) (rd:=[]) (up:=[(3,.box zEvC)]) rfl rfl ?_;refine c56n b hf hsm s (hs.mono (by decide)) (n0:=4) (n:=15) rfl rfl rfl rfl (λh=>by rw[hm] at h; cases h) (λ_=>?_);refine Za rfl ?_;refine ZN (c:=false) (d:=false) (λ_=>rfl) (λ_=>rfl) ?_;refine ZN (c:=false) (d:=false) (λ_=>rfl) (λ_=>rfl) ?_;refine ZN (c:=false) (λ_=>rfl) (λ_=>ZJ ..) ?_;refine Zbi (c:=decide (c<0)) (λ_=>rfl) (λ_=>rfl) (λ_=>rfl) (v4:=iv b.cards.length) (q4:=[]) (λ_=>by simp[Yg]) (λ_=>QT ..) ?_;refine YaN (d:=!((b.cards[c.toNat]?).getD default).unit) (λ_=>rfl) (λ_=>rfl) (λ_=>rfl) (v4:=.rptr (cdC ((b.cards[c.toNat]?).getD default)) 0) (q4:=[]) (λhc=>?_) (λ_=>rfl) (λ_=>ldr (cdLd1 _)) (λ_=>rfl) ?_
 ·have h0:0≤c∧c.toNat<b.cards.length:=by
   have:¬c<0∧¬(b.cards.length:Int)≤c:=by simpa using hc
   omega
  have:=Za9 (((sg4 b s).append [.box (mv4 s)])) cdC false false 12 b.cards .i64 c h0.1 h0.2;rw[List.getElem?_eq_getElem h0.2]; exact this
 refine YaN (λ_=>rfl) (λ_=>rfl) (λ_=>rfl) (λ_=>rfl) (λ_=>rfl) (v6:=iv s.s0.units.length) (q6:=[]) (λ_=>by simp[Yg]) (λ_=>QT ..) ?_;refine ZaN (λ_=>rfl) (λ_=>rfl) (λ_=>QT ..) ?_;refine Qb (λh=>?_) (λh=>?_)
 ·refine Za rfl (Za rfl (Xd rfl rfl (Xd rfl rfl (Yi rfl (Yi rfl ?_)))));have hr:Xat b s 0 c=resX zSt zEv (.bool false):=if_pos h;rw[hr];exact⟨[],resZX rfl⟩
 have hr:Xat b s 0 c=resX (QG s 0 c) ⟨2,0,c,s.next,0,0,[]⟩ (.bool true):=if_neg (by rw[Bool.not_eq_true]; exact h);have hu:¬7≤(s.s0.units.length:Int):=by
  have h':XS b s 0 c=false:=h;simp only[XS,Bool.or_eq_false_iff,decide_eq_false_iff_not] at h';exact h'.1.2
 refine Za rfl (Za rfl (Za rfl (Za rfl ?_)));refine Qg rfl (Qg rfl (Yh (ld (row:=(mv4 s)) rfl rfl) (Qj _) ?_));refine Qg rfl (Yh (ld (row:=stC s) rfl rfl) (Qj _) (Qg rfl ?_));refine Yh (v:=.sl 16 0 1 true) (rd:=[]) (up:=[(16,.rows 4 [thC (⟨s.next,c,0,true⟩:Th)])]) rfl rfl ?_;refine Yh (v:=.sl 17 0 (s.s0.units.length+1) false) (rd:=[16]) (up:=[(8,.dead),(17,.rows 4 ((s.s0.units++[(⟨s.next,c,0,true⟩:Th)]).map thC))]) ?_ rfl ?_
 ·have:=XV 4 32 (σ:=((sg4 b s).append [.box (mv4 s),.rows 4 [thC (⟨s.next,c,0,true⟩:Th)]])) (b:=8) (c:=16) (len:=s.s0.units.length) (ex:=false) (rs:=s.s0.units.map thC) (row:=thC (⟨s.next,c,0,true⟩:Th)) rfl rfl (by simp) rfl (by omega);rw[show (s.s0.units++[(⟨s.next,c,0,true⟩:Th)]).map thC=s.s0.units.map thC++[thC (⟨s.next,c,0,true⟩:Th)] by simp]; exact this
 refine Qg rfl (Qg rfl (Yh (v:=.junk) (rd:=[]) (up:=[(15,.box ((mv4 s).set 14 (.sl 17 0 (s.s0.units.length+1) false)))]) rfl rfl ?_));refine QB (by kernel_rfl) ?_;refine Za rfl (Za rfl (Za rfl (Za (ld (row:=((mv4 s).set 14 (.sl 17 0 (s.s0.units.length+1) false))) rfl rfl) (Za (Xi ..) ?_))));rw[hw];refine Za rfl (Za rfl (Za rfl (Xd (v:=.junk) (rd:=[]) (up:=[(15,.box (((mv4 s).set 7 (iv (s.next+1))).set 14 (.sl 17 0 (s.s0.units.length+1) false)))]) rfl rfl ?_)));refine Qg rfl (Qg rfl (Yh (ld (row:=(((mv4 s).set 7 (iv (s.next+1))).set 14 (.sl 17 0 (s.s0.units.length+1) false))) rfl rfl) (Qj _) ?_));refine Qg rfl (Yh (ld (row:=stC s) rfl rfl) (Qj _) (Qg rfl ?_));refine Yh (v:=.junk) (rd:=[]) (up:=[(2,.box (((st4 s).set 6 (iv (s.next+1))).set 13 (.sl 17 0 (s.s0.units.length+1) false)))]) rfl rfl ?_;refine Yh (v:=.junk) (rd:=[]) (up:=[(3,.box [iv8 2,iv 0,iv c,iv s.next,iv 0,iv 0,.nils])]) rfl rfl ?_;refine QB (by kernel_rfl) (Yi rfl (Yi rfl ?_));refine⟨List.range 18,?_⟩;rw[hr];refine resXB (cs:=(((st4 s).set 6 (iv (s.next+1))).set 13 (.sl 17 0 (s.s0.units.length+1) false))) (s:=QG s 0 c) ?_ (evB (e:=⟨2,0,c,s.next,0,0,[]⟩) RI.nils) rfl;refine SB.mk (rd:=List.range 18) (s:=QG s 0 c) ?_ ?_ ?_ ?_ ?_ ?_ ?_ ?_ ?_ ?_ ?_<;>first|exact RI.own rfl (by decide) rfl|exact RT.own rfl (by decide) rfl|exact RT.own (l:=s.s0.units++[(⟨s.next,c,0,true⟩:Th)]) rfl (by decide) (by simp)
theorem c21_1(b:Bk)(hf:bkFit b=true)(hsm:Yo b.cards)(s:St)(hs:StLe 2000000 s)(hm:mayR (bkR b).1 b s true=true)(c:Int):PC 21 [bkV b,stV s,iv 1,iv c] (Xat b s 1 c):=by
 have hfac:=Xt hm;have hw:IntKind.i64.wrap (s.next+1)=s.next+1:=IntWalk.i64_in _ (by omega);refine Zq hP g21_ok rfl ?_;unfold g21;refine Xd (v:=.bptr 0 0) (rd:=[]) (up:=[(0,.box (bkC b))]) rfl rfl ?_;refine Xd (v:=.bptr 1 0) (rd:=[]) (up:=[(1,.box (stC s))]) rfl rfl ?_;refine Xd (v:=.bptr 2 0) (rd:=[]) (up:=[(2,.box zStC)]) rfl rfl ?_;refine Xd (v:=.bptr 3 0) (rd:=[]) (up:=[(3,.box zEvC)]) rfl rfl ?_;refine c56n b hf hsm s (hs.mono (by decide)) (n0:=4) (n:=15) rfl rfl rfl rfl (λh=>by rw[hm] at h; cases h) (λ_=>?_);refine Za rfl ?_;refine ZN (c:=false) (d:=false) (λ_=>rfl) (λ_=>rfl) ?_;refine ZN (c:=false) (d:=false) (λ_=>rfl) (λ_=>rfl) ?_;refine ZN (c:=false) (λ_=>rfl) (λ_=>ZJ ..) ?_;refine Zbi (c:=decide (c<0)) (λ_=>rfl) (λ_=>rfl) (λ_=>rfl) (v4:=iv b.cards.length) (q4:=[]) (λ_=>by simp[Yg]) (λ_=>QT ..) ?_;refine YaN (d:=!((b.cards[c.toNat]?).getD default).unit) (λ_=>rfl) (λ_=>rfl) (λ_=>rfl) (v4:=.rptr (cdC ((b.cards[c.toNat]?).getD default)) 0) (q4:=[]) (λhc=>?_) (λ_=>rfl) (λ_=>ldr (cdLd1 _)) (λ_=>rfl) ?_
 ·have h0:0≤c∧c.toNat<b.cards.length:=by
   have:¬c<0∧¬(b.cards.length:Int)≤c:=by simpa using hc
   omega
  have:=Za9 (((sg4 b s).append [.box (mv4 s)])) cdC false false 12 b.cards .i64 c h0.1 h0.2;rw[List.getElem?_eq_getElem h0.2]; exact this
 refine YaN (λ_=>rfl) (λ_=>rfl) (λ_=>rfl) (λ_=>rfl) (λ_=>rfl) (v6:=iv s.s1.units.length) (q6:=[]) (λ_=>by simp[Yg]) (λ_=>QT ..) ?_;refine ZaN (λ_=>rfl) (λ_=>rfl) (λ_=>QT ..) ?_;refine Qb (λh=>?_) (λh=>?_)
 ·refine Za rfl (Za rfl (Xd rfl rfl (Xd rfl rfl (Yi rfl (Yi rfl ?_)))));have hr:Xat b s 1 c=resX zSt zEv (.bool false):=if_pos h;rw[hr];exact⟨[],resZX rfl⟩
 have hr:Xat b s 1 c=resX (QG s 1 c) ⟨2,1,c,s.next,0,0,[]⟩ (.bool true):=if_neg (by rw[Bool.not_eq_true]; exact h);have hu:¬7≤(s.s1.units.length:Int):=by
  have h':XS b s 1 c=false:=h;simp only[XS,Bool.or_eq_false_iff,decide_eq_false_iff_not] at h';exact h'.1.2
 refine Za rfl (Za rfl (Za rfl (Za rfl ?_)));refine Qg rfl (Qg rfl (Yh (ld (row:=(mv4 s)) rfl rfl) (Qj _) ?_));refine Qg rfl (Yh (ld (row:=stC s) rfl rfl) (Qj _) (Qg rfl ?_));refine Yh (v:=.sl 16 0 1 true) (rd:=[]) (up:=[(16,.rows 4 [thC (⟨s.next,c,0,true⟩:Th)])]) rfl rfl ?_;refine Yh (v:=.sl 17 0 (s.s1.units.length+1) false) (rd:=[16]) (up:=[(13,.dead),(17,.rows 4 ((s.s1.units++[(⟨s.next,c,0,true⟩:Th)]).map thC))]) ?_ rfl ?_
 ·have:=XV 4 32 (σ:=((sg4 b s).append [.box (mv4 s),.rows 4 [thC (⟨s.next,c,0,true⟩:Th)]])) (b:=13) (c:=16) (len:=s.s1.units.length) (ex:=false) (rs:=s.s1.units.map thC) (row:=thC (⟨s.next,c,0,true⟩:Th)) rfl rfl (by simp) rfl (by omega);rw[show (s.s1.units++[(⟨s.next,c,0,true⟩:Th)]).map thC=s.s1.units.map thC++[thC (⟨s.next,c,0,true⟩:Th)] by simp]; exact this
 refine Qg rfl (Qg rfl (Yh (v:=.junk) (rd:=[]) (up:=[(15,.box ((mv4 s).set 22 (.sl 17 0 (s.s1.units.length+1) false)))]) rfl rfl ?_));refine QB (by kernel_rfl) ?_;refine Za rfl (Za rfl (Za rfl (Za (ld (row:=((mv4 s).set 22 (.sl 17 0 (s.s1.units.length+1) false))) rfl rfl) (Za (Xi ..) ?_))));rw[hw];refine Za rfl (Za rfl (Za rfl (Xd (v:=.junk) (rd:=[]) (up:=[(15,.box (((mv4 s).set 7 (iv (s.next+1))).set 22 (.sl 17 0 (s.s1.units.length+1) false)))]) rfl rfl ?_)));refine Qg rfl (Qg rfl (Yh (ld (row:=(((mv4 s).set 7 (iv (s.next+1))).set 22 (.sl 17 0 (s.s1.units.length+1) false))) rfl rfl) (Qj _) ?_));refine Qg rfl (Yh (ld (row:=stC s) rfl rfl) (Qj _) (Qg rfl ?_));refine Yh (v:=.junk) (rd:=[]) (up:=[(2,.box (((st4 s).set 6 (iv (s.next+1))).set 21 (.sl 17 0 (s.s1.units.length+1) false)))]) rfl rfl ?_;refine Yh (v:=.junk) (rd:=[]) (up:=[(3,.box [iv8 2,iv 1,iv c,iv s.next,iv 0,iv 0,.nils])]) rfl rfl ?_;refine QB (by kernel_rfl) (Yi rfl (Yi rfl ?_));refine⟨List.range 18,?_⟩;rw[hr];refine resXB (cs:=(((st4 s).set 6 (iv (s.next+1))).set 21 (.sl 17 0 (s.s1.units.length+1) false))) (s:=QG s 1 c) ?_ (evB (e:=⟨2,1,c,s.next,0,0,[]⟩) RI.nils) rfl;refine SB.mk (rd:=List.range 18) (s:=QG s 1 c) ?_ ?_ ?_ ?_ ?_ ?_ ?_ ?_ ?_ ?_ ?_<;>first|exact RI.own rfl (by decide) rfl|exact RT.own rfl (by decide) rfl|exact RT.own (l:=s.s1.units++[(⟨s.next,c,0,true⟩:Th)]) rfl (by decide) (by simp)
end Go.Ah.Tz
end
section
namespace Go.Ah.Tz
open Go.Proofs.Tryz (prog)
attribute [local irreducible] Ans.rd Ans.pu Ans.wr Ans.dr Ans.gr Ans.gw Ans.gl Ans.gd Ans.opt joinK W
set_option maxHeartbeats 4000000
theorem c118(l:List Th)(hl:l.length≤1000000000)(id:FuncId)(fs cs:List AVal)(hp:Yk prog id=true)(f:Th→Bool)(hc:∀x∈l,PC id (fs++[.agg (thC x)]++cs) (.bool (f x)))(hr:∀x,roL (fs++[.agg (thC x)]++cs)=true) :
  PC 118 [thV l,.func (.func id) fs cs] (iv (idxF f l 0)):=by
 refine Ye hP g118_ok rfl rfl ?_;unfold g118;refine Za (v:=iv l.length) (rd:=[]) (by simp[Yg]) ?_;refine Yl (ι:=Nat) (λi vs s=>vs=[iv i]∧i≤l.length∧idxF f l 0=idxF f (l.drop i) i) (λi=>l.length-i) 0 ⟨rfl,by omega,by simp⟩ ?_;rintro i vs s again ⟨rfl,hi,hr'⟩ hag;refine Za rfl (Qb (λh=>?_) (λh=>?_))
 ·have h:i<l.length:=by simpa using h
  refine Za (Xq _ thC _ _ _ l _ i h) (Za (ldr rfl) ?_);refine Xc (hc _ (List.getElem_mem h)) rfl hp (hr _) ?_;rw[YLD h,idxF] at hr';refine Qb (λh2=>?_) (λh2=>?_)
  ·rw[if_pos h2] at hr'; rw[hr']; rfl
  ·rw[if_neg (by rw[h2]; simp)] at hr';refine Za (Xi ..) ?_;rw[Qe (n:=i) (by omega)];exact hag (i+1) _ _ (by omega) ⟨rfl,by omega,by rw[hr']; push_cast; rfl⟩
 ·have h:i=l.length:=by simp at h; omega
  subst h;rw[List.drop_length,idxF] at hr';rw[hr']
theorem c119(u:Th)(id:Int):PC 119 [.agg (thC u),.rptr [iv id] 0] (.bool (decide (u.id=id))):=by
 refine Ye hP g119_ok rfl rfl ?_;unfold g119;exact Xd rfl rfl (Za rfl (Za (ld rfl rfl) (Za rfl (Za (Zf ..) rfl))))
theorem XbA(id:Int):∀(l:List Th) (n:Int),idxF (λu:Th=>decide (u.id=id)) l n=match fnd l id with
  |some k=>n+k
  |none=>-1
 |[],n=>rfl
 |u::l,n=>by
  have ih:=XbA id l (n+1);simp only[idxF,fnd,List.findIdx?_cons] at ih ⊢;by_cases h:u.id=id
  ·simp[h]
  ·simp only[decide_eq_false h,Bool.false_eq_true,if_false,ih];cases List.findIdx? (λu=>decide (u.id=id)) l with
   |none=>rfl
   |some k=>show n+1+(k:Int)=n+((k+1:Nat):Int); omega
theorem c71(s:St)(hs:StLe 1000000000 s)(id:Int):PC 71 [stV s,iv id] (unitV s id):=by
 have h0:=c118 s.s0.units hs.s0.units 119 [] [.rptr [iv id] 0] g119_ok.plain (λu=>decide (u.id=id)) (λx _=>c119 x id) (λx=>rfl);have h1:=c118 s.s1.units hs.s1.units 119 [] [.rptr [iv id] 0] g119_ok.plain (λu=>decide (u.id=id)) (λx _=>c119 x id) (λx=>rfl);have w1:IntKind.i64.wrap (0+1)=1:=by decide
 have w2:IntKind.i64.wrap (1+1)=2:=by decide
 rw[XbA] at h0 h1;refine Ye hP g71_ok rfl rfl ?_;unfold g71;refine Xd rfl rfl (Xd rfl rfl ?_);refine Yy 3 (Zi ?_);refine Za rfl (Qd (Za rfl (Za rfl (Za rfl (Za rfl (Za rfl ?_))))));refine Xz h0 rfl g118_ok.plain rfl rfl ?_;simp only[unitV,unitR];cases q0:fnd s.s0.units id with
 |some k=>
  simp only[q0];refine Za (QT ..) ?_;rw[decide_eq_true (by omega)];exact Qd (by simp)
 |none=>
  simp only[q0];refine Za rfl (Xg (Za rfl ?_));rw[w1];refine Zi ?_;refine Za rfl (Qd (Za rfl (Za rfl (Za rfl (Za rfl (Za rfl ?_))))));refine Xz h1 rfl g118_ok.plain rfl rfl ?_;cases q1:fnd s.s1.units id with
  |some k=>
   simp only[q1];refine Za (QT ..) ?_;rw[decide_eq_true (by omega)];exact Qd (by simp)
  |none=>
   simp only[q1];refine Za rfl (Xg (Za rfl ?_));rw[w2];refine Zi ?_;exact Za rfl (Xg (by simp))
def YaE(b:Bk)(c:Int):Int:=((b.cards[c.toNat]?).getD default).shield
def hurt(b:Bk)(u:Th)(n:Int):Int:=max (IntKind.i64.wrap (n-YaE b u.card)) 0
theorem cdLd5(x:Cd):partA false 5 1 (cdC x)=some (iv x.shield):=rfl
theorem c66n(m:List AVal)(life n:Int):PC 66 [.rptr m 0,.nilp,iv life,iv n] (.tup [iv (IntKind.i64.wrap (life-n)),iv n]):=by
 refine Ye hP g66_ok rfl rfl ?_;unfold g66;exact Za rfl (Xg (Za (XbX ..) rfl))
theorem c66u(b:Bk)(m:List AVal)(u:Th)(life n:Int)(h0:0≤u.card)(h1:u.card.toNat<b.cards.length):PC 66 [.rptr (.rptr (bkC b) 0::m) 0,.rptr (thC u) 0,iv life,iv n] (.tup [iv (IntKind.i64.wrap (u.harm+hurt b u n)),iv (hurt b u n)]):=by
 refine Ye hP g66_ok rfl rfl ?_;unfold g66;refine Za rfl (Qd (Za rfl (Za rfl (Za (ldr rfl) (Za rfl (Za rfl (Za (ldr rfl) (Za rfl (Za rfl (Za (ldr rfl) ?_))))))))));have hx:=Za9 [] cdC false false 12 b.cards .i64 u.card h0 h1;refine Za hx (Za rfl (Za (ldr (cdLd5 _)) (Za (XbX ..) (Za (XaG ..) ?_))));refine Za rfl (Za rfl (Za (ldr rfl) (Za (Xi ..) ?_)));have:YaE b u.card=(b.cards[u.card.toNat]).shield:=by simp[YaE,List.getElem?_eq_getElem h1]
 rw[hurt,this]
end Go.Ah.Tz
end
section
namespace Go.Ah.Tz
open Go.Proofs.Tryz (prog)
abbrev mv6(s:St):List AVal:=[.bptr 0 0,iv s.turn,iv s.mover,iv8 s.phase,.bool s.struck,iv8 s.result,.sl 6 0 s.attack.length false,iv s.next,iv s.s0.life,iv s.s0.mana,iv s.s0.most,.sl 7 0 s.s0.deck.length false,.sl 8 0 s.s0.hand.length false,.sl 9 0 s.s0.grave.length false,.sl 10 0 s.s0.units.length false,.sl 11 0 s.s0.told.length false,iv s.s1.life,iv s.s1.mana,iv s.s1.most,.sl 12 0 s.s1.deck.length false,.sl 13 0 s.s1.hand.length false,.sl 14 0 s.s1.grave.length false,.sl 15 0 s.s1.units.length false,.sl 16 0 s.s1.told.length false]
abbrev st6(s:St):List AVal:=[iv s.turn,iv s.mover,iv8 s.phase,.bool s.struck,iv8 s.result,.sl 6 0 s.attack.length false,iv s.next,iv s.s0.life,iv s.s0.mana,iv s.s0.most,.sl 7 0 s.s0.deck.length false,.sl 8 0 s.s0.hand.length false,.sl 9 0 s.s0.grave.length false,.sl 10 0 s.s0.units.length false,.sl 11 0 s.s0.told.length false,iv s.s1.life,iv s.s1.mana,iv s.s1.most,.sl 12 0 s.s1.deck.length false,.sl 13 0 s.s1.hand.length false,.sl 14 0 s.s1.grave.length false,.sl 15 0 s.s1.units.length false,.sl 16 0 s.s1.told.length false]
abbrev sg6(b:Bk)(s:St):List ABlk:=[.box (bkC b),.box (stC s),.box zStC,.box zEvC,.box zStC,.box zEvC,.rows 1 (s.attack.map cel),.rows 1 (s.s0.deck.map cel),.rows 1 (s.s0.hand.map cel),.rows 1 (s.s0.grave.map cel),.rows 4 (s.s0.units.map thC),.rows 1 (s.s0.told.map cel),.rows 1 (s.s1.deck.map cel),.rows 1 (s.s1.hand.map cel),.rows 1 (s.s1.grave.map cel),.rows 4 (s.s1.units.map thC),.rows 1 (s.s1.told.map cel)]
abbrev dd18:List ABlk:=[.dead,.dead,.dead,.dead,.dead,.dead,.dead,.dead,.dead,.dead,.dead,.dead,.dead,.dead,.dead,.dead,.dead,.dead]
def cap4(n:Int):Int:=min (max n 0) 4000000
def chgU(s:St)(kd k:Int)(i:Nat)(id:Int)(u:Th)(v:Int×Int):St×Ev×Int:=
 if wIn v.1 then (s.put k { s.side k with units:=(s.side k).units.set i { u with harm:=v.1 } },⟨kd,k,0,id,0,v.2,[]⟩,0) else (zSt,zEv,171)
def chgP(s:St)(kd k:Int)(v:Int×Int):St×Ev×Int:=
 if wIn v.1 then (s.put k { s.side k with life:=v.1 },⟨kd,k,0,0,0,v.2,[]⟩,0) else (zSt,zEv,171)
def chgF(kd:Int)(fP:Int→Int×Int)(fU:Th→Int×Int)(s:St)(id k:Int):St×Ev×Int:=
 if id=0 then chgP s kd k (fP (s.side k).life) else if id<0 then (zSt,zEv,4) else match fnd s.s0.units id with
  |some i=>chgU s kd 0 i id ((s.s0.units[i]?).getD default) (fU ((s.s0.units[i]?).getD default))
  |none=>match fnd s.s1.units id with
   |some i=>chgU s kd 1 i id ((s.s1.units[i]?).getD default) (fU ((s.s1.units[i]?).getD default))
   |none=>(zSt,zEv,4)
def harmF(b:Bk)(s:St)(id k n:Int):St×Ev×Int:=
 chgF 5 (λl=>(IntKind.i64.wrap (l-cap4 n),cap4 n)) (λu=>(IntKind.i64.wrap (u.harm+hurt b u (cap4 n)),hurt b u (cap4 n))) s id k
def mendF(s:St)(id k n:Int):St×Ev×Int:=
 chgF 6 (λl=>(IntKind.i64.wrap (l+cap4 n),cap4 n)) (λu=>(IntKind.i64.wrap (u.harm-min (cap4 n) u.harm),min (cap4 n) u.harm)) s id k
def gT(kd:Int)(F:FuncId):GFun:=λA xs σ ret=>match xs with
|[x0,x1,x2,x3,x4]=>
 A.wr (Qn [x0] σ) σ λt5_0 σ=>
 A.wr (Qn [x1] σ) σ λt6_1 σ=>
 A.wr (Xe zStC [] σ) σ λt10_2 σ=>
 A.wr (Xe zEvC [] σ) σ λt11_3 σ=>
 A.call (.call 64) [t5_0,t6_1,(.int .i8 kd),x2,x3,x4,(.func (.func F) [] [])] σ λt16_4 σ=>
 A.rd (Ze 0 [t16_4] σ) λt17_5=>
 A.rd (Ze 1 [t16_4] σ) λt18_6=>
 A.rd (Ze 2 [t16_4] σ) λt19_7=>
 A.wr (Xb 23 [t10_2,t17_5] σ) σ λ_ σ=>
 A.wr (Xb 7 [t11_3,t18_6] σ) σ λ_ σ=>
 A.opt (cellV true 23 t10_2 σ) λr8=>
 A.opt (cellV true 7 t11_3 σ) λr9=>
 ret (.tup [r8,r9,t19_7]) σ
|_=>A.stop
theorem Yah{b:Bk}{next:Int}:∀ {l:List Th} {ids:List Int},Qr b next ids l=true→∀u∈l,Qq b next u=true
 |v::l,ids,h,u,hu=>by
  simp only[Qr,Bool.and_eq_true] at h;rcases List.mem_cons.1 hu with rfl|hu
  ·exact h.1
  ·exact Yah h.2.2 u hu
theorem Z4{b:Bk}{next:Int}{u:Th}(h:Qq b next u=true):0≤u.card∧u.card.toNat<b.cards.length:=by
 simp only[Qq,Bool.and_eq_true,decide_eq_true_eq] at h;omega
theorem Yal{e:Int}{b:Bk}{s:St}{bare:Bool}(h:mayR e b s bare=true):∀u∈s.s0.units,0≤u.card∧u.card.toNat<b.cards.length:=by
 have:=Zal h;simp only[Zu,Bool.and_eq_true] at this;exact λu hu=>Z4 (Yah this.2.1 u hu)
theorem Xal{e:Int}{b:Bk}{s:St}{bare:Bool}(h:mayR e b s bare=true):∀u∈s.s1.units,0≤u.card∧u.card.toNat<b.cards.length:=by
 have:=Zal h;simp only[Zu,Bool.and_eq_true] at this;exact λu hu=>Z4 (Yah this.2.2.2 u hu)
theorem X4{l:List Th}{id:Int}{k:Nat}(h:fnd l id=some k):∃u,l[k]?=some u∧u.id=id:=by
 obtain⟨hk,h2,_⟩:=List.findIdx?_eq_some_iff_getElem.1 h;exact⟨l[k],by simp[hk],by simpa using h2⟩
theorem Ybx{σ:List ABlk}{b k:Nat}{l:List Th}{u:Th}(hU:hget σ b=.rows 4 (l.map thC))(hk:l[k]?=some u)(now:Int):Xb 1 [.ptr b k 2,iv now] σ=.ok .junk [] [(b,.rows 4 ((l.set k { u with harm:=now }).map thC))]:=by
 have h1:nth (l.map thC) k=some (thC u):=by rw[XW,List.getElem?_map,hk]; rfl
 have hl:k<(l.map thC).length:=by simpa using (YLG hk).1
 have h2:QC k [iv u.id,iv u.card,iv now,.bool u.tired] (l.map thC)=some ((l.set k { u with harm:=now }).map thC):=by
  rw[Qam hl,List.map_set]; rfl
 show (match hget σ b with
   |.rows sz rs=>match nth rs k with
    |some row=>match cellsOf (iv now) with
     | some cs=>bif Nat.beq cs.length 1 then (match splice 2 cs row with
      |some row'=>match QC k row' rs with
       |some rs'=>SRes.ok .junk [] [(b,.rows sz rs')]
       |none=>.stop
      | none=>.stop) else .stop
     |none=>.stop
    |none=>.stop
   | _=>.stop)=_
 rw[hU];simp only[h1];show (match QC k [iv u.id,iv u.card,iv now,.bool u.tired] (l.map thC) with
  |some rs'=>SRes.ok .junk [] [(b,.rows 4 rs')]
  | none=>.stop)=_
 rw[h2]
attribute [local irreducible] Ans.rd Ans.pu Ans.wr Ans.dr Ans.gr Ans.gw Ans.gl Ans.gd Ans.opt joinK W
set_option maxHeartbeats 4000000
theorem cTp_0{b:Bk}(hf:bkFit b=true)(hsm:Yo b.cards){s:St}(hs:StLe 2000000 s)(hm:mayR (bkR b).1 b s true=true){f F F2:FuncId}{kd:Int}(hg:GQ f 5 (gT kd F)){gF:GFun}(hgF:GQ F 1 gF)(hF:∀x τ (K:AVal→List ABlk→Prop),K (.func (.func F2) [x] []) τ→gF VV [x] τ K)(h2p:Yk prog F2=true)(n:Int)(v:Int×Int)(hc:PC F2 [.rptr (.rptr (bkC b) 0::stC s) 0,.nilp,iv s.s0.life,iv (cap4 n)] (.tup [iv v.1,iv v.2])):PC f [bkV b,stV s,iv 0,iv 0,iv n] (resV (chgP s kd 0 v)):=by
 have hr:chgP s kd 0 v=(if wIn v.1 then (s.put 0 { s.s0 with life:=v.1 },⟨kd,0,0,0,0,v.2,[]⟩,0) else (zSt,zEv,171)):=rfl;refine Zq hP hg rfl ?_;unfold gT;refine Xd (v:=.bptr 0 0) (rd:=[]) (up:=[(0,.box (bkC b))]) rfl rfl ?_;refine Xd (v:=.bptr 1 0) (rd:=[]) (up:=[(1,.box (stC s))]) rfl rfl ?_;refine Xd (v:=.bptr 2 0) (rd:=[]) (up:=[(2,.box zStC)]) rfl rfl ?_;refine Xd (v:=.bptr 3 0) (rd:=[]) (up:=[(3,.box zEvC)]) rfl rfl ?_;refine Zs hP rfl g64_ok rfl ?_;unfold g64;refine Xd (v:=.bptr 4 0) (rd:=[]) (up:=[(4,.box zStC)]) rfl rfl ?_;refine Xd (v:=.bptr 5 0) (rd:=[]) (up:=[(5,.box zEvC)]) rfl rfl ?_;refine c56n b hf hsm s (hs.mono (by decide)) (n0:=6) (n:=17) rfl rfl rfl rfl (λh=>by rw[hm] at h; cases h) (λ_=>?_);refine Za rfl (Xg (Za (XaG ..) (Za (YS ..) (Za (ZU ..) ?_))));refine Qh λk11 hk11=>?_;refine Xg ?_;rw[hk11];refine Za rfl ?_;refine ZN (c:=false) (d:=false) (λ_=>rfl) (λ_=>rfl) ?_;refine Xg (Za rfl (Za rfl (Za rfl (Za rfl ?_))));refine YH hP (ys:=[.bptr 17 0]) (zs:=[.bptr 17 0]) rfl hgF rfl [] [17] (v:=.func (.func F2) [.bptr 17 0] []) (m:=0) (σ:=((sg6 b s).append [.box (mv6 s)])) (τ:=dd18) (τ':=dd18) (by decide) (show ∀b∈[17],b<18 by decide) rfl rfl ?_ rfl (u:=.func (.func F2) [.bptr 17 0] []) (up:=[]) (σ':=((sg6 b s).append [.box (mv6 s)])) rfl rfl rfl ?_
 ·exact hF _ _ _ ⟨rfl,rfl⟩
 refine Qg rfl (Qg rfl (Yh (ld (row:=(mv6 s)) rfl rfl) (Qj _) ?_));refine X5 (rd:=[0,6,7,8,9,10,11,12,13,14,15,16,17]) (hc) rfl h2p (.cons (Bor.box (row:=(mv6 s)) rfl (by decide) (.cons (Bor.box (row:=bkC b) rfl (by decide) (BorL.ro rfl)) ?_)) <| .cons (Bor.ro rfl) <| .cons (Bor.ro rfl) <| .cons (Bor.ro rfl) .nil) rfl ?_
 ·exact SB.mk (s:=s) (RI.own rfl (by decide) rfl) (RI.own rfl (by decide) rfl) (RI.own rfl (by decide) rfl) (RI.own rfl (by decide) rfl) (RT.own rfl (by decide) rfl) (RI.own rfl (by decide) rfl) (RI.own rfl (by decide) rfl) (RI.own rfl (by decide) rfl) (RI.own rfl (by decide) rfl) (RT.own rfl (by decide) rfl) (RI.own rfl (by decide) rfl)
 refine Qg rfl (Qg rfl (QB (by kernel_rfl) ?_));refine Xc (c57 _) rfl g57_ok.plain rfl (Za rfl (Qb (λh2=>?_) (λh2=>?_)))
 ·have h3:wIn v.1=false:=by simpa using h2
  replace hr:=hr.trans (if_neg (by rw[h3]; decide))
  refine Za rfl (Za rfl (Xd rfl rfl (Xd rfl rfl (Yi rfl (Yi rfl ?_)))));refine Za rfl (Za rfl (Za rfl (Xd rfl rfl (Xd rfl rfl (Yi rfl (Yi rfl ?_))))));rw[hr];exact⟨[],resZ 171⟩
 have h3:wIn v.1=true:=by simpa using h2
 replace hr:=hr.trans (if_pos h3)
 refine Za rfl ?_;refine Qh λk63 hk63=>?_;refine Xg (Za rfl (Za rfl (Xd (v:=.junk) (rd:=[]) (up:=[(17,.box ((mv6 s).set 8 (iv v.1)))]) rfl rfl ?_)));rw[hk63];refine Za rfl (Za rfl (Za (ld (row:=((mv6 s).set 8 (iv v.1))) rfl rfl) (Za rfl ?_)));refine Xd (v:=.junk) (rd:=[]) (up:=[(4,.box ((st6 s).set 7 (iv v.1)))]) rfl rfl ?_;refine Xd (v:=.junk) (rd:=[]) (up:=[(5,.box [iv8 kd,iv 0,iv 0,iv 0,iv 0,iv v.2,.nils])]) rfl rfl (Yi rfl (Yi rfl ?_));refine Za rfl (Za rfl (Za rfl ?_));refine Xd (v:=.junk) (rd:=[]) (up:=[(2,.box ((st6 s).set 7 (iv v.1)))]) rfl rfl ?_;refine Xd (v:=.junk) (rd:=[]) (up:=[(3,.box [iv8 kd,iv 0,iv 0,iv 0,iv 0,iv v.2,.nils])]) rfl rfl (Yi rfl (Yi rfl ?_));rw[hr];refine⟨List.range 18,?_⟩;refine resB (cs:=((st6 s).set 7 (iv v.1))) (r:=({ s with s0:={ s.s0 with life:=v.1 } },⟨kd,0,0,0,0,v.2,[]⟩,0)) ?_ (evB (e:=⟨kd,0,0,0,0,v.2,[]⟩) RI.nils);refine SB.mk (rd:=List.range 18) (s:={ s with s0:={ s.s0 with life:=v.1 } }) ?_ ?_ ?_ ?_ ?_ ?_ ?_ ?_ ?_ ?_ ?_<;>first|exact RI.own rfl (by decide) rfl|exact RT.own rfl (by decide) rfl
theorem cTp_1{b:Bk}(hf:bkFit b=true)(hsm:Yo b.cards){s:St}(hs:StLe 2000000 s)(hm:mayR (bkR b).1 b s true=true){f F F2:FuncId}{kd:Int}(hg:GQ f 5 (gT kd F)){gF:GFun}(hgF:GQ F 1 gF)(hF:∀x τ (K:AVal→List ABlk→Prop),K (.func (.func F2) [x] []) τ→gF VV [x] τ K)(h2p:Yk prog F2=true)(n:Int)(v:Int×Int)(hc:PC F2 [.rptr (.rptr (bkC b) 0::stC s) 0,.nilp,iv s.s1.life,iv (cap4 n)] (.tup [iv v.1,iv v.2])):PC f [bkV b,stV s,iv 0,iv 1,iv n] (resV (chgP s kd 1 v)):=by
 have hr:chgP s kd 1 v=(if wIn v.1 then (s.put 1 { s.s1 with life:=v.1 },⟨kd,1,0,0,0,v.2,[]⟩,0) else (zSt,zEv,171)):=rfl;refine Zq hP hg rfl ?_;unfold gT;refine Xd (v:=.bptr 0 0) (rd:=[]) (up:=[(0,.box (bkC b))]) rfl rfl ?_;refine Xd (v:=.bptr 1 0) (rd:=[]) (up:=[(1,.box (stC s))]) rfl rfl ?_;refine Xd (v:=.bptr 2 0) (rd:=[]) (up:=[(2,.box zStC)]) rfl rfl ?_;refine Xd (v:=.bptr 3 0) (rd:=[]) (up:=[(3,.box zEvC)]) rfl rfl ?_;refine Zs hP rfl g64_ok rfl ?_;unfold g64;refine Xd (v:=.bptr 4 0) (rd:=[]) (up:=[(4,.box zStC)]) rfl rfl ?_;refine Xd (v:=.bptr 5 0) (rd:=[]) (up:=[(5,.box zEvC)]) rfl rfl ?_;refine c56n b hf hsm s (hs.mono (by decide)) (n0:=6) (n:=17) rfl rfl rfl rfl (λh=>by rw[hm] at h; cases h) (λ_=>?_);refine Za rfl (Xg (Za (XaG ..) (Za (YS ..) (Za (ZU ..) ?_))));refine Qh λk11 hk11=>?_;refine Xg ?_;rw[hk11];refine Za rfl ?_;refine ZN (c:=false) (d:=false) (λ_=>rfl) (λ_=>rfl) ?_;refine Xg (Za rfl (Za rfl (Za rfl (Za rfl ?_))));refine YH hP (ys:=[.bptr 17 0]) (zs:=[.bptr 17 0]) rfl hgF rfl [] [17] (v:=.func (.func F2) [.bptr 17 0] []) (m:=0) (σ:=((sg6 b s).append [.box (mv6 s)])) (τ:=dd18) (τ':=dd18) (by decide) (show ∀b∈[17],b<18 by decide) rfl rfl ?_ rfl (u:=.func (.func F2) [.bptr 17 0] []) (up:=[]) (σ':=((sg6 b s).append [.box (mv6 s)])) rfl rfl rfl ?_
 ·exact hF _ _ _ ⟨rfl,rfl⟩
 refine Qg rfl (Qg rfl (Yh (ld (row:=(mv6 s)) rfl rfl) (Qj _) ?_));refine X5 (rd:=[0,6,7,8,9,10,11,12,13,14,15,16,17]) (hc) rfl h2p (.cons (Bor.box (row:=(mv6 s)) rfl (by decide) (.cons (Bor.box (row:=bkC b) rfl (by decide) (BorL.ro rfl)) ?_)) <| .cons (Bor.ro rfl) <| .cons (Bor.ro rfl) <| .cons (Bor.ro rfl) .nil) rfl ?_
 ·exact SB.mk (s:=s) (RI.own rfl (by decide) rfl) (RI.own rfl (by decide) rfl) (RI.own rfl (by decide) rfl) (RI.own rfl (by decide) rfl) (RT.own rfl (by decide) rfl) (RI.own rfl (by decide) rfl) (RI.own rfl (by decide) rfl) (RI.own rfl (by decide) rfl) (RI.own rfl (by decide) rfl) (RT.own rfl (by decide) rfl) (RI.own rfl (by decide) rfl)
 refine Qg rfl (Qg rfl (QB (by kernel_rfl) ?_));refine Xc (c57 _) rfl g57_ok.plain rfl (Za rfl (Qb (λh2=>?_) (λh2=>?_)))
 ·have h3:wIn v.1=false:=by simpa using h2
  replace hr:=hr.trans (if_neg (by rw[h3]; decide))
  refine Za rfl (Za rfl (Xd rfl rfl (Xd rfl rfl (Yi rfl (Yi rfl ?_)))));refine Za rfl (Za rfl (Za rfl (Xd rfl rfl (Xd rfl rfl (Yi rfl (Yi rfl ?_))))));rw[hr];exact⟨[],resZ 171⟩
 have h3:wIn v.1=true:=by simpa using h2
 replace hr:=hr.trans (if_pos h3)
 refine Za rfl ?_;refine Qh λk63 hk63=>?_;refine Xg (Za rfl (Za rfl (Xd (v:=.junk) (rd:=[]) (up:=[(17,.box ((mv6 s).set 16 (iv v.1)))]) rfl rfl ?_)));rw[hk63];refine Za rfl (Za rfl (Za (ld (row:=((mv6 s).set 16 (iv v.1))) rfl rfl) (Za rfl ?_)));refine Xd (v:=.junk) (rd:=[]) (up:=[(4,.box ((st6 s).set 15 (iv v.1)))]) rfl rfl ?_;refine Xd (v:=.junk) (rd:=[]) (up:=[(5,.box [iv8 kd,iv 1,iv 0,iv 0,iv 0,iv v.2,.nils])]) rfl rfl (Yi rfl (Yi rfl ?_));refine Za rfl (Za rfl (Za rfl ?_));refine Xd (v:=.junk) (rd:=[]) (up:=[(2,.box ((st6 s).set 15 (iv v.1)))]) rfl rfl ?_;refine Xd (v:=.junk) (rd:=[]) (up:=[(3,.box [iv8 kd,iv 1,iv 0,iv 0,iv 0,iv v.2,.nils])]) rfl rfl (Yi rfl (Yi rfl ?_));rw[hr];refine⟨List.range 18,?_⟩;refine resB (cs:=((st6 s).set 15 (iv v.1))) (r:=({ s with s1:={ s.s1 with life:=v.1 } },⟨kd,1,0,0,0,v.2,[]⟩,0)) ?_ (evB (e:=⟨kd,1,0,0,0,v.2,[]⟩) RI.nils);refine SB.mk (rd:=List.range 18) (s:={ s with s1:={ s.s1 with life:=v.1 } }) ?_ ?_ ?_ ?_ ?_ ?_ ?_ ?_ ?_ ?_ ?_<;>first|exact RI.own rfl (by decide) rfl|exact RT.own rfl (by decide) rfl
theorem ZcL{b:Bk}(hf:bkFit b=true)(hsm:Yo b.cards){s:St}(hs:StLe 2000000 s)(hm:mayR (bkR b).1 b s true=true){f F F2:FuncId}{kd:Int}(hg:GQ f 5 (gT kd F)){gF:GFun}(hgF:GQ F 1 gF)(hF:∀x τ (K:AVal→List ABlk→Prop),K (.func (.func F2) [x] []) τ→gF VV [x] τ K)(h2p:Yk prog F2=true)(id sd n:Int)(hid:id≠0)(hid2:¬id<0)(k:Nat)(hfn:unitV s id=.tup [iv 0,iv k,.bool true])(u:Th)(hk:s.s0.units[k]?=some u)(v:Int×Int)(hc:PC F2 [.rptr (.rptr (bkC b) 0::stC s) 0,.rptr (thC u) 0,iv s.s0.life,iv (cap4 n)] (.tup [iv v.1,iv v.2])):PC f [bkV b,stV s,iv id,iv sd,iv n] (resV (chgU s kd 0 k id u v)):=by
 have h71:=c71 s (hs.mono (by decide)) id;rw[hfn] at h71;have hkl:k<s.s0.units.length:=(YLG hk).1;have hr:chgU s kd 0 k id u v=(if wIn v.1 then (s.put 0 { s.s0 with units:=s.s0.units.set k { u with harm:=v.1 } },⟨kd,0,0,id,0,v.2,[]⟩,0) else (zSt,zEv,171)):=rfl;refine Zq hP hg rfl ?_;unfold gT;refine Xd (v:=.bptr 0 0) (rd:=[]) (up:=[(0,.box (bkC b))]) rfl rfl ?_;refine Xd (v:=.bptr 1 0) (rd:=[]) (up:=[(1,.box (stC s))]) rfl rfl ?_;refine Xd (v:=.bptr 2 0) (rd:=[]) (up:=[(2,.box zStC)]) rfl rfl ?_;refine Xd (v:=.bptr 3 0) (rd:=[]) (up:=[(3,.box zEvC)]) rfl rfl ?_;refine Zs hP rfl g64_ok rfl ?_;unfold g64;refine Xd (v:=.bptr 4 0) (rd:=[]) (up:=[(4,.box zStC)]) rfl rfl ?_;refine Xd (v:=.bptr 5 0) (rd:=[]) (up:=[(5,.box zEvC)]) rfl rfl ?_;refine c56n b hf hsm s (hs.mono (by decide)) (n0:=6) (n:=17) rfl rfl rfl rfl (λh=>by rw[hm] at h; cases h) (λ_=>?_);refine Za rfl (Xg (Za (XaG ..) (Za (YS ..) (Za (ZU ..) ?_))));refine Qh λk11 hk11=>?_;rw[decide_eq_true hid];refine Qd (Za rfl (Za (ld (row:=stC s) rfl rfl) ?_));refine Xc h71 rfl g71_ok.plain rfl (Za rfl (Za rfl (Za rfl (Za rfl ?_))));refine ZN (c:=false) (λ_=>rfl) (λ_=>ZJ ..) ?_;rw[decide_eq_false hid2];refine Xg (Za rfl (Za rfl (Za rfl (Za rfl (Za rfl (Za (ld (row:=(mv6 s)) rfl rfl) ?_))))));refine Za (v:=.ptr 10 k 0) (rd:=[10]) ?_ ?_
 ·have:=Yay (((sg6 b s).append [.box (mv6 s)])) 10 0 s.s0.units.length false 4 (s.s0.units.map thC) .i64 k hkl rfl;rw[Nat.zero_add] at this; exact this
 rw[hk11];refine Za rfl ?_;refine ZN (c:=false) (d:=false) (λ_=>rfl) (λ_=>rfl) ?_;refine Xg (Za rfl (Za rfl (Za rfl (Za rfl ?_))));refine YH hP (ys:=[.bptr 17 0]) (zs:=[.bptr 17 0]) rfl hgF rfl [] [17] (v:=.func (.func F2) [.bptr 17 0] []) (m:=0) (σ:=((sg6 b s).append [.box (mv6 s)])) (τ:=dd18) (τ':=dd18) (by decide) (show ∀b∈[17],b<18 by decide) rfl rfl ?_ rfl (u:=.func (.func F2) [.bptr 17 0] []) (up:=[]) (σ':=((sg6 b s).append [.box (mv6 s)])) rfl rfl rfl ?_
 ·exact hF _ _ _ ⟨rfl,rfl⟩
 refine Qg rfl (Qg rfl (Yh (ld (row:=(mv6 s)) rfl rfl) (Qj _) ?_));refine X5 (rd:=[0,6,7,8,9,10,11,12,13,14,15,16,17]) (hc) rfl h2p (.cons (Bor.box (row:=(mv6 s)) rfl (by decide) (.cons (Bor.box (row:=bkC b) rfl (by decide) (BorL.ro rfl)) ?_)) <| .cons (Bor.ptr (rs:=s.s0.units.map thC) (row:=thC u) rfl (by decide) (by rw[List.getElem?_map,hk]; rfl) (BorL.ro rfl)) <| .cons (Bor.ro rfl) <| .cons (Bor.ro rfl) .nil) rfl ?_
 ·exact SB.mk (s:=s) (RI.own rfl (by decide) rfl) (RI.own rfl (by decide) rfl) (RI.own rfl (by decide) rfl) (RI.own rfl (by decide) rfl) (RT.own rfl (by decide) rfl) (RI.own rfl (by decide) rfl) (RI.own rfl (by decide) rfl) (RI.own rfl (by decide) rfl) (RI.own rfl (by decide) rfl) (RT.own rfl (by decide) rfl) (RI.own rfl (by decide) rfl)
 refine Qg rfl (Qg rfl (QB (by kernel_rfl) ?_));refine Xc (c57 _) rfl g57_ok.plain rfl (Za rfl (Qb (λh2=>?_) (λh2=>?_)))
 ·have h3:wIn v.1=false:=by simpa using h2
  replace hr:=hr.trans (if_neg (by rw[h3]; decide))
  refine Za rfl (Za rfl (Xd rfl rfl (Xd rfl rfl (Yi rfl (Yi rfl ?_)))));refine Za rfl (Za rfl (Za rfl (Xd rfl rfl (Xd rfl rfl (Yi rfl (Yi rfl ?_))))));rw[hr];exact⟨[],resZ 171⟩
 have h3:wIn v.1=true:=by simpa using h2
 replace hr:=hr.trans (if_pos h3)
 refine Za rfl ?_;refine Qh λk63 hk63=>?_;refine Qd (Za rfl (Za rfl (Xd (v:=.junk) (rd:=[]) (up:=[(10,.rows 4 ((s.s0.units.set k { u with harm:=v.1 }).map thC))]) (Ybx rfl hk _) rfl ?_)));rw[hk63];refine Za rfl (Za rfl (Za (ld (row:=(mv6 s)) rfl rfl) (Za rfl ?_)));refine Xd (v:=.junk) (rd:=[]) (up:=[(4,.box (st6 s))]) rfl rfl ?_;refine Xd (v:=.junk) (rd:=[]) (up:=[(5,.box [iv8 kd,iv 0,iv 0,iv id,iv 0,iv v.2,.nils])]) rfl rfl (Yi rfl (Yi rfl ?_));refine Za rfl (Za rfl (Za rfl ?_));refine Xd (v:=.junk) (rd:=[]) (up:=[(2,.box (st6 s))]) rfl rfl ?_;refine Xd (v:=.junk) (rd:=[]) (up:=[(3,.box [iv8 kd,iv 0,iv 0,iv id,iv 0,iv v.2,.nils])]) rfl rfl (Yi rfl (Yi rfl ?_));rw[hr];refine⟨List.range 18,?_⟩;refine resB (cs:=(st6 s)) (r:=({ s with s0:={ s.s0 with units:=s.s0.units.set k { u with harm:=v.1 } } },⟨kd,0,0,id,0,v.2,[]⟩,0)) ?_ (evB (e:=⟨kd,0,0,id,0,v.2,[]⟩) RI.nils);refine SB.mk (rd:=List.range 18) (s:={ s with s0:={ s.s0 with units:=s.s0.units.set k { u with harm:=v.1 } } }) ?_ ?_ ?_ ?_ ?_ ?_ ?_ ?_ ?_ ?_ ?_<;>first|exact RI.own rfl (by decide) rfl|exact RT.own rfl (by decide) rfl|exact RT.own (l:=s.s0.units.set k { u with harm:=v.1 }) rfl (by decide) (by simp)
theorem YcL{b:Bk}(hf:bkFit b=true)(hsm:Yo b.cards){s:St}(hs:StLe 2000000 s)(hm:mayR (bkR b).1 b s true=true){f F F2:FuncId}{kd:Int}(hg:GQ f 5 (gT kd F)){gF:GFun}(hgF:GQ F 1 gF)(hF:∀x τ (K:AVal→List ABlk→Prop),K (.func (.func F2) [x] []) τ→gF VV [x] τ K)(h2p:Yk prog F2=true)(id sd n:Int)(hid:id≠0)(hid2:¬id<0)(k:Nat)(hfn:unitV s id=.tup [iv 1,iv k,.bool true])(u:Th)(hk:s.s1.units[k]?=some u)(v:Int×Int)(hc:PC F2 [.rptr (.rptr (bkC b) 0::stC s) 0,.rptr (thC u) 0,iv s.s1.life,iv (cap4 n)] (.tup [iv v.1,iv v.2])):PC f [bkV b,stV s,iv id,iv sd,iv n] (resV (chgU s kd 1 k id u v)):=by
 have h71:=c71 s (hs.mono (by decide)) id;rw[hfn] at h71;have hkl:k<s.s1.units.length:=(YLG hk).1;have hr:chgU s kd 1 k id u v=(if wIn v.1 then (s.put 1 { s.s1 with units:=s.s1.units.set k { u with harm:=v.1 } },⟨kd,1,0,id,0,v.2,[]⟩,0) else (zSt,zEv,171)):=rfl;refine Zq hP hg rfl ?_;unfold gT;refine Xd (v:=.bptr 0 0) (rd:=[]) (up:=[(0,.box (bkC b))]) rfl rfl ?_;refine Xd (v:=.bptr 1 0) (rd:=[]) (up:=[(1,.box (stC s))]) rfl rfl ?_;refine Xd (v:=.bptr 2 0) (rd:=[]) (up:=[(2,.box zStC)]) rfl rfl ?_;refine Xd (v:=.bptr 3 0) (rd:=[]) (up:=[(3,.box zEvC)]) rfl rfl ?_;refine Zs hP rfl g64_ok rfl ?_;unfold g64;refine Xd (v:=.bptr 4 0) (rd:=[]) (up:=[(4,.box zStC)]) rfl rfl ?_;refine Xd (v:=.bptr 5 0) (rd:=[]) (up:=[(5,.box zEvC)]) rfl rfl ?_;refine c56n b hf hsm s (hs.mono (by decide)) (n0:=6) (n:=17) rfl rfl rfl rfl (λh=>by rw[hm] at h; cases h) (λ_=>?_);refine Za rfl (Xg (Za (XaG ..) (Za (YS ..) (Za (ZU ..) ?_))));refine Qh λk11 hk11=>?_;rw[decide_eq_true hid];refine Qd (Za rfl (Za (ld (row:=stC s) rfl rfl) ?_));refine Xc h71 rfl g71_ok.plain rfl (Za rfl (Za rfl (Za rfl (Za rfl ?_))));refine ZN (c:=false) (λ_=>rfl) (λ_=>ZJ ..) ?_;rw[decide_eq_false hid2];refine Xg (Za rfl (Za rfl (Za rfl (Za rfl (Za rfl (Za (ld (row:=(mv6 s)) rfl rfl) ?_))))));refine Za (v:=.ptr 15 k 0) (rd:=[15]) ?_ ?_
 ·have:=Yay (((sg6 b s).append [.box (mv6 s)])) 15 0 s.s1.units.length false 4 (s.s1.units.map thC) .i64 k hkl rfl;rw[Nat.zero_add] at this; exact this
 rw[hk11];refine Za rfl ?_;refine ZN (c:=false) (d:=false) (λ_=>rfl) (λ_=>rfl) ?_;refine Xg (Za rfl (Za rfl (Za rfl (Za rfl ?_))));refine YH hP (ys:=[.bptr 17 0]) (zs:=[.bptr 17 0]) rfl hgF rfl [] [17] (v:=.func (.func F2) [.bptr 17 0] []) (m:=0) (σ:=((sg6 b s).append [.box (mv6 s)])) (τ:=dd18) (τ':=dd18) (by decide) (show ∀b∈[17],b<18 by decide) rfl rfl ?_ rfl (u:=.func (.func F2) [.bptr 17 0] []) (up:=[]) (σ':=((sg6 b s).append [.box (mv6 s)])) rfl rfl rfl ?_
 ·exact hF _ _ _ ⟨rfl,rfl⟩
 refine Qg rfl (Qg rfl (Yh (ld (row:=(mv6 s)) rfl rfl) (Qj _) ?_));refine X5 (rd:=[0,6,7,8,9,10,11,12,13,14,15,16,17]) (hc) rfl h2p (.cons (Bor.box (row:=(mv6 s)) rfl (by decide) (.cons (Bor.box (row:=bkC b) rfl (by decide) (BorL.ro rfl)) ?_)) <| .cons (Bor.ptr (rs:=s.s1.units.map thC) (row:=thC u) rfl (by decide) (by rw[List.getElem?_map,hk]; rfl) (BorL.ro rfl)) <| .cons (Bor.ro rfl) <| .cons (Bor.ro rfl) .nil) rfl ?_
 ·exact SB.mk (s:=s) (RI.own rfl (by decide) rfl) (RI.own rfl (by decide) rfl) (RI.own rfl (by decide) rfl) (RI.own rfl (by decide) rfl) (RT.own rfl (by decide) rfl) (RI.own rfl (by decide) rfl) (RI.own rfl (by decide) rfl) (RI.own rfl (by decide) rfl) (RI.own rfl (by decide) rfl) (RT.own rfl (by decide) rfl) (RI.own rfl (by decide) rfl)
 refine Qg rfl (Qg rfl (QB (by kernel_rfl) ?_));refine Xc (c57 _) rfl g57_ok.plain rfl (Za rfl (Qb (λh2=>?_) (λh2=>?_)))
 ·have h3:wIn v.1=false:=by simpa using h2
  replace hr:=hr.trans (if_neg (by rw[h3]; decide))
  refine Za rfl (Za rfl (Xd rfl rfl (Xd rfl rfl (Yi rfl (Yi rfl ?_)))));refine Za rfl (Za rfl (Za rfl (Xd rfl rfl (Xd rfl rfl (Yi rfl (Yi rfl ?_))))));rw[hr];exact⟨[],resZ 171⟩
 have h3:wIn v.1=true:=by simpa using h2
 replace hr:=hr.trans (if_pos h3)
 refine Za rfl ?_;refine Qh λk63 hk63=>?_;refine Qd (Za rfl (Za rfl (Xd (v:=.junk) (rd:=[]) (up:=[(15,.rows 4 ((s.s1.units.set k { u with harm:=v.1 }).map thC))]) (Ybx rfl hk _) rfl ?_)));rw[hk63];refine Za rfl (Za rfl (Za (ld (row:=(mv6 s)) rfl rfl) (Za rfl ?_)));refine Xd (v:=.junk) (rd:=[]) (up:=[(4,.box (st6 s))]) rfl rfl ?_;refine Xd (v:=.junk) (rd:=[]) (up:=[(5,.box [iv8 kd,iv 1,iv 0,iv id,iv 0,iv v.2,.nils])]) rfl rfl (Yi rfl (Yi rfl ?_));refine Za rfl (Za rfl (Za rfl ?_));refine Xd (v:=.junk) (rd:=[]) (up:=[(2,.box (st6 s))]) rfl rfl ?_;refine Xd (v:=.junk) (rd:=[]) (up:=[(3,.box [iv8 kd,iv 1,iv 0,iv id,iv 0,iv v.2,.nils])]) rfl rfl (Yi rfl (Yi rfl ?_));rw[hr];refine⟨List.range 18,?_⟩;refine resB (cs:=(st6 s)) (r:=({ s with s1:={ s.s1 with units:=s.s1.units.set k { u with harm:=v.1 } } },⟨kd,1,0,id,0,v.2,[]⟩,0)) ?_ (evB (e:=⟨kd,1,0,id,0,v.2,[]⟩) RI.nils);refine SB.mk (rd:=List.range 18) (s:={ s with s1:={ s.s1 with units:=s.s1.units.set k { u with harm:=v.1 } } }) ?_ ?_ ?_ ?_ ?_ ?_ ?_ ?_ ?_ ?_ ?_<;>first|exact RI.own rfl (by decide) rfl|exact RT.own rfl (by decide) rfl|exact RT.own (l:=s.s1.units.set k { u with harm:=v.1 }) rfl (by decide) (by simp)
theorem cTn{b:Bk}(hf:bkFit b=true)(hsm:Yo b.cards){s:St}(hs:StLe 2000000 s)(hm:mayR (bkR b).1 b s true=true){f F F2:FuncId}{kd:Int}(hg:GQ f 5 (gT kd F)){gF:GFun}(hgF:GQ F 1 gF)(hF:∀x τ (K:AVal→List ABlk→Prop),K (.func (.func F2) [x] []) τ→gF VV [x] τ K)(h2p:Yk prog F2=true)(id sd n:Int)(hid:id≠0)(v:AVal)(w:AVal)(x:Bool)(hfn:unitV s id=.tup [v,w,.bool x])(hx:id<0∨x=false):PC f [bkV b,stV s,iv id,iv sd,iv n] (resV (zSt,zEv,4)):=by
 have h71:=c71 s (hs.mono (by decide)) id;rw[hfn] at h71;have hfl:roL [.tup [v,w,.bool x]]=true:=by rw[←hfn]; rfl
 refine Zq hP hg rfl ?_;unfold gT;refine Xd (v:=.bptr 0 0) (rd:=[]) (up:=[(0,.box (bkC b))]) rfl rfl ?_;refine Xd (v:=.bptr 1 0) (rd:=[]) (up:=[(1,.box (stC s))]) rfl rfl ?_;refine Xd (v:=.bptr 2 0) (rd:=[]) (up:=[(2,.box zStC)]) rfl rfl ?_;refine Xd (v:=.bptr 3 0) (rd:=[]) (up:=[(3,.box zEvC)]) rfl rfl ?_;refine Zs hP rfl g64_ok rfl ?_;unfold g64;refine Xd (v:=.bptr 4 0) (rd:=[]) (up:=[(4,.box zStC)]) rfl rfl ?_;refine Xd (v:=.bptr 5 0) (rd:=[]) (up:=[(5,.box zEvC)]) rfl rfl ?_;refine c56n b hf hsm s (hs.mono (by decide)) (n0:=6) (n:=17) rfl rfl rfl rfl (λh=>by rw[hm] at h; cases h) (λ_=>?_);refine Za rfl (Xg (Za (XaG ..) (Za (YS ..) (Za (ZU ..) ?_))));refine Qh λk11 hk11=>?_;rw[decide_eq_true hid];refine Qd (Za rfl (Za (ld (row:=stC s) rfl rfl) ?_));refine Xc h71 rfl g71_ok.plain rfl (Za rfl (Za rfl (Za rfl (Za rfl ?_))));refine ZN (c:=!x) (λ_=>rfl) (λ_=>ZJ ..) ?_;rw[show (!x||decide (id<0))=true by rcases hx with h|h<;>simp[h]];refine Qd ?_;refine Za rfl (Za rfl (Xd rfl rfl (Xd rfl rfl (Yi rfl (Yi rfl ?_)))));refine Za rfl (Za rfl (Za rfl (Xd rfl rfl (Xd rfl rfl (Yi rfl (Yi rfl ?_))))));exact⟨[],resZ 4⟩
theorem cT{b:Bk}(hf:bkFit b=true)(hsm:Yo b.cards){s:St}(hs:StLe 2000000 s)(hm:mayR (bkR b).1 b s true=true){f F F2:FuncId}{kd:Int}(hg:GQ f 5 (gT kd F)){gF:GFun}(hgF:GQ F 1 gF)(hF:∀x τ (K:AVal→List ABlk→Prop),K (.func (.func F2) [x] []) τ→gF VV [x] τ K)(h2p:Yk prog F2=true)(id sd n:Int)(h0:sd=0∨sd=1){fP:Int→Int×Int}{fU:Th→Int×Int}(hcP:∀m life,PC F2 [.rptr m 0,.nilp,iv life,iv (cap4 n)] (.tup [iv (fP life).1,iv (fP life).2]))(hcU:∀m u life,0≤u.card→u.card.toNat<b.cards.length→PC F2 [.rptr (.rptr (bkC b) 0::m) 0,.rptr (thC u) 0,iv life,iv (cap4 n)] (.tup [iv (fU u).1,iv (fU u).2])) :
  PC f [bkV b,stV s,iv id,iv sd,iv n] (resV (chgF kd fP fU s id sd)):=by
 unfold chgF;by_cases hid:id=0
 ·rw[if_pos hid]; subst hid;rcases h0 with rfl|rfl
  ·exact cTp_0 hf hsm hs hm hg hgF hF h2p n _ (hcP _ _)
  ·exact cTp_1 hf hsm hs hm hg hgF hF h2p n _ (hcP _ _)
 rw[if_neg hid];by_cases hid2:id<0
 ·rw[if_pos hid2];exact cTn hf hsm hs hm hg hgF hF h2p id sd n hid _ _ _ rfl (.inl hid2)
 rw[if_neg hid2];cases q0:fnd s.s0.units id with
 |some k=>
  obtain⟨u,hk,_⟩:=X4 q0;have hca:=Yal hm u (List.mem_of_getElem? hk);simp only[hk,Option.getD_some];exact ZcL hf hsm hs hm hg hgF hF h2p id sd n hid hid2 k (by simp[unitV,unitR,q0]) u hk _ (hcU _ _ _ hca.1 hca.2)
 |none=>
  cases q1:fnd s.s1.units id with
  |some k=>
   obtain⟨u,hk,_⟩:=X4 q1;have hca:=Xal hm u (List.mem_of_getElem? hk);simp only[hk,Option.getD_some];exact YcL hf hsm hs hm hg hgF hF h2p id sd n hid hid2 k (by simp[unitV,unitR,q0,q1]) u hk _ (hcU _ _ _ hca.1 hca.2)
  |none=>exact cTn hf hsm hs hm hg hgF hF h2p id sd n hid _ _ _ rfl (.inr (by simp[unitR,q0,q1]))
theorem w65(x:AVal)(τ:List ABlk)(K:AVal→List ABlk→Prop)(h:K (.func (.func 66) [x] []) τ):g65 VV [x] τ K:=by
 unfold g65;exact Za rfl h
theorem c22(b:Bk)(hf:bkFit b=true)(hsm:Yo b.cards)(s:St)(hs:StLe 2000000 s)(hm:mayR (bkR b).1 b s true=true)(id sd n:Int)(h0:sd=0∨sd=1):PC 22 [bkV b,stV s,iv id,iv sd,iv n] (resV (harmF b s id sd n)):=
 cT hf hsm hs hm (show GQ 22 5 (gT 5 65) from g22_ok) g65_ok w65 g66_ok.plain id sd n h0 (λm life=>c66n m life _) (λm u life h1 h2=>c66u b m u life _ h1 h2)
end Go.Ah.Tz
end
section
namespace Go.Ah.Tz
open Go.Proofs.Tryz (prog)
attribute [local irreducible] Ans.rd Ans.pu Ans.wr Ans.dr Ans.gr Ans.gw Ans.gl Ans.gd Ans.opt joinK W
set_option maxHeartbeats 4000000
theorem c52(cs:List Cd)(hf:ZO cs=true)(σ:List ABlk)(K:AVal→List ABlk→Prop)(hK:∀q,K (.bool q) σ):g52 VV [cdV cs] σ K:=by
 simp only[ZO,Bool.and_eq_true,decide_eq_true_eq] at hf;obtain⟨f0,f1⟩:=hf;rw[bigE] at f0;have hlen:∀τ,Qf [cdV cs] τ=.ok (iv cs.length) [] []:=λτ=>by simp[Yg]
 unfold g52;refine Za (hlen _) ?_;refine Yl (ι:=Nat) (λi vs τ=>(∃a:Int,vs=[iv i,iv a])∧τ=σ∧i≤cs.length) (λi=>cs.length-i) 0 ⟨⟨0,rfl⟩,rfl,by omega⟩ ?_;rintro i vs τ again ⟨⟨a,rfl⟩,rfl,hi⟩ hag;refine Za rfl (Qb (λh=>?_) (λh=>?_))
 ·have h:i<cs.length:=by simpa using h
  have hfc:cdFit cs[i]=true:=List.all_eq_true.1 f1 _ (List.getElem_mem h);have hix:=Xq τ cdC false false 12 cs .i64 i h;generalize cs[i]=c at hfc hix;simp only[cdFit,Bool.and_eq_true] at hfc;refine Za hix (Za (ldr (cdLd _)) ?_);refine Xc (c110 c hfc.2.1 hfc.2.2.1 hfc.2.2.2) rfl g110_ok.plain rfl (Za (Xi ..) (Za (XX ..) ?_));refine YaN (λ_=>rfl) (λ_=>rfl) (λ_=>hix) (λ_=>rfl) (λ_=>ldr (cdLd0 _)) (λ_=>rfl) (λ_=>XX ..) ?_;have nxt:VV.rd (Zk .add false [iv i,(.int .i64 1)] τ) λt37_25=>again [t37_25,iv (IntKind.i64.wrap (a+(min (efsW 0 c.played+efsW 0 c.dead+efsW 0 c.dawn) 1073741824)))] τ:=by
   refine Za (Xi ..) ?_;rw[Qe (n:=i) (by omega)];exact hag (i+1) _ _ (by omega) ⟨⟨_,rfl⟩,rfl,by omega⟩
  generalize (_||_:Bool)=q;cases q with
  |true=>
   refine Yb rfl (Yb rfl (Yb rfl ?_));refine Yc rfl (Yc rfl (Yc rfl (Yb rfl (Za rfl ?_))));exact Qd (hK _)
  |false=>
   refine Xa (Za rfl (Xa (Za (XX ..) (Xa (Za rfl ?_)))));generalize decide ((60:Int)<(i:Int))=q2;cases q2 with
   |true=>
    refine Xa (Za rfl (Xa (Za (hlen _) (Xa (Za (Qcm ..) (Xa (Za rfl (Za rfl ?_))))))));exact Qb (λ_=>hK _) (λ_=>nxt)
   |false=>
    refine Yb rfl (Yb rfl (Yb rfl (Xa (Za rfl (Za rfl ?_)))));exact Xg nxt
 ·refine Za (hlen _) (Za (XX ..) ?_);exact hK _
theorem c14(b:Bk)(hf:bkFit b=true)(σ:List ABlk)(K:AVal→List ABlk→Prop)(hK:∀q,K (.bool q) (σ++[.box (bkC b)])):g14 VV [bkV b] σ K:=by
 simp only[bkFit,Bool.and_eq_true,decide_eq_true_eq] at hf;obtain⟨f0,f1,f2⟩:=hf;rw[bigE] at f1;unfold g14;refine Xd (v:=.bptr σ.length 0) (rd:=[]) (up:=[(σ.length,.box (bkC b))]) rfl (ZL _ _) ?_;have hB:=Yj σ (.box (bkC b));generalize σ.length=n at hB ⊢;generalize σ++[ABlk.box (bkC b)]=τ at hB hK ⊢;refine Za rfl (Za (ld hB rfl) (Za (v:=iv b.formats.length) (rd:=[]) (by simp[Yg]) ?_));refine Yl (ι:=Nat) (λi vs τ'=>(∃a:Int,vs=[iv i,iv a])∧τ'=τ∧i≤b.formats.length) (λi=>b.formats.length-i) 0 ⟨⟨0,rfl⟩,rfl,by omega⟩ ?_;rintro i vs τ' again ⟨⟨a,rfl⟩,rfl,hi⟩ hag;refine Za rfl (Qb (λh=>?_) (λh=>?_))
 ·have h:i<b.formats.length:=by simpa using h
  have hix:=Xq τ' foC false false 7 b.formats .i64 i h;generalize b.formats[i]=f at hix;refine Za rfl (Za (ld hB rfl) (Za hix (Za rfl (Za (v:=txV f.banned) (rd:=[]) (ldr rfl) (Za (v:=iv f.banned.length) (rd:=[]) (by simp[Yg]) (Za (Xi ..) ?_))))));refine Za rfl (Za (ld hB rfl) (Za hix (Za rfl (Za (v:=txV f.single) (rd:=[]) (ldr rfl) (Za (v:=iv f.single.length) (rd:=[]) (by simp[Yg]) (Za (Xi ..) ?_))))));refine Za (Xi ..) (Za (Xi ..) ?_);rw[Qe (n:=i) (by omega)];exact hag (i+1) _ _ (by omega) ⟨⟨_,rfl⟩,rfl,by omega⟩
 ·refine Za (XX ..) ?_;generalize decide ((600:Int)<a)=q;cases q with
  |true=>
   refine Yb rfl (Yb rfl (Zc rfl (Za rfl ?_)));exact hK _
  |false=>
   refine Xa (Za rfl (Xa (Za (ld hB rfl) (Qa ?_))));refine Zs hP rfl g52_ok rfl (c52 b.cards f0 _ _ (λq=>Za rfl ?_));exact hK _
end Go.Ah.Tz
end
section
namespace Go.Ah.Tz
open Go.Proofs.Tryz (prog)
theorem Zcr{e:Int}{b:Bk}{s:St}(h:mayR e b s false=true):mayR e b s true=true:=by
 simp only[mayR,Bool.and_eq_true] at h ⊢;obtain⟨h1,h2,h3,h4,h5,h6,h7,h8,h9,h10,h11,h12,h13,h14⟩:=h;refine⟨h1,h2,h3,h4,h5,h6,h7,h8,h9,h10,h11,h12,h13,?_⟩;by_cases hp:s.phase≠1
 ·rw[if_pos hp] at h14 ⊢; exact h14
 ·rw[if_neg hp] at h14 ⊢;simp only[Bool.and_eq_true] at h14 ⊢;exact⟨by simp,h14.2⟩
theorem w19{s:St}(hs:StLe 1000000000 s){σ:List ABlk}{K:AVal→List ABlk→Prop}(hK:K (.agg (stO s σ.length)) (σ++stB s)):VV.call (.call 19) [stV s] σ K:=by
 refine ZaA (c19 s hs) rfl g19_ok.plain rfl ?_;rw[Ycf,Zcf]; exact hK
theorem XcG{s:St}(hs:StLe 1000000000 s){σ:List ABlk}{K:AVal→AVal→List ABlk→Prop}(hK:∀τ n,σ.length=n→τ.length=n+12→(∀c y,hget σ c=.box y→hget τ c=.box y)→hget τ (n+11)=.box (stO s n)→(∀i x,(stB s)[i]?=some x→hget τ (n+i)=x)→K (.bptr (n+11) 0) .junk τ) :
  VV.call (.call 19) [stV s] σ λv σ=>VV.wr (Xe zStC [] σ) σ λt σ=>VV.wr (Xb 23 [t,v] σ) σ (K t):=by
 refine w19 hs ?_;have hl:(σ++stB s).length=σ.length+11:=by simp[stB,sdB]
 refine Zw (row:=stO s σ.length) (row':=stO s σ.length) rfl rfl rfl ?_;have h11:=Yj (σ++stB s) (.box (stO s σ.length));rw[hl] at h11 ⊢;refine hK _ _ rfl (by simp[stB,sdB]) (λc y h=>Ym _ (Ym _ h (by simp)) (by simp)) h11 (λi x hx=>?_);have hi:i<11:=(YLG hx).1;exact YI (by rw[List.getElem?_append_left (by omega),List.getElem?_append_right (by omega)]; simpa using hx)
theorem c20s(a:St)(ha:StLe 1000000000 a):PC 20 [stV a,stV a] (.bool true):=by
 have:=c20 a a ha
 rwa [decide_eq_true rfl] at this
end Go.Ah.Tz
end
section
namespace Go.Ah.Tz
open Go.Proofs.Tryz (prog)
abbrev mv2(s:St):List AVal:=[.bptr 0 0,iv s.turn,iv s.mover,iv8 s.phase,.bool s.struck,iv8 s.result,.sl 2 0 s.attack.length false,iv s.next,iv s.s0.life,iv s.s0.mana,iv s.s0.most,.sl 3 0 s.s0.deck.length false,.sl 4 0 s.s0.hand.length false,.sl 5 0 s.s0.grave.length false,.sl 6 0 s.s0.units.length false,.sl 7 0 s.s0.told.length false,iv s.s1.life,iv s.s1.mana,iv s.s1.most,.sl 8 0 s.s1.deck.length false,.sl 9 0 s.s1.hand.length false,.sl 10 0 s.s1.grave.length false,.sl 11 0 s.s1.units.length false,.sl 12 0 s.s1.told.length false]
abbrev sg2(b:Bk)(s:St):List ABlk:=[.box (bkC b),.box (stC s),.rows 1 (s.attack.map cel),.rows 1 (s.s0.deck.map cel),.rows 1 (s.s0.hand.map cel),.rows 1 (s.s0.grave.map cel),.rows 4 (s.s0.units.map thC),.rows 1 (s.s0.told.map cel),.rows 1 (s.s1.deck.map cel),.rows 1 (s.s1.hand.map cel),.rows 1 (s.s1.grave.map cel),.rows 4 (s.s1.units.map thC),.rows 1 (s.s1.told.map cel)]
def Xas(b:Bk)(c:Int):Cd:=(b.cards[c.toNat]?).getD default
def powGo(b:Bk)(place:Int):List Th→Int→Int×Int→Int×Int
 |[],_,a=>a
 |u::l,i,a=>powGo b place l (i+1) (if i=place then (IntKind.i64.wrap (a.1+(Xas b u.card).power),IntKind.i64.wrap (a.2+(Xas b u.card).health)) else (IntKind.i64.wrap (a.1+(Xas b u.card).aurap),IntKind.i64.wrap (a.2+(Xas b u.card).aurah)))
def powF(b:Bk)(l:List Th)(place:Int):Int×Int:=powGo b place l 0 (0,0)
def XD(b:Bk)(all:List Th):List Th→Int→List Int
 |[],_=>[]
 |u::l,i=>if (powF b all i).2≤u.harm then u.id::XD b all l (i+1) else XD b all l (i+1)
def YC(b:Bk)(d:Sd):List Int:=XD b d.units d.units 0
theorem Xao(b:Bk)(all:List Th):∀(l:List Th) (i:Int),(XD b all l i).length≤l.length
 |[],_=>Nat.le_refl _
 |u::l,i=>by
  have:=Xao b all l (i+1);unfold XD;split<;>simp<;>omega
def deadF(b:Bk)(s:St):List Int:=if s.mover=0 then YC b s.s0++YC b s.s1 else YC b s.s1++YC b s.s0
theorem cdLd3(x:Cd):partA false 3 1 (cdC x)=some (iv x.power):=rfl
theorem cdLd4(x:Cd):partA false 4 1 (cdC x)=some (iv x.health):=rfl
theorem cdLd6(x:Cd):partA false 6 1 (cdC x)=some (iv x.aurap):=rfl
theorem cdLd7(x:Cd):partA false 7 1 (cdC x)=some (iv x.aurah):=rfl
theorem ldp{σ:List ABlk}{b i j n sz:Nat}{agg:Bool}{rs:List (List AVal)}{row:List AVal}{v:AVal}(hb:hget σ b=.rows sz rs)(hi:rs[i]?=some row)(hv:partA agg j n row=some v):Yd agg n [.ptr b i j] σ=.ok v [b] []:=by
 show (match hget σ b with
   |.rows _ rs=>match nth rs i with
    |some row=>match partA agg j n row with
     |some v=>SRes.ok v [b] []
     |none=>.stop
    |none=>.stop
   | _=>.stop)=_
 rw[hb];simp only[XW,hi,hv]
theorem Gr.more{σ0 σ:List ABlk}{n k:Nat}{rows:List (List AVal)}{v:AVal}(h:Gr σ0 n rows k v σ)(l:List ABlk):Gr σ0 n rows k v (σ++l):=by
 obtain⟨h1,h2,h3⟩:=h;refine⟨by simp; omega,λc hc=>by rw[XC l (by omega),h2 c hc],?_⟩;rcases h3 with h3|⟨q1,b,q2,q3,q4,q5⟩
 ·exact .inl h3
 ·exact .inr ⟨q1,b,q2,q3,Ym l q4 (by simp),q5⟩
theorem Gr.ri{σ0 σ:List ABlk}{l:List Int}{v:AVal}(h:Gr σ0 1 (l.map cel) l.length v σ):∃rd,RI σ rd v l:=by
 rcases h.2.2 with ⟨h1,h2,_⟩|⟨_,b,_,h2,h3,_⟩
 ·have:l=[]:=List.length_eq_zero_iff.1 h1;subst this; subst h2;exact⟨[],RI.nils⟩
 ·subst h2;exact⟨[b],RI.own h3 (by simp) rfl⟩
attribute [local irreducible] Ans.rd Ans.pu Ans.wr Ans.dr Ans.gr Ans.gw Ans.gl Ans.gd Ans.opt joinK W
set_option maxHeartbeats 4000000
theorem XcK(b:Bk)(s:St)(hl:s.s0.units.length≤1000000000)(hu:∀u∈s.s0.units,0≤u.card∧u.card.toNat<b.cards.length)(place:Int):PC 75 [.rptr (.rptr (bkC b) 0::stC s) 0,iv 0,iv place] (.tup [iv (powF b s.s0.units place).1,iv (powF b s.s0.units place).2]):=by
 refine Ye hP g75_ok rfl rfl ?_;unfold g75;refine Za rfl (Za rfl (Za rfl (Za rfl (Za rfl (Za (v:=thV s.s0.units) (rd:=[]) (ldr rfl) (Za (v:=iv s.s0.units.length) (rd:=[]) (by simp[Yg]) ?_))))));refine Yl (ι:=Nat) (λi vs _=>(∃a:Int×Int,vs=[iv i,iv a.1,iv a.2]∧powF b s.s0.units place=powGo b place (s.s0.units.drop i) i a)∧i≤s.s0.units.length) (λi=>s.s0.units.length-i) 0 ⟨⟨(0,0),rfl,by simp[powF]⟩,by omega⟩ ?_;rintro i vs σ again ⟨⟨a,rfl,hr⟩,hi⟩ hag;refine Za rfl (Qb (λh=>?_) (λh=>?_));rotate_left
 ·have h:i=s.s0.units.length:=by simp at h; omega
  subst h;rw[List.drop_length,powGo] at hr;show AVal.tup [iv a.1,iv a.2]=_;rw[hr]
 have h:i<s.s0.units.length:=by simpa using h
 have hmem:=List.getElem_mem h;rw[YLD h,powGo] at hr;have hix:=λ(t:List ABlk)=>Xq t thC false false 4 s.s0.units .i64 i h;generalize s.s0.units[i]=u at hmem hr hix;have hcu:=hu u hmem;have hcx:=λ(t:List ABlk)=>Za9 t cdC false false 12 b.cards .i64 u.card hcu.1 hcu.2;have hcd:Xas b u.card=b.cards[u.card.toNat]:=by simp[Xas,List.getElem?_eq_getElem hcu.2]
 rw[hcd] at hr;generalize b.cards[u.card.toNat]=c at hr hcx;refine Qh λk10 hk10=>?_;refine Za (hix _) (Za (ldr rfl) (Zw (row:=thC u) (row':=thC u) rfl rfl rfl ?_));have hB:=Yj σ (.box (thC u));refine Za rfl (Za rfl (Za (ldr rfl) (Za rfl (Za rfl (Za (ldr rfl) (Za rfl (Za (ld hB rfl) (Za (hcx _) (Za (Zf ..) ?_)))))))));refine Qb (λhp=>?_) (λhp=>?_)
 ·rw[if_pos (of_decide_eq_true hp)] at hr;refine Za rfl (Za rfl (Za (ldr (cdLd3 _)) (Za (Xi ..) (Za rfl (Za rfl (Za (ldr (cdLd4 _)) (Za (Xi ..) ?_)))))));rw[hk10];refine Za (Xi ..) ?_;rw[Qe (n:=i) (by omega)];exact hag (i+1) _ _ (by omega) ⟨⟨_,rfl,by rw[hr]; push_cast; rfl⟩,by omega⟩
 ·rw[if_neg (of_decide_eq_false hp)] at hr;refine Za rfl (Za rfl (Za (ldr (cdLd6 _)) (Za (Xi ..) (Za rfl (Za rfl (Za (ldr (cdLd7 _)) (Za (Xi ..) ?_)))))));rw[hk10];refine Za (Xi ..) ?_;rw[Qe (n:=i) (by omega)];exact hag (i+1) _ _ (by omega) ⟨⟨_,rfl,by rw[hr]; push_cast; rfl⟩,by omega⟩
theorem QcK(b:Bk)(s:St)(hl:s.s1.units.length≤1000000000)(hu:∀u∈s.s1.units,0≤u.card∧u.card.toNat<b.cards.length)(place:Int):PC 75 [.rptr (.rptr (bkC b) 0::stC s) 0,iv 1,iv place] (.tup [iv (powF b s.s1.units place).1,iv (powF b s.s1.units place).2]):=by
 refine Ye hP g75_ok rfl rfl ?_;unfold g75;refine Za rfl (Za rfl (Za rfl (Za rfl (Za rfl (Za (v:=thV s.s1.units) (rd:=[]) (ldr rfl) (Za (v:=iv s.s1.units.length) (rd:=[]) (by simp[Yg]) ?_))))));refine Yl (ι:=Nat) (λi vs _=>(∃a:Int×Int,vs=[iv i,iv a.1,iv a.2]∧powF b s.s1.units place=powGo b place (s.s1.units.drop i) i a)∧i≤s.s1.units.length) (λi=>s.s1.units.length-i) 0 ⟨⟨(0,0),rfl,by simp[powF]⟩,by omega⟩ ?_;rintro i vs σ again ⟨⟨a,rfl,hr⟩,hi⟩ hag;refine Za rfl (Qb (λh=>?_) (λh=>?_));rotate_left
 ·have h:i=s.s1.units.length:=by simp at h; omega
  subst h;rw[List.drop_length,powGo] at hr;show AVal.tup [iv a.1,iv a.2]=_;rw[hr]
 have h:i<s.s1.units.length:=by simpa using h
 have hmem:=List.getElem_mem h;rw[YLD h,powGo] at hr;have hix:=λ(t:List ABlk)=>Xq t thC false false 4 s.s1.units .i64 i h;generalize s.s1.units[i]=u at hmem hr hix;have hcu:=hu u hmem;have hcx:=λ(t:List ABlk)=>Za9 t cdC false false 12 b.cards .i64 u.card hcu.1 hcu.2;have hcd:Xas b u.card=b.cards[u.card.toNat]:=by simp[Xas,List.getElem?_eq_getElem hcu.2]
 rw[hcd] at hr;generalize b.cards[u.card.toNat]=c at hr hcx;refine Qh λk10 hk10=>?_;refine Za (hix _) (Za (ldr rfl) (Zw (row:=thC u) (row':=thC u) rfl rfl rfl ?_));have hB:=Yj σ (.box (thC u));refine Za rfl (Za rfl (Za (ldr rfl) (Za rfl (Za rfl (Za (ldr rfl) (Za rfl (Za (ld hB rfl) (Za (hcx _) (Za (Zf ..) ?_)))))))));refine Qb (λhp=>?_) (λhp=>?_)
 ·rw[if_pos (of_decide_eq_true hp)] at hr;refine Za rfl (Za rfl (Za (ldr (cdLd3 _)) (Za (Xi ..) (Za rfl (Za rfl (Za (ldr (cdLd4 _)) (Za (Xi ..) ?_)))))));rw[hk10];refine Za (Xi ..) ?_;rw[Qe (n:=i) (by omega)];exact hag (i+1) _ _ (by omega) ⟨⟨_,rfl,by rw[hr]; push_cast; rfl⟩,by omega⟩
 ·rw[if_neg (of_decide_eq_false hp)] at hr;refine Za rfl (Za rfl (Za (ldr (cdLd6 _)) (Za (Xi ..) (Za rfl (Za rfl (Za (ldr (cdLd7 _)) (Za (Xi ..) ?_)))))));rw[hk10];refine Za (Xi ..) ?_;rw[Qe (n:=i) (by omega)];exact hag (i+1) _ _ (by omega) ⟨⟨_,rfl,by rw[hr]; push_cast; rfl⟩,by omega⟩
theorem c28_0(b:Bk)(hf:bkFit b=true)(hsm:Yo b.cards)(s:St)(hs:StLe 2000000 s)(hm:mayR (bkR b).1 b s true=true)(hmv:s.mover=0):PC 28 [bkV b,stV s] (rowV (deadF b s)):=by
 have w1:IntKind.i64.wrap (0+1)=1:=by decide
 have w2:IntKind.i64.wrap (1+1)=2:=by decide
 have z0:=hs.s0.units;have z1:=hs.s1.units;refine Zq hP g28_ok rfl ?_;unfold g28;refine Xd (v:=.bptr 0 0) (rd:=[]) (up:=[(0,.box (bkC b))]) rfl rfl ?_;refine Xd (v:=.bptr 1 0) (rd:=[]) (up:=[(1,.box (stC s))]) rfl rfl ?_;refine c56n b hf hsm s (hs.mono (by decide)) (n0:=2) (n:=13) rfl rfl rfl rfl (λh=>by rw[hm] at h; cases h) (λ_=>?_);have hld:∀σ,hget σ 1=.box (stC s)→Yd false 1 [.bptr 1 1] σ=.ok (iv 0) [1] []:=λσ h=>by
  have:=ld (σ:=σ) (b:=1) (j:=1) (n:=1) (agg:=false) (v:=iv s.mover) h rfl;rw[hmv] at this; exact this
 refine Za rfl (Xg (Za rfl (Za (hld _ rfl) (Za rfl (Za (hld _ rfl) (Za (v:=iv 1) (rd:=[]) rfl (Za (v:=.agg [iv 0,iv 1]) (rd:=[]) rfl ?_)))))));refine Yy 3 (Zi ?_);have hG0:Gr (((sg2 b s).append [.box (mv2 s)])) 1 ([].map cel) ([]:List Int).length .nils (((sg2 b s).append [.box (mv2 s)])):=Gr.nil 1 _;have hpre0:(([]:List Int)).length≤2000000:=by simp
 refine Za rfl (Qd (Za rfl (Za rfl (Za rfl (Za rfl (Za rfl (Za rfl (Za (ld (row:=mv2 s) (hG0.old rfl (by simp)) rfl) (Za rfl ?_)))))))));refine Yl (ι:=Nat) (λi vs τ=>(∃(done:List Int) (v:AVal),vs=[iv i,v]∧Gr (((sg2 b s).append [.box (mv2 s)])) 1 (done.map cel) done.length v τ∧([]:List Int)++YC b s.s0=done++XD b s.s0.units (s.s0.units.drop i) i∧done.length≤(([]:List Int)).length+i)∧i≤s.s0.units.length) (λi=>s.s0.units.length-i) 0 ⟨⟨([]:List Int),_,rfl,hG0,rfl,Nat.le_refl _⟩,by omega⟩ ?_;rintro i vs τ again ⟨⟨done,v,rfl,hG,hr,hdl⟩,hi⟩ hag;refine Za rfl (Qb (λh=>?_) (λh=>?_))
 ·have h:i<s.s0.units.length:=by simpa using h
  have hmem:=List.getElem_mem h;have hgt:(s.s0.units.map thC)[i]?=some (thC s.s0.units[i]):=by simp[h]
  rw[YLD h,XD] at hr;generalize s.s0.units[i]=u at hmem hr hgt;refine Qh λk24 hk24=>?_;have hU:hget τ 6=.rows 4 (s.s0.units.map thC):=hG.old rfl (by simp);refine Za (v:=.ptr 6 i 0) (rd:=[6]) ?_ ?_
  ·have:=Yay τ 6 0 s.s0.units.length false 4 (s.s0.units.map thC) .i64 i h hU;rw[Nat.zero_add] at this; exact this
  refine Za (ldp hU hgt rfl) (Zw (row:=thC u) (row':=thC u) rfl rfl rfl ?_);have hB:=Yj τ (.box (thC u));have hG2:=hG.more [.box (thC u)];have hO:∀c y,y≠ABlk.dead→hget (((sg2 b s).append [.box (mv2 s)])) c=y→hget (τ++[.box (thC u)]) c=y:=λc y hy hc=>hG2.old hc hy;refine YU (rd:=[0,2,3,4,5,6,7,8,9,10,11,12,13]) (XcK b s (by omega) (Yal hm) i) rfl g75_ok.plain (.cons (Bor.box (row:=mv2 s) (Yx (hO 13 _ (by simp) rfl) (by simp)) (by decide) (.cons (Bor.box (row:=bkC b) (Yx (hO 0 _ (by simp) rfl) (by simp)) (by decide) (BorL.ro rfl)) ?_)) <| .cons (Bor.ro rfl) <| .cons (Bor.ro rfl) .nil) rfl ?_
  ·exact SB.mk (s:=s) (RI.own (hO 2 _ (by simp) rfl) (by decide) rfl) (RI.own (hO 3 _ (by simp) rfl) (by decide) rfl) (RI.own (hO 4 _ (by simp) rfl) (by decide) rfl) (RI.own (hO 5 _ (by simp) rfl) (by decide) rfl) (RT.own (hO 6 _ (by simp) rfl) (by decide) rfl) (RI.own (hO 7 _ (by simp) rfl) (by decide) rfl) (RI.own (hO 8 _ (by simp) rfl) (by decide) rfl) (RI.own (hO 9 _ (by simp) rfl) (by decide) rfl) (RI.own (hO 10 _ (by simp) rfl) (by decide) rfl) (RT.own (hO 11 _ (by simp) rfl) (by decide) rfl) (RI.own (hO 12 _ (by simp) rfl) (by decide) rfl)
  refine Za rfl (Za rfl (Za rfl (Za (ld hB rfl) (Za (QT ..) ?_))));refine Qb (λhp=>?_) (λhp=>?_)
  ·rw[if_pos (of_decide_eq_true hp)] at hr;refine Za rfl (Za (ld hB rfl) ?_);refine hG2.put (by_:=8) rfl rfl rfl (by omega) (λv' τ' hG3=>?_);rw[hk24];refine Za (Xi ..) ?_;rw[Qe (n:=i) (by omega)];refine hag (i+1) _ _ (by omega) ⟨⟨done++[u.id],v',rfl,?_,?_,?_⟩,by omega⟩
   ·rw[List.map_append,List.length_append]; exact hG3
   ·rw[hr,List.append_assoc]; push_cast; rfl
   ·rw[List.length_append,List.length_singleton]; omega
  ·rw[if_neg (of_decide_eq_false hp)] at hr;rw[hk24];refine Za (Xi ..) ?_;rw[Qe (n:=i) (by omega)];exact hag (i+1) _ _ (by omega) ⟨⟨done,v,rfl,hG2,by rw[hr]; push_cast; rfl,by omega⟩,by omega⟩
 have h:i=s.s0.units.length:=by simp at h; omega
 subst h;rw[List.drop_length,XD,List.append_nil] at hr;subst hr;have hG1:=hG;clear hag again hdl hG;refine Za rfl ?_;rw[w1];refine Zi ?_;have hpre1:((([]:List Int)++YC b s.s0)).length≤2000000:=by have:=Xao b s.s0.units s.s0.units 0; simp[YC]; omega
 refine Za rfl (Qd (Za rfl (Za rfl (Za rfl (Za rfl (Za rfl (Za rfl (Za (ld (row:=mv2 s) (hG1.old rfl (by simp)) rfl) (Za rfl ?_)))))))));refine Yl (ι:=Nat) (λi vs τ=>(∃(done:List Int) (v:AVal),vs=[iv i,v]∧Gr (((sg2 b s).append [.box (mv2 s)])) 1 (done.map cel) done.length v τ∧(([]:List Int)++YC b s.s0)++YC b s.s1=done++XD b s.s1.units (s.s1.units.drop i) i∧done.length≤((([]:List Int)++YC b s.s0)).length+i)∧i≤s.s1.units.length) (λi=>s.s1.units.length-i) 0 ⟨⟨(([]:List Int)++YC b s.s0),_,rfl,hG1,rfl,Nat.le_refl _⟩,by omega⟩ ?_;rintro i vs τ again ⟨⟨done,v,rfl,hG,hr,hdl⟩,hi⟩ hag;refine Za rfl (Qb (λh=>?_) (λh=>?_))
 ·have h:i<s.s1.units.length:=by simpa using h
  have hmem:=List.getElem_mem h;have hgt:(s.s1.units.map thC)[i]?=some (thC s.s1.units[i]):=by simp[h]
  rw[YLD h,XD] at hr;generalize s.s1.units[i]=u at hmem hr hgt;refine Qh λk24 hk24=>?_;have hU:hget τ 11=.rows 4 (s.s1.units.map thC):=hG.old rfl (by simp);refine Za (v:=.ptr 11 i 0) (rd:=[11]) ?_ ?_
  ·have:=Yay τ 11 0 s.s1.units.length false 4 (s.s1.units.map thC) .i64 i h hU;rw[Nat.zero_add] at this; exact this
  refine Za (ldp hU hgt rfl) (Zw (row:=thC u) (row':=thC u) rfl rfl rfl ?_);have hB:=Yj τ (.box (thC u));have hG2:=hG.more [.box (thC u)];have hO:∀c y,y≠ABlk.dead→hget (((sg2 b s).append [.box (mv2 s)])) c=y→hget (τ++[.box (thC u)]) c=y:=λc y hy hc=>hG2.old hc hy;refine YU (rd:=[0,2,3,4,5,6,7,8,9,10,11,12,13]) (QcK b s (by omega) (Xal hm) i) rfl g75_ok.plain (.cons (Bor.box (row:=mv2 s) (Yx (hO 13 _ (by simp) rfl) (by simp)) (by decide) (.cons (Bor.box (row:=bkC b) (Yx (hO 0 _ (by simp) rfl) (by simp)) (by decide) (BorL.ro rfl)) ?_)) <| .cons (Bor.ro rfl) <| .cons (Bor.ro rfl) .nil) rfl ?_
  ·exact SB.mk (s:=s) (RI.own (hO 2 _ (by simp) rfl) (by decide) rfl) (RI.own (hO 3 _ (by simp) rfl) (by decide) rfl) (RI.own (hO 4 _ (by simp) rfl) (by decide) rfl) (RI.own (hO 5 _ (by simp) rfl) (by decide) rfl) (RT.own (hO 6 _ (by simp) rfl) (by decide) rfl) (RI.own (hO 7 _ (by simp) rfl) (by decide) rfl) (RI.own (hO 8 _ (by simp) rfl) (by decide) rfl) (RI.own (hO 9 _ (by simp) rfl) (by decide) rfl) (RI.own (hO 10 _ (by simp) rfl) (by decide) rfl) (RT.own (hO 11 _ (by simp) rfl) (by decide) rfl) (RI.own (hO 12 _ (by simp) rfl) (by decide) rfl)
  refine Za rfl (Za rfl (Za rfl (Za (ld hB rfl) (Za (QT ..) ?_))));refine Qb (λhp=>?_) (λhp=>?_)
  ·rw[if_pos (of_decide_eq_true hp)] at hr;refine Za rfl (Za (ld hB rfl) ?_);refine hG2.put (by_:=8) rfl rfl rfl (by omega) (λv' τ' hG3=>?_);rw[hk24];refine Za (Xi ..) ?_;rw[Qe (n:=i) (by omega)];refine hag (i+1) _ _ (by omega) ⟨⟨done++[u.id],v',rfl,?_,?_,?_⟩,by omega⟩
   ·rw[List.map_append,List.length_append]; exact hG3
   ·rw[hr,List.append_assoc]; push_cast; rfl
   ·rw[List.length_append,List.length_singleton]; omega
  ·rw[if_neg (of_decide_eq_false hp)] at hr;rw[hk24];refine Za (Xi ..) ?_;rw[Qe (n:=i) (by omega)];exact hag (i+1) _ _ (by omega) ⟨⟨done,v,rfl,hG2,by rw[hr]; push_cast; rfl,by omega⟩,by omega⟩
 have h:i=s.s1.units.length:=by simp at h; omega
 subst h;rw[List.drop_length,XD,List.append_nil] at hr;subst hr;have hG2:=hG;clear hag again hdl hG;refine Za rfl ?_;rw[w2];refine Zi (Za rfl (Xg ?_));obtain⟨rd,hri⟩:=hG2.ri;refine⟨rd,?_⟩;have e:deadF b s=[]++YC b s.s0++YC b s.s1:=by simp[deadF,hmv]
 rw[e]; exact hri
theorem c28_1(b:Bk)(hf:bkFit b=true)(hsm:Yo b.cards)(s:St)(hs:StLe 2000000 s)(hm:mayR (bkR b).1 b s true=true)(hmv:s.mover=1):PC 28 [bkV b,stV s] (rowV (deadF b s)):=by
 have w1:IntKind.i64.wrap (0+1)=1:=by decide
 have w2:IntKind.i64.wrap (1+1)=2:=by decide
 have z0:=hs.s0.units;have z1:=hs.s1.units;refine Zq hP g28_ok rfl ?_;unfold g28;refine Xd (v:=.bptr 0 0) (rd:=[]) (up:=[(0,.box (bkC b))]) rfl rfl ?_;refine Xd (v:=.bptr 1 0) (rd:=[]) (up:=[(1,.box (stC s))]) rfl rfl ?_;refine c56n b hf hsm s (hs.mono (by decide)) (n0:=2) (n:=13) rfl rfl rfl rfl (λh=>by rw[hm] at h; cases h) (λ_=>?_);have hld:∀σ,hget σ 1=.box (stC s)→Yd false 1 [.bptr 1 1] σ=.ok (iv 1) [1] []:=λσ h=>by
  have:=ld (σ:=σ) (b:=1) (j:=1) (n:=1) (agg:=false) (v:=iv s.mover) h rfl;rw[hmv] at this; exact this
 refine Za rfl (Xg (Za rfl (Za (hld _ rfl) (Za rfl (Za (hld _ rfl) (Za (v:=iv 0) (rd:=[]) rfl (Za (v:=.agg [iv 1,iv 0]) (rd:=[]) rfl ?_)))))));refine Yy 3 (Zi ?_);have hG0:Gr (((sg2 b s).append [.box (mv2 s)])) 1 ([].map cel) ([]:List Int).length .nils (((sg2 b s).append [.box (mv2 s)])):=Gr.nil 1 _;have hpre0:(([]:List Int)).length≤2000000:=by simp
 refine Za rfl (Qd (Za rfl (Za rfl (Za rfl (Za rfl (Za rfl (Za rfl (Za (ld (row:=mv2 s) (hG0.old rfl (by simp)) rfl) (Za rfl ?_)))))))));refine Yl (ι:=Nat) (λi vs τ=>(∃(done:List Int) (v:AVal),vs=[iv i,v]∧Gr (((sg2 b s).append [.box (mv2 s)])) 1 (done.map cel) done.length v τ∧([]:List Int)++YC b s.s1=done++XD b s.s1.units (s.s1.units.drop i) i∧done.length≤(([]:List Int)).length+i)∧i≤s.s1.units.length) (λi=>s.s1.units.length-i) 0 ⟨⟨([]:List Int),_,rfl,hG0,rfl,Nat.le_refl _⟩,by omega⟩ ?_;rintro i vs τ again ⟨⟨done,v,rfl,hG,hr,hdl⟩,hi⟩ hag;refine Za rfl (Qb (λh=>?_) (λh=>?_))
 ·have h:i<s.s1.units.length:=by simpa using h
  have hmem:=List.getElem_mem h;have hgt:(s.s1.units.map thC)[i]?=some (thC s.s1.units[i]):=by simp[h]
  rw[YLD h,XD] at hr;generalize s.s1.units[i]=u at hmem hr hgt;refine Qh λk24 hk24=>?_;have hU:hget τ 11=.rows 4 (s.s1.units.map thC):=hG.old rfl (by simp);refine Za (v:=.ptr 11 i 0) (rd:=[11]) ?_ ?_
  ·have:=Yay τ 11 0 s.s1.units.length false 4 (s.s1.units.map thC) .i64 i h hU;rw[Nat.zero_add] at this; exact this
  refine Za (ldp hU hgt rfl) (Zw (row:=thC u) (row':=thC u) rfl rfl rfl ?_);have hB:=Yj τ (.box (thC u));have hG2:=hG.more [.box (thC u)];have hO:∀c y,y≠ABlk.dead→hget (((sg2 b s).append [.box (mv2 s)])) c=y→hget (τ++[.box (thC u)]) c=y:=λc y hy hc=>hG2.old hc hy;refine YU (rd:=[0,2,3,4,5,6,7,8,9,10,11,12,13]) (QcK b s (by omega) (Xal hm) i) rfl g75_ok.plain (.cons (Bor.box (row:=mv2 s) (Yx (hO 13 _ (by simp) rfl) (by simp)) (by decide) (.cons (Bor.box (row:=bkC b) (Yx (hO 0 _ (by simp) rfl) (by simp)) (by decide) (BorL.ro rfl)) ?_)) <| .cons (Bor.ro rfl) <| .cons (Bor.ro rfl) .nil) rfl ?_
  ·exact SB.mk (s:=s) (RI.own (hO 2 _ (by simp) rfl) (by decide) rfl) (RI.own (hO 3 _ (by simp) rfl) (by decide) rfl) (RI.own (hO 4 _ (by simp) rfl) (by decide) rfl) (RI.own (hO 5 _ (by simp) rfl) (by decide) rfl) (RT.own (hO 6 _ (by simp) rfl) (by decide) rfl) (RI.own (hO 7 _ (by simp) rfl) (by decide) rfl) (RI.own (hO 8 _ (by simp) rfl) (by decide) rfl) (RI.own (hO 9 _ (by simp) rfl) (by decide) rfl) (RI.own (hO 10 _ (by simp) rfl) (by decide) rfl) (RT.own (hO 11 _ (by simp) rfl) (by decide) rfl) (RI.own (hO 12 _ (by simp) rfl) (by decide) rfl)
  refine Za rfl (Za rfl (Za rfl (Za (ld hB rfl) (Za (QT ..) ?_))));refine Qb (λhp=>?_) (λhp=>?_)
  ·rw[if_pos (of_decide_eq_true hp)] at hr;refine Za rfl (Za (ld hB rfl) ?_);refine hG2.put (by_:=8) rfl rfl rfl (by omega) (λv' τ' hG3=>?_);rw[hk24];refine Za (Xi ..) ?_;rw[Qe (n:=i) (by omega)];refine hag (i+1) _ _ (by omega) ⟨⟨done++[u.id],v',rfl,?_,?_,?_⟩,by omega⟩
   ·rw[List.map_append,List.length_append]; exact hG3
   ·rw[hr,List.append_assoc]; push_cast; rfl
   ·rw[List.length_append,List.length_singleton]; omega
  ·rw[if_neg (of_decide_eq_false hp)] at hr;rw[hk24];refine Za (Xi ..) ?_;rw[Qe (n:=i) (by omega)];exact hag (i+1) _ _ (by omega) ⟨⟨done,v,rfl,hG2,by rw[hr]; push_cast; rfl,by omega⟩,by omega⟩
 have h:i=s.s1.units.length:=by simp at h; omega
 subst h;rw[List.drop_length,XD,List.append_nil] at hr;subst hr;have hG1:=hG;clear hag again hdl hG;refine Za rfl ?_;rw[w1];refine Zi ?_;have hpre1:((([]:List Int)++YC b s.s1)).length≤2000000:=by have:=Xao b s.s1.units s.s1.units 0; simp[YC]; omega
 refine Za rfl (Qd (Za rfl (Za rfl (Za rfl (Za rfl (Za rfl (Za rfl (Za (ld (row:=mv2 s) (hG1.old rfl (by simp)) rfl) (Za rfl ?_)))))))));refine Yl (ι:=Nat) (λi vs τ=>(∃(done:List Int) (v:AVal),vs=[iv i,v]∧Gr (((sg2 b s).append [.box (mv2 s)])) 1 (done.map cel) done.length v τ∧(([]:List Int)++YC b s.s1)++YC b s.s0=done++XD b s.s0.units (s.s0.units.drop i) i∧done.length≤((([]:List Int)++YC b s.s1)).length+i)∧i≤s.s0.units.length) (λi=>s.s0.units.length-i) 0 ⟨⟨(([]:List Int)++YC b s.s1),_,rfl,hG1,rfl,Nat.le_refl _⟩,by omega⟩ ?_;rintro i vs τ again ⟨⟨done,v,rfl,hG,hr,hdl⟩,hi⟩ hag;refine Za rfl (Qb (λh=>?_) (λh=>?_))
 ·have h:i<s.s0.units.length:=by simpa using h
  have hmem:=List.getElem_mem h;have hgt:(s.s0.units.map thC)[i]?=some (thC s.s0.units[i]):=by simp[h]
  rw[YLD h,XD] at hr;generalize s.s0.units[i]=u at hmem hr hgt;refine Qh λk24 hk24=>?_;have hU:hget τ 6=.rows 4 (s.s0.units.map thC):=hG.old rfl (by simp);refine Za (v:=.ptr 6 i 0) (rd:=[6]) ?_ ?_
  ·have:=Yay τ 6 0 s.s0.units.length false 4 (s.s0.units.map thC) .i64 i h hU;rw[Nat.zero_add] at this; exact this
  refine Za (ldp hU hgt rfl) (Zw (row:=thC u) (row':=thC u) rfl rfl rfl ?_);have hB:=Yj τ (.box (thC u));have hG2:=hG.more [.box (thC u)];have hO:∀c y,y≠ABlk.dead→hget (((sg2 b s).append [.box (mv2 s)])) c=y→hget (τ++[.box (thC u)]) c=y:=λc y hy hc=>hG2.old hc hy;refine YU (rd:=[0,2,3,4,5,6,7,8,9,10,11,12,13]) (XcK b s (by omega) (Yal hm) i) rfl g75_ok.plain (.cons (Bor.box (row:=mv2 s) (Yx (hO 13 _ (by simp) rfl) (by simp)) (by decide) (.cons (Bor.box (row:=bkC b) (Yx (hO 0 _ (by simp) rfl) (by simp)) (by decide) (BorL.ro rfl)) ?_)) <| .cons (Bor.ro rfl) <| .cons (Bor.ro rfl) .nil) rfl ?_
  ·exact SB.mk (s:=s) (RI.own (hO 2 _ (by simp) rfl) (by decide) rfl) (RI.own (hO 3 _ (by simp) rfl) (by decide) rfl) (RI.own (hO 4 _ (by simp) rfl) (by decide) rfl) (RI.own (hO 5 _ (by simp) rfl) (by decide) rfl) (RT.own (hO 6 _ (by simp) rfl) (by decide) rfl) (RI.own (hO 7 _ (by simp) rfl) (by decide) rfl) (RI.own (hO 8 _ (by simp) rfl) (by decide) rfl) (RI.own (hO 9 _ (by simp) rfl) (by decide) rfl) (RI.own (hO 10 _ (by simp) rfl) (by decide) rfl) (RT.own (hO 11 _ (by simp) rfl) (by decide) rfl) (RI.own (hO 12 _ (by simp) rfl) (by decide) rfl)
  refine Za rfl (Za rfl (Za rfl (Za (ld hB rfl) (Za (QT ..) ?_))));refine Qb (λhp=>?_) (λhp=>?_)
  ·rw[if_pos (of_decide_eq_true hp)] at hr;refine Za rfl (Za (ld hB rfl) ?_);refine hG2.put (by_:=8) rfl rfl rfl (by omega) (λv' τ' hG3=>?_);rw[hk24];refine Za (Xi ..) ?_;rw[Qe (n:=i) (by omega)];refine hag (i+1) _ _ (by omega) ⟨⟨done++[u.id],v',rfl,?_,?_,?_⟩,by omega⟩
   ·rw[List.map_append,List.length_append]; exact hG3
   ·rw[hr,List.append_assoc]; push_cast; rfl
   ·rw[List.length_append,List.length_singleton]; omega
  ·rw[if_neg (of_decide_eq_false hp)] at hr;rw[hk24];refine Za (Xi ..) ?_;rw[Qe (n:=i) (by omega)];exact hag (i+1) _ _ (by omega) ⟨⟨done,v,rfl,hG2,by rw[hr]; push_cast; rfl,by omega⟩,by omega⟩
 have h:i=s.s0.units.length:=by simp at h; omega
 subst h;rw[List.drop_length,XD,List.append_nil] at hr;subst hr;have hG2:=hG;clear hag again hdl hG;refine Za rfl ?_;rw[w2];refine Zi (Za rfl (Xg ?_));obtain⟨rd,hri⟩:=hG2.ri;refine⟨rd,?_⟩;have e:deadF b s=[]++YC b s.s1++YC b s.s0:=by simp[deadF,hmv]
 rw[e]; exact hri
theorem c28(b:Bk)(hf:bkFit b=true)(hsm:Yo b.cards)(s:St)(hs:StLe 2000000 s)(hm:mayR (bkR b).1 b s true=true):PC 28 [bkV b,stV s] (rowV (deadF b s)):=by
 have h:=Xt hm;by_cases h0:s.mover=0
 ·exact c28_0 b hf hsm s hs hm h0
 ·exact c28_1 b hf hsm s hs hm (by omega)
end Go.Ah.Tz
end
section
namespace Go.Ah.Tz
open Go.Proofs.Tryz (prog)
attribute [local irreducible] Ans.rd Ans.pu Ans.wr Ans.dr Ans.gr Ans.gw Ans.gl Ans.gd Ans.opt joinK W
set_option maxHeartbeats 4000000
def zTh:Th:=⟨0,0,0,false⟩
theorem XaX:∀l:List Th,XA (l.map thC)=true
 |[]=>rfl
 |x::l=>by simp only[List.map_cons,XA,XaX l,Bool.and_true]; rfl
theorem ZcA{σ:List ABlk}{sz b n i:Nat}{ex:Bool}{rs:List (List AVal)}(hb:hget σ b=.rows sz rs)(hi:i≤n):∃v rd,X0 sz [.sl b 0 n ex,iv i] σ=.ok v rd []∧((i<n∧v=.sl b i (n-i) ex∧rd=[b])∨(i=n∧v=.rsl false false sz []∧rd=[])):=by
 by_cases h:i<n
 ·refine⟨.sl b i (n - i) ex,[b],?_,.inl ⟨h,rfl,rfl⟩⟩;show (match hget σ b with
   |.rows s _=>bif Nat.beq s sz then (bif Nat.blt i n then SRes.ok (.sl b (0+i) (n-i) ex) [b] [] else bif Nat.beq i n then .ok (.rsl false false sz []) [] [] else .stop) else .stop
   | _=>.stop)=_
  rw[hb];have:Nat.blt i n=true:=Nat.ble_eq_true_of_le h;simp only[Nat.beq_refl,cond_true,this,Nat.zero_add]
 ·have e:i=n:=by omega
  subst e;refine⟨.rsl false false sz [],[],?_,.inr ⟨rfl,rfl,rfl⟩⟩;show (match hget σ b with
   |.rows s _=>bif Nat.beq s sz then (bif Nat.blt i i then SRes.ok (.sl b (0+i) (i-i) ex) [b] [] else bif Nat.beq i i then .ok (.rsl false false sz []) [] [] else .stop) else .stop
   | _=>.stop)=_
  rw[hb];have:Nat.blt i i=false:=by
   cases e:Nat.blt i i with
   |false=>rfl
   |true=>have:=YNL e; omega
  simp only[Nat.beq_refl,cond_true,this,cond_false]
theorem Zbx(l:List Th)(i:Nat)(hi:i<l.length):∃l1 u l2,l=l1++u::l2∧l1.length=i∧l.eraseIdx i=l1++l2:=by
 refine⟨l.take i,l[i],l.drop (i+1),?_,by simp; omega,List.eraseIdx_eq_take_drop_succ ..⟩;rw[List.getElem_cons_drop,List.take_append_drop]
theorem c72{σ:List ABlk}{b i:Nat}{l rest:List Th}(hb:hget σ b=.rows 4 ((l++rest).map thC))(hi:i<l.length)(hl:l.length≤1000000000){K:AVal→List ABlk→Prop}
 (hK:K (.sl b 0 (l.length-1) false) (σ.set b (.rows 4 ((l.eraseIdx i++zTh::rest).map thC)))):g72 VV [.sl b 0 l.length false,iv i,iv ((i+1:Nat):Int)] σ K:=by
 have hbl:=Zp hb (by simp);obtain⟨l1,u,l2,hl12,hl1,her⟩:=Zbx l i hi;have hlen:l.length=i+1+l2.length:=by rw[hl12]; simp; omega
 unfold g72;refine Za (v:=iv l.length) (rd:=[]) rfl ?_;refine Za (v:=.junk) (rd:=[]) ?_ ?_
 ·show (bif Nat.ble i (i+1)&&(Nat.ble (i+1) l.length&&Nat.ble l.length l.length) then SRes.ok .junk [] [] else .stop)=_;rw[Nat.ble_eq_true_of_le (show i≤i+1 by omega),Nat.ble_eq_true_of_le (show i+1≤l.length by omega),Nat.ble_eq_true_of_le (Nat.le_refl l.length)]; rfl
 refine Za (Zf ..) ?_;rw[decide_eq_false (by omega)];refine Xg (Za (v:=iv l.length) (rd:=[]) rfl ?_);refine Yh (v:=.sl b 0 i false) (rd:=[b]) ?_ (Qj _) ?_
 ·show (match hget σ b with
   |.rows s _=>bif Nat.beq s 4&&Nat.ble i l.length then SRes.ok (.sl b 0 i false) [b] [] else .stop
   | _=>.stop)=_
  rw[hb];simp only[Nat.beq_refl,Nat.ble_eq_true_of_le (show i≤l.length by omega),Bool.and_self,cond_true]
 obtain⟨v,rd,hv,hcase⟩:=ZcA (n:=l.length) (i:=i+1) (ex:=false) hb (by omega);refine Yh hv (Qj _) ?_;have hsrc:∃rd2,XF 4 σ v=some (l2.map thC,rd2):=by
  rcases hcase with ⟨h1,rfl,_⟩|⟨h1,rfl,_⟩
  ·refine⟨[b],?_⟩;have hc:cut (i+1) (i+1+(l.length-(i+1))) ((l++rest).map thC)=l2.map thC:=by
    rw[hl12];unfold cut;rw[show i+1+((l1++u::l2).length-(i+1))=(l1++u::l2).length by simp; omega,List.map_append,List.take_left' (by simp),List.map_append,List.map_cons,show i+1=(l1.map thC++[thC u]).length by simp[hl1],show l1.map thC++thC u::l2.map thC=(l1.map thC++[thC u])++l2.map thC by simp];exact List.drop_left
   show (match hget σ b with
    |.rows s rs=>bif Nat.beq s 4&&Nat.ble (i+1+(l.length-(i+1))) rs.length then some (cut (i+1) (i+1+(l.length-(i+1))) rs,[b]) else none
    | _=>none)=_
   rw[hb];simp only[Nat.beq_refl,Nat.ble_eq_true_of_le (show i+1+(l.length-(i+1))≤((l++rest).map thC).length by simp; omega),Bool.and_self,cond_true,hc]
  ·have:l2=[]:=List.length_eq_zero_iff.1 (by omega);subst this;exact⟨[],rfl⟩
 obtain⟨rd2,hsrc⟩:=hsrc;have hrs:((l++rest).map thC).length=l.length+rest.length:=by simp
 have happ:Qi 4 32 [.sl b 0 i false,v] σ=.ok (.sl b 0 (i+l2.length) false) rd2 [(b,.rows 4 (over i (l2.map thC) ((l++rest).map thC)))]:=by
  have h1:(Nat.beq 0 0&&Nat.beq ((l++rest).map thC).length i)=false:=by
   cases e:Nat.beq ((l++rest).map thC).length i with
   |false=>rfl
   |true=>have:=YNB e; omega
  have:Qi 4 32 [.sl b 0 i false,v] σ=QaQ 4 32 σ b 0 i ((l++rest).map thC) v:=by
   show (match hget σ b with
    |.rows s rs=>bif Nat.beq s 4 then (bif Nat.beq 0 0&&Nat.beq rs.length i then QN 4 32 σ rs [(b,.dead)] v else QaQ 4 32 σ b 0 i rs v) else .stop
    | _=>.stop)=_
   rw[hb];simp only[Nat.beq_refl,cond_true,h1,cond_false];rw[Nat.beq_refl] at h1;simp only[Bool.true_and] at h1 ⊢;rw[h1]; rfl
  rw[this,QaQ];simp only[hsrc,XaX,cond_true,Nat.zero_add,Nat.ble_eq_true_of_le (show i+(l2.map thC).length≤((l++rest).map thC).length by simp; omega),List.length_map];rw[Nat.ble_eq_true_of_le (show i+l2.length≤(l++rest).length by simp; omega)]; rfl
 refine Yh happ (Xo _ hbl) (QB (by rcases hcase with ⟨_,_,rfl⟩|⟨_,_,rfl⟩<;>rfl) ?_);refine Za (v:=iv ((i+l2.length:Nat):Int)) (rd:=[]) rfl ?_;have hb2:=Xj (σ:=σ) (.rows 4 (over i (l2.map thC) ((l++rest).map thC))) hbl;have hov:over i (l2.map thC) ((l++rest).map thC)=(l1++l2).map thC++((u::l2).drop l2.length).map thC++rest.map thC:=by
  unfold over;rw[hl12];have e1:((l1++u::l2++rest).map thC).take i=l1.map thC:=by
   rw[List.append_assoc,List.map_append,show i=(l1.map thC).length by simp[hl1]]; exact List.take_left
  have e2:((l1++u::l2++rest).map thC).drop (i+(l2.map thC).length)=((u::l2).drop l2.length).map thC++rest.map thC:=by
   rw[List.append_assoc,List.map_append,←List.drop_drop,show ((l1.map thC++(u::l2++rest).map thC).drop i)=(u::l2++rest).map thC by rw[show i=(l1.map thC).length by simp[hl1]]; exact List.drop_left];rw[List.map_append,List.drop_append_of_le_length (by simp),List.length_map,List.map_drop]
  rw[e1,e2]; simp
 have hone:∃w,(u::l2).drop l2.length=[w]:=by
  have:((u::l2).drop l2.length).length=1:=by simp
  exact List.length_eq_one_iff.1 this
 obtain⟨w,hw⟩:=hone;rw[hw] at hov;rw[hov] at hb2 ⊢;have hrl:((l1++l2).map thC++[w].map thC++rest.map thC).length=l.length+rest.length:=by simp; omega
 refine Za (v:=.sl b (0+(i+l2.length)) (l.length-(i+l2.length)) false) (rd:=[b]) ?_ ?_
 ·show (match hget (σ.set b _) b with
   |.rows s rs=>bif Nat.beq s 4&&((Nat.blt (i+l2.length) l.length||Nat.beq (i+l2.length) 0)&&(Nat.ble l.length (i+l2.length)||(!(Nat.beq 4 0)&&Nat.ble (0+l.length) rs.length))) then SRes.ok (.sl b (0+(i+l2.length)) (l.length-(i+l2.length)) false) [b] [] else .stop
   | _=>.stop)=_
  rw[hb2];have k1:Nat.blt (i+l2.length) l.length=true:=Nat.ble_eq_true_of_le (show i+l2.length+1≤l.length by omega);have k2:Nat.ble (0+l.length) ((l1++l2).map thC++[w].map thC++rest.map thC).length=true:=Nat.ble_eq_true_of_le (by omega);simp only[k1,k2,Nat.beq_refl,Bool.true_or,Bool.true_and,Bool.and_true];cases Nat.ble l.length (i+l2.length)<;>rfl
 refine Xd (v:=.junk) (rd:=[]) (up:=[(b,.rows 4 (over (0+(i+l2.length)) (List.replicate (l.length-(i+l2.length)) (thC zTh)) ((l1++l2).map thC++[w].map thC++rest.map thC)))]) ?_ (Xo _ (by simpa using hbl)) ?_
 ·show (match hget (σ.set b _) b with
   |.rows s rs=>bif Nat.beq s 4&&Nat.ble (0+(i+l2.length)+(l.length-(i+l2.length))) rs.length then SRes.ok .junk [] [(b,.rows 4 (over (0+(i+l2.length)) (List.replicate (l.length-(i+l2.length)) (thC zTh)) rs))] else .stop
   | _=>.stop)=_
  rw[hb2];simp only[Nat.beq_refl,Bool.true_and,Nat.ble_eq_true_of_le (show 0+(i+l2.length)+(l.length-(i+l2.length))≤((l1++l2).map thC++[w].map thC++rest.map thC).length by omega),cond_true]
 rw[List.set_set];have e1:l.length-1=i+l2.length:=by omega
 have e2:over (0+(i+l2.length)) (List.replicate (l.length-(i+l2.length)) (thC zTh)) ((l1++l2).map thC++[w].map thC++rest.map thC)=(l.eraseIdx i++zTh::rest).map thC:=by
  rw[show l.length-(i+l2.length)=1 by omega,her];unfold over;have f1:(l1++l2).length=i+l2.length:=by simp[hl1]
  rw[Nat.zero_add,show i+l2.length=((l1++l2).map thC).length by simp[hl1],show (l1++l2).map thC++[w].map thC++rest.map thC=(l1++l2).map thC++([w].map thC++rest.map thC) from List.append_assoc ..];rw[List.take_left,←List.drop_drop,List.drop_left];simp
 rw[e1] at hK;rw[e2];exact hK
theorem c74(x id:Int):PC 74 [iv x,.rptr [iv id] 0] (.bool (decide (x=id))):=by
 refine Ye hP g74_ok rfl rfl ?_;unfold g74;exact Za (ldr rfl) (Za (Zf ..) rfl)
theorem Ycn{σ:List ABlk}{b m:Nat}{L:List Int}(hb:hget σ b=.rows 1 (L.map cel))(hm:m<L.length)(x:Int):Xb 1 [.ptr b m 0,iv x] σ=.ok .junk [] [(b,.rows 1 ((L.set m x).map cel))]:=by
 have hl:m<(L.map cel).length:=by simpa using hm
 have h1:nth (L.map cel) m=some (cel L[m]):=by rw[XW,List.getElem?_map,List.getElem?_eq_getElem hm]; rfl
 have h2:QC m [iv x] (L.map cel)=some ((L.set m x).map cel):=by
  rw[Qam hl,List.map_set]; rfl
 show (match hget σ b with
   |.rows sz rs=>match nth rs m with
    |some row=>match cellsOf (iv x) with
     | some cs=>bif Nat.beq cs.length 1 then (match splice 0 cs row with
      |some row'=>match QC m row' rs with
       |some rs'=>SRes.ok .junk [] [(b,.rows sz rs')]
       |none=>.stop
      | none=>.stop) else .stop
     |none=>.stop
    |none=>.stop
   | _=>.stop)=_
 rw[hb];simp only[h1];show (match QC m [iv x] (L.map cel) with
  |some rs'=>SRes.ok .junk [] [(b,.rows 1 rs')]
  | none=>.stop)=_
 rw[h2]
theorem ZbZ{α:Type}(f:α→Bool):∀(l:List α) (n:Int),idxF f l n = -1∧(∀x∈l,f x=false)∨∃k:Nat,k<l.length∧idxF f l n=n+k∧(∀x∈l.take k,f x=false)∧(l[k]?).map f=some true
 |[],n=>.inl ⟨rfl,by simp⟩
 |x::l,n=>by
  by_cases h:f x=true
  ·exact .inr ⟨0,by simp,by simp[idxF,h],by simp,by simp[h]⟩
  ·have e:idxF f (x::l) n=idxF f l (n+1):=if_neg h;rw[e];have h':f x=false:=by simpa using h
   rcases ZbZ f l (n+1) with ⟨q1,q2⟩|⟨k,q1,q2,q3,q4⟩
   ·exact .inl ⟨q1,by intro y hy; rcases List.mem_cons.1 hy with rfl|hy; exact h'; exact q2 y hy⟩
   ·refine .inr ⟨k+1,by simp; omega,by rw[q2]; push_cast; omega,?_,by simpa using q4⟩;intro y hy;rw[List.take_succ_cons] at hy;rcases List.mem_cons.1 hy with rfl|hy
    ·exact h'
    ·exact q3 y hy
def without(id:Int)(l:List Int):List Int:=l.filter λx=>!decide (x=id)
theorem XaO(id:Int)(l:List Int):(without id l).length≤l.length:=List.length_filter_le _ _
theorem Zay{id:Int}{l:List Int}(h:∀x∈l,decide (x=id)=false):without id l=l:=by
 rw[without,List.filter_eq_self];intro x hx; rw[h x hx]; rfl
theorem Xb9{σ:List ABlk}{rd:List Nat}{b:Nat}{ex:Bool}{l rest:List Int}{n:Nat}(hb:hget σ b=.rows 1 ((l++rest).map cel))(hin:b∈rd)(hn:n=l.length):RI σ rd (.sl b 0 n ex) l:=by
 subst hn;refine Bor.own hb hin (by simp) ?_ QbQ;unfold cut;rw[List.drop_zero,List.map_append,Nat.zero_add,show l.length=(l.map cel).length by simp];exact List.take_left
theorem XaC{σ:List ABlk}{y:Nat}(h:¬y<σ.length):hget σ y=.dead:=by
 induction σ generalizing y with
 |nil=>rfl
 |cons x σ ih=>cases y with
  |zero=>simp at h
  |succ y=>simp only[hget]; exact ih (by simpa using h)
theorem c73{σ:List ABlk}{b c:Nat}{l rest:List Int}{id:Int}(hb:hget σ b=.rows 1 ((l++rest).map cel))(hc:hget σ c=.box [iv id])(hl:l.length≤1000000000){K:AVal→List ABlk→Prop}
 (hK:∀τ rest',τ.length=σ.length→(∀k,k≠b→hget τ k=hget σ k)→hget τ b=.rows 1 ((without id l++rest').map cel)→K (.sl b 0 (without id l).length false) τ) :
  g73 VV [.sl b 0 l.length false,.func (.func 74) [] [.bptr c 0]] σ K:=by
 have hbl:=Zp hb (by simp);have hbc:c≠b:=by rintro rfl; rw[hb] at hc; cases hc
 unfold g73;refine YU (rd:=[b,c]) (c120 l (by rw[bigE]; omega) 74 [] [.rptr [iv id] 0] g74_ok.plain (λx=>decide (x=id)) (λx _=>c74 x id) (λx=>rfl)) rfl g120_ok.plain (.cons (Xb9 hb (by simp) rfl) <| .cons (Bor.func .nil (.cons (Bor.box (Yx hc (by simp)) (by simp) (BorL.ro rfl)) .nil)) .nil) rfl ?_;refine Za (Zf ..) ?_;rcases ZbZ (λx=>decide (x=id)) l 0 with ⟨q1,q2⟩|⟨k,q1,q2,q3,q4⟩
 ·rw[q1];refine Qd ?_;have e:=Zay q2;have:=hK σ rest rfl (λ_ _=>rfl) (by rw[e]; exact hb);rw[e] at this; exact this
 rw[q2,Int.zero_add,decide_eq_false (by omega)];refine Xg (Za (Xi ..) ?_);rw[Qe (n:=k) (by omega)];have hk0:without id (l.take (k+1))=l.take k:=by
  rw[List.take_add_one,without,List.filter_append];have e1:=Zay q3;have hk:l[k]?=some l[k]:=by simp[q1]
  rw[hk] at q4 ⊢;simp only[Option.map_some,Option.some.injEq] at q4;simp only[without] at e1;rw[e1];simp[q4]
 refine Yl (ι:=Nat) (λj vs τ=>∃(m:Nat) (L:List Int),vs=[iv j,iv m]∧j≤l.length∧m<j∧L.length=l.length+rest.length∧L.take m=without id (l.take j)∧(∀i,j≤i→i<l.length→L[i]?=l[i]?)∧hget τ b=.rows 1 (L.map cel)∧τ.length=σ.length∧(∀x,x≠b→hget τ x=hget σ x)) (λj=>l.length-j) (k+1)
  ⟨k,l++rest,rfl,by omega,by omega,by simp,by rw[hk0,List.take_append_of_le_length (by omega)],λi h1 h2=>by rw[List.getElem?_append_left h2],hb,rfl,λ_ _=>rfl⟩ ?_
 rintro j vs τ again ⟨m,L,rfl,hj,hm,hL,ht,hr,hbt,hlt,ho⟩ hag;have hml:m≤L.length:=by omega
 refine Za rfl (Za rfl (Qb (λh=>?_) (λh=>?_)))
 ·have h:j<l.length:=by simpa using h
  have hx:L[j]?=some l[j]:=by rw[hr j (Nat.le_refl _) h]; simp[h]
  have htk:l.take (j+1)=l.take j++[l[j]]:=by rw[List.take_add_one]; simp[h]
  generalize l[j]=x at hx htk;refine Qh λk7 hk7=>?_;refine Za (v:=.ptr b j 0) (rd:=[b]) ?_ ?_
  ·have:=Yay τ b 0 l.length false 1 (L.map cel) .i64 j h hbt;rw[Nat.zero_add] at this; exact this
  refine Za (ldp hbt (row:=cel x) (by rw[List.getElem?_map,hx]; rfl) rfl) ?_;have hct:hget τ c=.box [iv id]:=by rw[ho c hbc]; exact hc
  refine YU (rd:=[c]) (c74 x id) rfl g74_ok.plain (.cons (Bor.ro rfl) <| .cons (Bor.box (Yx hct (by simp)) (by simp) (BorL.ro rfl)) .nil) rfl ?_;refine Za rfl (Qb (λhp=>?_) (λhp=>?_))
  ·refine Za (v:=.ptr b m 0) (rd:=[b]) ?_ ?_
   ·have:=Yay τ b 0 l.length false 1 (L.map cel) .i64 m (by omega) hbt;rw[Nat.zero_add] at this; exact this
   refine Xd (Ycn hbt (by omega) x) (Xo _ (by omega)) (Za (Xi ..) ?_);rw[Qe (n:=m) (by omega),hk7];refine Za (Xi ..) ?_;rw[Qe (n:=j) (by omega)];refine hag (j+1) _ _ (by omega) ⟨m+1,L.set m x,rfl,by omega,by omega,by simpa using hL,?_,λi h1 h2=>?_,Xj _ (by omega),by simpa using hlt,λy hy=>?_⟩
   ·rw[htk,without,List.filter_append,List.take_add_one,List.take_set_of_le (Nat.le_refl _),ht];have:(L.set m x)[m]?=some x:=by simp[show m<L.length by omega]
    rw[this];simp[without,show decide (x=id)=false by simpa using hp]
   ·rw[List.getElem?_set_ne (by omega)]; exact hr i (by omega) h2
   ·by_cases hyl:y<τ.length
    ·rw[Qm _ hyl hy]; exact ho y hy
    ·have e1:hget (τ.set b (.rows 1 ((L.set m x).map cel))) y=.dead:=XaC (by simpa using hyl);have e2:hget τ y=.dead:=XaC hyl;rw[e1,←e2]; exact ho y hy
  ·rw[hk7];refine Za (Xi ..) ?_;rw[Qe (n:=j) (by omega)];refine hag (j+1) _ _ (by omega) ⟨m,L,rfl,by omega,by omega,hL,?_,λi h1 h2=>hr i (by omega) h2,hbt,hlt,ho⟩;rw[htk,without,List.filter_append,ht];simp[without,show decide (x=id)=true by simpa using hp]
 ·have h:j=l.length:=by simp at h; omega
  subst h;rw[List.take_length] at ht;have hmw:(without id l).length=m:=by rw[←ht,List.length_take]; omega
  obtain⟨v,rd,hv,hcase⟩:=ZcA (n:=l.length) (i:=m) (ex:=false) hbt (by omega);have hcase:v=.sl b m (l.length-m) false∧rd=[b]:=by
   rcases hcase with ⟨_,h1,h2⟩|⟨h0,_⟩
   ·exact⟨h1,h2⟩
   ·omega
  obtain⟨rfl,rfl⟩:=hcase;refine Za hv ?_;refine Xd (v:=.junk) (rd:=[]) (up:=[(b,.rows 1 (over m (List.replicate (l.length-m) (cel 0)) (L.map cel)))]) ?_ (Xo _ (by omega)) ?_
  ·show (match hget τ b with
    |.rows s rs=>bif Nat.beq s 1&&Nat.ble (m+(l.length-m)) rs.length then SRes.ok .junk [] [(b,.rows 1 (over m (List.replicate (l.length-m) (cel 0)) rs))] else .stop
    | _=>.stop)=_
   rw[hbt];simp only[Nat.beq_refl,Bool.true_and,Nat.ble_eq_true_of_le (show m+(l.length-m)≤(L.map cel).length by simp; omega),cond_true]
  have hb3:=Xj (σ:=τ) (.rows 1 (over m (List.replicate (l.length-m) (cel 0)) (L.map cel))) (show b<τ.length by omega);refine Za (v:=.sl b 0 m false) (rd:=[b]) ?_ ?_
  ·show (match hget (τ.set b _) b with
    |.rows s _=>bif Nat.beq s 1&&Nat.ble m l.length then SRes.ok (.sl b 0 m false) [b] [] else .stop
    | _=>.stop)=_
   rw[hb3];simp only[Nat.beq_refl,Nat.ble_eq_true_of_le (show m≤l.length by omega),Bool.and_self,cond_true]
  rw[hmw] at hK;refine hK _ (List.replicate (l.length-m) 0++L.drop l.length) (by simpa using hlt) (λy hy=>?_) ?_
  ·by_cases hyl:y<τ.length
   ·rw[Qm _ hyl hy]; exact ho y hy
   ·have e1:hget (τ.set b (.rows 1 (over m (List.replicate (l.length-m) (cel 0)) (L.map cel)))) y=.dead:=XaC (by simpa using hyl);have e2:hget τ y=.dead:=XaC hyl;rw[e1,←e2]; exact ho y hy
  ·rw[hb3]
   congr 1
   unfold over;rw[List.length_replicate,show m+(l.length-m)=l.length by omega,←List.map_take,ht,←List.map_drop];simp
end Go.Ah.Tz
end
section
namespace Go.Ah.Tz
open Go.Proofs.Tryz (prog)
abbrev Qas(x:St)(g0 g1:Nat):List AVal:=[iv x.turn,iv x.mover,iv8 x.phase,.bool x.struck,iv8 x.result,.sl 3 0 x.attack.length false,iv x.next,iv x.s0.life,iv x.s0.mana,iv x.s0.most,.sl 4 0 x.s0.deck.length false,.sl 5 0 x.s0.hand.length false,.sl g0 0 x.s0.grave.length false,.sl 7 0 x.s0.units.length false,.sl 8 0 x.s0.told.length false,iv x.s1.life,iv x.s1.mana,iv x.s1.most,.sl 9 0 x.s1.deck.length false,.sl 10 0 x.s1.hand.length false,.sl g1 0 x.s1.grave.length false,.sl 12 0 x.s1.units.length false,.sl 13 0 x.s1.told.length false]
def evN(e:Ev):List AVal:=[iv8 e.kind,iv e.side,iv e.card,iv e.id,iv e.other,iv e.n,.nils]
def Qz(s:St)(id:Int):St×List Ev:=
 match fnd s.s0.units id with
 |some k=>let u:=(s.s0.units[k]?).getD default
  ({ s with attack:=without id s.attack,s0:={ s.s0 with units:=s.s0.units.eraseIdx k,grave:=s.s0.grave++[u.card] } },[⟨13,0,u.card,id,0,0,[]⟩])
 |none=>match fnd s.s1.units id with
  |some k=>let u:=(s.s1.units[k]?).getD default
   ({ s with attack:=without id s.attack,s1:={ s.s1 with units:=s.s1.units.eraseIdx k,grave:=s.s1.grave++[u.card] } },[⟨13,1,u.card,id,0,0,[]⟩])
  |none=>(s,[])
def buryGo:List Int→St→St×List Ev
 |[],s=>(s,[])
 |id::l,s=>((buryGo l (Qz s id).1).1,(Qz s id).2++(buryGo l (Qz s id).1).2)
def Agr(τ τ':List ABlk)(ex:List Nat):Prop:=τ.length≤τ'.length∧∀c,c<τ.length→c∉ex→hget τ' c=hget τ c
theorem Agr.app(τ l:List ABlk):Agr τ (τ++l) []:=⟨by simp,λc hc _=>XC l hc⟩
theorem Agr.set(τ:List ABlk)(b:Nat)(x:ABlk):Agr τ (τ.set b x) [b]:=⟨by simp,λc hc h=>Qm x hc (by simpa using h)⟩
theorem Agr.trans{a b c:List ABlk}{e f:List Nat}(h:Agr a b e)(k:Agr b c f):Agr a c (e++f):=
 ⟨Nat.le_trans h.1 k.1,λx hx hn=>by
  rw[List.mem_append,not_or] at hn;rw[k.2 x (Nat.lt_of_lt_of_le hx h.1) hn.2,h.2 x hx hn.1]⟩
theorem Agr.get{a b:List ABlk}{e:List Nat}(h:Agr a b e){c:Nat}{x:ABlk}(hx:hget a c=x)(hd:x≠.dead)(hn:c∉e):hget b c=x:=by
 rw[h.2 c (Zp hx hd) hn]; exact hx
structure BMem (b:Bk) (s x:St) (g0 g1:Nat) (τ:List ABlk):Prop where
 k0:hget τ 0=.box (bkC b)
 k1:hget τ 1=.box (stC s)
 k2:hget τ 2=.box zStC
 mv:hget τ 14=.box (.bptr 0 0::Qas x g0 g1)
 at_:∃r,hget τ 3=.rows 1 ((x.attack++r).map cel)
 r4:hget τ 4=.rows 1 (x.s0.deck.map cel)
 r5:hget τ 5=.rows 1 (x.s0.hand.map cel)
 gr0:hget τ g0=.rows 1 (x.s0.grave.map cel)
 r7:∃r,hget τ 7=.rows 4 ((x.s0.units++r).map thC)
 r8:hget τ 8=.rows 1 (x.s0.told.map cel)
 r9:hget τ 9=.rows 1 (x.s1.deck.map cel)
 r10:hget τ 10=.rows 1 (x.s1.hand.map cel)
 gr1:hget τ g1=.rows 1 (x.s1.grave.map cel)
 r12:∃r,hget τ 12=.rows 4 ((x.s1.units++r).map thC)
 r13:hget τ 13=.rows 1 (x.s1.told.map cel)
 n0:g0=6∨15≤g0
 n1:g1=11∨15≤g1
 ne:g0≠g1
def OutV(g0 g1:Nat)(τ:List ABlk)(v:AVal)(evs:List Ev):Prop:=(evs=[]∧v=.nils)∨(evs≠[]∧∃bo,15≤bo∧bo≠g0∧bo≠g1∧v=.sl bo 0 evs.length false∧hget τ bo=.rows 7 (evs.map evN))
theorem XbD{σ:List ABlk}{rd:List Nat}{b:Nat}{ex:Bool}{l rest:List Th}{n:Nat}(hb:hget σ b=.rows 4 ((l++rest).map thC))(hin:b∈rd)(hn:n=l.length):RT σ rd (.sl b 0 n ex) l:=by
 subst hn;refine Bor.own hb hin (by simp) ?_ QcS;unfold cut;rw[List.drop_zero,List.map_append,Nat.zero_add,show l.length=(l.map thC).length by simp];exact List.take_left
theorem BMem.sb{b:Bk}{s x:St}{g0 g1:Nat}{τ:List ABlk}(h:BMem b s x g0 g1 τ):SB τ [3,4,5,g0,7,8,9,10,g1,12,13] (Qas x g0 g1) x:=by
 obtain⟨r,ha⟩:=h.at_;obtain⟨r7,h7⟩:=h.r7;obtain⟨r12,h12⟩:=h.r12;exact SB.mk (s:=x) (Xb9 ha (by simp) rfl) (RI.own h.r4 (by simp) rfl) (RI.own h.r5 (by simp) rfl) (RI.own h.gr0 (by simp) rfl) (XbD h7 (by simp) rfl) (RI.own h.r8 (by simp) rfl) (RI.own h.r9 (by simp) rfl) (RI.own h.r10 (by simp) rfl) (RI.own h.gr1 (by simp) rfl) (XbD h12 (by simp) rfl) (RI.own h.r13 (by simp) rfl)
theorem BMem.more{b:Bk}{s x:St}{g0 g1:Nat}{τ:List ABlk}(h:BMem b s x g0 g1 τ)(l:List ABlk):BMem b s x g0 g1 (τ++l):=by
 have A:=Agr.app τ l;obtain⟨r,ha⟩:=h.at_;obtain⟨r7,h7⟩:=h.r7;obtain⟨r12,h12⟩:=h.r12;exact⟨A.get h.k0 (by simp) (by simp),A.get h.k1 (by simp) (by simp),A.get h.k2 (by simp) (by simp),A.get h.mv (by simp) (by simp),⟨r,A.get ha (by simp) (by simp)⟩,A.get h.r4 (by simp) (by simp),A.get h.r5 (by simp) (by simp),A.get h.gr0 (by simp) (by simp),⟨r7,A.get h7 (by simp) (by simp)⟩,A.get h.r8 (by simp) (by simp),A.get h.r9 (by simp) (by simp),A.get h.r10 (by simp) (by simp),A.get h.gr1 (by simp) (by simp),⟨r12,A.get h12 (by simp) (by simp)⟩,A.get h.r13 (by simp) (by simp),h.n0,h.n1,h.ne⟩
theorem OutV.more{g0 g1:Nat}{τ:List ABlk}{v:AVal}{evs:List Ev}(h:OutV g0 g1 τ v evs)(l:List ABlk):OutV g0 g1 (τ++l) v evs:=by
 rcases h with h|⟨h1,bo,q1,q2,q3,q4,q5⟩
 ·exact .inl h
 ·exact .inr ⟨h1,bo,q1,q2,q3,q4,Ym l q5 (by simp)⟩
attribute [local irreducible] Ans.rd Ans.pu Ans.wr Ans.dr Ans.gr Ans.gw Ans.gl Ans.gd Ans.opt joinK W
set_option maxHeartbeats 4000000
theorem c27(b:Bk)(hf:bkFit b=true)(hsm:Yo b.cards)(s:St)(hs:StLe 2000000 s)(hm:mayR (bkR b).1 b s true=true)(ids:List Int)(hids:ids.length≤1000000):PC 27 [bkV b,stV s,rowV ids] (.tup [stV (buryGo ids s).1,.rsl false false 7 ((buryGo ids s).2.map evN)]):=by
 refine Zq hP g27_ok rfl ?_;unfold g27;refine Xd (v:=.bptr 0 0) (rd:=[]) (up:=[(0,.box (bkC b))]) rfl rfl ?_;refine Xd (v:=.bptr 1 0) (rd:=[]) (up:=[(1,.box (stC s))]) rfl rfl ?_;refine Xd (v:=.bptr 2 0) (rd:=[]) (up:=[(2,.box zStC)]) rfl rfl ?_;refine c56n b hf hsm s (hs.mono (by decide)) (n0:=3) (n:=14) rfl rfl rfl rfl (λh=>by rw[hm] at h; cases h) (λ_=>?_);refine Za rfl (Xg (Za (v:=iv ids.length) (rd:=[]) (by simp[Yg]) ?_));refine Yl (ι:=Nat) (λi vs τ=>(∃(x:St) (g0 g1:Nat) (v:AVal) (evs:List Ev),vs=[iv i,v]∧BMem b s x g0 g1 τ∧OutV g0 g1 τ v evs∧StLe (2000000+i) x∧evs.length≤i∧(buryGo ids s).1=(buryGo (ids.drop i) x).1∧(buryGo ids s).2=evs++(buryGo (ids.drop i) x).2)∧i≤ids.length) (λi=>ids.length-i) 0
  ⟨⟨s,6,11,.nils,[],rfl,⟨rfl,rfl,rfl,rfl,⟨[],by rw[List.append_nil]; rfl⟩,rfl,rfl,rfl,⟨[],by rw[List.append_nil]; rfl⟩,rfl,rfl,rfl,rfl,⟨[],by rw[List.append_nil]; rfl⟩,rfl,.inl rfl,.inl rfl,by decide⟩,.inl ⟨rfl,rfl⟩,hs,by simp,rfl,rfl⟩,by omega⟩ ?_
 rintro i vs τ again ⟨⟨x,g0,g1,v,evs,rfl,hB,hO,hle,hev,e1,e2⟩,hi⟩ hag;refine Za rfl (Qb (λh=>?_) (λh=>?_))
 ·have h:i<ids.length:=by simpa using h
  rw[YLD h,buryGo] at e1 e2;have hix:=λ(t:List ABlk)=>Xq t cel false false 1 ids .i64 i h;generalize ids[i]=id at e1 e2 hix;refine Qh λk11 hk11=>?_;have next:∀(x':St) (g0' g1':Nat) (v':AVal) (evs':List Ev) (τ':List ABlk),BMem b s x' g0' g1' τ'→OutV g0' g1' τ' v' (evs++evs')→StLe (2000000+(i+1)) x'→evs'.length≤1→Qz x id=(x',evs')→k11 [v'] τ':=by
   intro x' g0' g1' v' evs' τ' n1 n2 n3 n4 n5;rw[hk11];refine Za (Xi ..) ?_;rw[Qe (n:=i) (by omega)];rw[n5] at e1 e2;exact hag (i+1) _ _ (by omega) ⟨⟨x',g0',g1',v',evs++evs',rfl,n1,n2,n3,by simp; omega,e1,by rw[e2]; simp⟩,by omega⟩
  clear hk11 hag e1 e2;refine Za (hix _) (Za (ldr rfl) (Zw (row:=[iv id]) (row':=[iv id]) rfl rfl rfl ?_));have hB1:=hB.more [.box [iv id]];have hO1:=hO.more [.box [iv id]];have hN:=Yj τ (.box [iv id]);have lN0:=Zp hB.gr0 (by simp);have lN1:=Zp hB.gr1 (by simp);have lNv:=Zp hB.mv (by simp);have lNo:∀bo n,hget τ bo=.rows 7 n→bo<τ.length:=λbo n h=>Zp h (by simp);have hOb:∀bo k ex,v=.sl bo 0 k ex→bo<τ.length:=by
   rcases hO with ⟨_,rfl⟩|⟨_,bo,_,_,_,rfl,hbo⟩
   ·intro bo k ex h; cases h
   ·intro bo' k ex h; cases h; exact Zp hbo (by simp)
  obtain⟨τ1,hτ1⟩:∃t,τ++[ABlk.box [iv id]]=t:=⟨_,rfl⟩;have lN:τ.length<τ1.length:=by rw[←hτ1]; simp
  rw[hτ1] at hB1 hO1 hN ⊢;generalize τ.length=N at hN lN0 lN1 lNv lNo hOb lN ⊢;clear hτ1 hB hO lNo;have h71:=c71 x (hle.mono (by omega)) id;refine Qg rfl (Qg rfl (Yh (ld hB1.mv rfl) (Qj _) (Yh (ld hN rfl) (Qj _) ?_)));refine X5 (rd:=[3,4,5,g0,7,8,9,10,g1,12,13]) h71 rfl g71_ok.plain (.cons (SB.agg hB1.sb) <| .cons (Bor.ro rfl) .nil) rfl ?_;refine Qg rfl (Qg rfl (Qg rfl (QB (by rfl) ?_)));clear h71;unfold unitR;cases q0:fnd x.s0.units id with
  |some j=>
   obtain⟨u,hj,_⟩:=X4 q0;have hjl:j<x.s0.units.length:=(YLG hj).1;obtain⟨r,hU⟩:=hB1.r7;have hlu:=hle.s0.units;have hlg:=hle.s0.grave;have hla:=hle.attack;have n0:=hB1.n0;have n1:=hB1.n1;have nne:=hB1.ne;have l14:14<τ1.length:=Zp hB1.mv (by simp);have lg:g0<τ1.length:=Zp hB1.gr0 (by simp);have log:g1<τ1.length:=Zp hB1.gr1 (by simp);refine Za rfl (Xg (Za rfl (Za rfl (Za rfl (Za rfl (Za rfl (Za rfl (Za (ld hB1.mv rfl) ?_))))))));refine Za (v:=.ptr 7 j 0) (rd:=[7]) ?_ ?_
   ·have:=Yay τ1 7 0 x.s0.units.length false 4 ((x.s0.units++r).map thC) .i64 j hjl hU;rw[Nat.zero_add] at this; exact this
   refine Za rfl (Za (ldp hU (row:=thC u) (by rw[List.getElem?_map,List.getElem?_append_left hjl,hj]; rfl) rfl) ?_);refine Za rfl (Za rfl (Za (ld hB1.mv rfl) (Za (Xi ..) ?_)));rw[Qe (n:=j) (by omega)];refine Zs hP rfl g72_ok rfl (c72 hU hjl (by omega) ?_);obtain⟨τ2,h2e⟩:∃t,τ1.set 7 (.rows 4 ((x.s0.units.eraseIdx j++zTh::r).map thC))=t:=⟨_,rfl⟩;have A2:=Agr.set τ1 7 (.rows 4 ((x.s0.units.eraseIdx j++zTh::r).map thC));have mU:=Xj (σ:=τ1) (.rows 4 ((x.s0.units.eraseIdx j++zTh::r).map thC)) (show 7<τ1.length by omega);rw[h2e] at A2 mU ⊢;have b2:=A2.get hB1.mv (by simp) (by simp);have lt2:=A2.1;refine Za rfl (Za rfl ?_);obtain⟨τ3,h3e⟩:∃t,τ2.set 14 (.box [.bptr 0 0,iv x.turn,iv x.mover,iv8 x.phase,.bool x.struck,iv8 x.result,.sl 3 0 x.attack.length false,iv x.next,iv x.s0.life,iv x.s0.mana,iv x.s0.most,.sl 4 0 x.s0.deck.length false,.sl 5 0 x.s0.hand.length false,.sl g0 0 x.s0.grave.length false,.sl 7 0 (x.s0.units.length-1) false,.sl 8 0 x.s0.told.length false,iv x.s1.life,iv x.s1.mana,iv x.s1.most,.sl 9 0 x.s1.deck.length false,.sl 10 0 x.s1.hand.length false,.sl g1 0 x.s1.grave.length false,.sl 12 0 x.s1.units.length false,.sl 13 0 x.s1.told.length false])=t:=⟨_,rfl⟩;refine Xd (v:=.junk) (rd:=[]) (up:=[(14,.box [.bptr 0 0,iv x.turn,iv x.mover,iv8 x.phase,.bool x.struck,iv8 x.result,.sl 3 0 x.attack.length false,iv x.next,iv x.s0.life,iv x.s0.mana,iv x.s0.most,.sl 4 0 x.s0.deck.length false,.sl 5 0 x.s0.hand.length false,.sl g0 0 x.s0.grave.length false,.sl 7 0 (x.s0.units.length-1) false,.sl 8 0 x.s0.told.length false,iv x.s1.life,iv x.s1.mana,iv x.s1.most,.sl 9 0 x.s1.deck.length false,.sl 10 0 x.s1.hand.length false,.sl g1 0 x.s1.grave.length false,.sl 12 0 x.s1.units.length false,.sl 13 0 x.s1.told.length false])]) (σ':=τ3) (stv b2 rfl rfl rfl) (by rw[←h3e]; exact Xo _ (by omega)) ?_;have A3:=Agr.set τ2 14 (.box [.bptr 0 0,iv x.turn,iv x.mover,iv8 x.phase,.bool x.struck,iv8 x.result,.sl 3 0 x.attack.length false,iv x.next,iv x.s0.life,iv x.s0.mana,iv x.s0.most,.sl 4 0 x.s0.deck.length false,.sl 5 0 x.s0.hand.length false,.sl g0 0 x.s0.grave.length false,.sl 7 0 (x.s0.units.length-1) false,.sl 8 0 x.s0.told.length false,iv x.s1.life,iv x.s1.mana,iv x.s1.most,.sl 9 0 x.s1.deck.length false,.sl 10 0 x.s1.hand.length false,.sl g1 0 x.s1.grave.length false,.sl 12 0 x.s1.units.length false,.sl 13 0 x.s1.told.length false]);have b3:=Xj (σ:=τ2) (.box [.bptr 0 0,iv x.turn,iv x.mover,iv8 x.phase,.bool x.struck,iv8 x.result,.sl 3 0 x.attack.length false,iv x.next,iv x.s0.life,iv x.s0.mana,iv x.s0.most,.sl 4 0 x.s0.deck.length false,.sl 5 0 x.s0.hand.length false,.sl g0 0 x.s0.grave.length false,.sl 7 0 (x.s0.units.length-1) false,.sl 8 0 x.s0.told.length false,iv x.s1.life,iv x.s1.mana,iv x.s1.most,.sl 9 0 x.s1.deck.length false,.sl 10 0 x.s1.hand.length false,.sl g1 0 x.s1.grave.length false,.sl 12 0 x.s1.units.length false,.sl 13 0 x.s1.told.length false]) (show 14<τ2.length by omega);rw[h3e] at A3 b3;have lt3:=A3.1;have A13:=A2.trans A3;have hg3:=A13.get hB1.gr0 (by simp) (by simp<;>omega);refine Za rfl (Za rfl (Za (ld b3 rfl) ?_));rw[ZB _ _ _ _ _ (cel u.card) rfl rfl,Z6 _ 1 8 τ3 g0 x.s0.grave.length false _ (cel u.card) hg3 (by simp) rfl (by omega)];have A4:=((Agr.set τ3 g0 .dead).trans (Agr.app (τ3.set g0 .dead) [ABlk.rows 1 [cel u.card]])).trans (Agr.app (τ3.set g0 .dead++[ABlk.rows 1 [cel u.card]]) [ABlk.rows 1 (x.s0.grave.map cel++[cel u.card])]);have mG:=Yj (τ3.set g0 .dead++[ABlk.rows 1 [cel u.card]]) (.rows 1 (x.s0.grave.map cel++[cel u.card]));have eG:(τ3.set g0 .dead++[ABlk.rows 1 [cel u.card]]).length=τ3.length+1:=by simp
   have l4:(τ3.set g0 .dead++[ABlk.rows 1 [cel u.card]]++[ABlk.rows 1 (x.s0.grave.map cel++[cel u.card])]).length=τ3.length+2:=by simp
   rw[eG] at mG;generalize τ3.set g0 .dead++[ABlk.rows 1 [cel u.card]]++[ABlk.rows 1 (x.s0.grave.map cel++[cel u.card])]=τ4 at A4 mG l4 ⊢;obtain⟨G,hGe⟩:∃n,τ3.length+1=n:=⟨_,rfl⟩;rw[hGe] at mG ⊢;have b4:=A4.get b3 (by simp) (by simp<;>omega);refine Za rfl (Za rfl ?_);obtain⟨τ5,h5e⟩:∃t,τ4.set 14 (.box [.bptr 0 0,iv x.turn,iv x.mover,iv8 x.phase,.bool x.struck,iv8 x.result,.sl 3 0 x.attack.length false,iv x.next,iv x.s0.life,iv x.s0.mana,iv x.s0.most,.sl 4 0 x.s0.deck.length false,.sl 5 0 x.s0.hand.length false,.sl G 0 (x.s0.grave.length+1) false,.sl 7 0 (x.s0.units.length-1) false,.sl 8 0 x.s0.told.length false,iv x.s1.life,iv x.s1.mana,iv x.s1.most,.sl 9 0 x.s1.deck.length false,.sl 10 0 x.s1.hand.length false,.sl g1 0 x.s1.grave.length false,.sl 12 0 x.s1.units.length false,.sl 13 0 x.s1.told.length false])=t:=⟨_,rfl⟩;refine Xd (v:=.junk) (rd:=[]) (up:=[(14,.box [.bptr 0 0,iv x.turn,iv x.mover,iv8 x.phase,.bool x.struck,iv8 x.result,.sl 3 0 x.attack.length false,iv x.next,iv x.s0.life,iv x.s0.mana,iv x.s0.most,.sl 4 0 x.s0.deck.length false,.sl 5 0 x.s0.hand.length false,.sl G 0 (x.s0.grave.length+1) false,.sl 7 0 (x.s0.units.length-1) false,.sl 8 0 x.s0.told.length false,iv x.s1.life,iv x.s1.mana,iv x.s1.most,.sl 9 0 x.s1.deck.length false,.sl 10 0 x.s1.hand.length false,.sl g1 0 x.s1.grave.length false,.sl 12 0 x.s1.units.length false,.sl 13 0 x.s1.told.length false])]) (σ':=τ5) (stv b4 rfl rfl rfl) (by rw[←h5e]; exact Xo _ (by omega)) ?_;have A5:=Agr.set τ4 14 (.box [.bptr 0 0,iv x.turn,iv x.mover,iv8 x.phase,.bool x.struck,iv8 x.result,.sl 3 0 x.attack.length false,iv x.next,iv x.s0.life,iv x.s0.mana,iv x.s0.most,.sl 4 0 x.s0.deck.length false,.sl 5 0 x.s0.hand.length false,.sl G 0 (x.s0.grave.length+1) false,.sl 7 0 (x.s0.units.length-1) false,.sl 8 0 x.s0.told.length false,iv x.s1.life,iv x.s1.mana,iv x.s1.most,.sl 9 0 x.s1.deck.length false,.sl 10 0 x.s1.hand.length false,.sl g1 0 x.s1.grave.length false,.sl 12 0 x.s1.units.length false,.sl 13 0 x.s1.told.length false]);have b5:=Xj (σ:=τ4) (.box [.bptr 0 0,iv x.turn,iv x.mover,iv8 x.phase,.bool x.struck,iv8 x.result,.sl 3 0 x.attack.length false,iv x.next,iv x.s0.life,iv x.s0.mana,iv x.s0.most,.sl 4 0 x.s0.deck.length false,.sl 5 0 x.s0.hand.length false,.sl G 0 (x.s0.grave.length+1) false,.sl 7 0 (x.s0.units.length-1) false,.sl 8 0 x.s0.told.length false,iv x.s1.life,iv x.s1.mana,iv x.s1.most,.sl 9 0 x.s1.deck.length false,.sl 10 0 x.s1.hand.length false,.sl g1 0 x.s1.grave.length false,.sl 12 0 x.s1.units.length false,.sl 13 0 x.s1.told.length false]) (show 14<τ4.length by omega);have l5:(τ4.set 14 (.box [.bptr 0 0,iv x.turn,iv x.mover,iv8 x.phase,.bool x.struck,iv8 x.result,.sl 3 0 x.attack.length false,iv x.next,iv x.s0.life,iv x.s0.mana,iv x.s0.most,.sl 4 0 x.s0.deck.length false,.sl 5 0 x.s0.hand.length false,.sl G 0 (x.s0.grave.length+1) false,.sl 7 0 (x.s0.units.length-1) false,.sl 8 0 x.s0.told.length false,iv x.s1.life,iv x.s1.mana,iv x.s1.most,.sl 9 0 x.s1.deck.length false,.sl 10 0 x.s1.hand.length false,.sl g1 0 x.s1.grave.length false,.sl 12 0 x.s1.units.length false,.sl 13 0 x.s1.told.length false])).length=τ4.length:=by simp
   rw[h5e] at A5 b5 l5;have A15:=(A13.trans A4).trans A5;obtain⟨ra,hat⟩:=hB1.at_;have hat5:=A15.get hat (by simp) (by simp<;>omega);have hN5:=A15.get hN (by simp) (by simp<;>omega);refine Za rfl (Za rfl (Za rfl (Za (ld b5 rfl) (Za rfl ?_))));refine Zs hP rfl g73_ok rfl (c73 hat5 hN5 (by omega) (λτ6 rest3 l6 o6 m3=>?_));have A6:Agr τ5 τ6 [3]:=⟨by omega,λc _ hc=>o6 c (by simpa using hc)⟩;have b6:=A6.get b5 (by simp) (by simp);refine Za rfl (Za rfl (Za rfl ?_));obtain⟨τ7,h7e⟩:∃t,τ6.set 14 (.box [.bptr 0 0,iv x.turn,iv x.mover,iv8 x.phase,.bool x.struck,iv8 x.result,.sl 3 0 (without id x.attack).length false,iv x.next,iv x.s0.life,iv x.s0.mana,iv x.s0.most,.sl 4 0 x.s0.deck.length false,.sl 5 0 x.s0.hand.length false,.sl G 0 (x.s0.grave.length+1) false,.sl 7 0 (x.s0.units.length-1) false,.sl 8 0 x.s0.told.length false,iv x.s1.life,iv x.s1.mana,iv x.s1.most,.sl 9 0 x.s1.deck.length false,.sl 10 0 x.s1.hand.length false,.sl g1 0 x.s1.grave.length false,.sl 12 0 x.s1.units.length false,.sl 13 0 x.s1.told.length false])=t:=⟨_,rfl⟩;refine Xd (v:=.junk) (rd:=[]) (up:=[(14,.box [.bptr 0 0,iv x.turn,iv x.mover,iv8 x.phase,.bool x.struck,iv8 x.result,.sl 3 0 (without id x.attack).length false,iv x.next,iv x.s0.life,iv x.s0.mana,iv x.s0.most,.sl 4 0 x.s0.deck.length false,.sl 5 0 x.s0.hand.length false,.sl G 0 (x.s0.grave.length+1) false,.sl 7 0 (x.s0.units.length-1) false,.sl 8 0 x.s0.told.length false,iv x.s1.life,iv x.s1.mana,iv x.s1.most,.sl 9 0 x.s1.deck.length false,.sl 10 0 x.s1.hand.length false,.sl g1 0 x.s1.grave.length false,.sl 12 0 x.s1.units.length false,.sl 13 0 x.s1.told.length false])]) (σ':=τ7) (stv b6 rfl rfl rfl) (by rw[←h7e]; exact Xo _ (by omega)) ?_;have A7:=Agr.set τ6 14 (.box [.bptr 0 0,iv x.turn,iv x.mover,iv8 x.phase,.bool x.struck,iv8 x.result,.sl 3 0 (without id x.attack).length false,iv x.next,iv x.s0.life,iv x.s0.mana,iv x.s0.most,.sl 4 0 x.s0.deck.length false,.sl 5 0 x.s0.hand.length false,.sl G 0 (x.s0.grave.length+1) false,.sl 7 0 (x.s0.units.length-1) false,.sl 8 0 x.s0.told.length false,iv x.s1.life,iv x.s1.mana,iv x.s1.most,.sl 9 0 x.s1.deck.length false,.sl 10 0 x.s1.hand.length false,.sl g1 0 x.s1.grave.length false,.sl 12 0 x.s1.units.length false,.sl 13 0 x.s1.told.length false]);have m14:=Xj (σ:=τ6) (.box [.bptr 0 0,iv x.turn,iv x.mover,iv8 x.phase,.bool x.struck,iv8 x.result,.sl 3 0 (without id x.attack).length false,iv x.next,iv x.s0.life,iv x.s0.mana,iv x.s0.most,.sl 4 0 x.s0.deck.length false,.sl 5 0 x.s0.hand.length false,.sl G 0 (x.s0.grave.length+1) false,.sl 7 0 (x.s0.units.length-1) false,.sl 8 0 x.s0.told.length false,iv x.s1.life,iv x.s1.mana,iv x.s1.most,.sl 9 0 x.s1.deck.length false,.sl 10 0 x.s1.hand.length false,.sl g1 0 x.s1.grave.length false,.sl 12 0 x.s1.units.length false,.sl 13 0 x.s1.told.length false]) (show 14<τ6.length by omega);have l7:(τ6.set 14 (.box [.bptr 0 0,iv x.turn,iv x.mover,iv8 x.phase,.bool x.struck,iv8 x.result,.sl 3 0 (without id x.attack).length false,iv x.next,iv x.s0.life,iv x.s0.mana,iv x.s0.most,.sl 4 0 x.s0.deck.length false,.sl 5 0 x.s0.hand.length false,.sl G 0 (x.s0.grave.length+1) false,.sl 7 0 (x.s0.units.length-1) false,.sl 8 0 x.s0.told.length false,iv x.s1.life,iv x.s1.mana,iv x.s1.most,.sl 9 0 x.s1.deck.length false,.sl 10 0 x.s1.hand.length false,.sl g1 0 x.s1.grave.length false,.sl 12 0 x.s1.units.length false,.sl 13 0 x.s1.told.length false])).length=τ6.length:=by simp
   rw[h7e] at A7 m14 l7;have A67:=A6.trans A7;have hN7:=A67.get hN5 (by simp) (by simp<;>omega);refine Za (ld hN7 rfl) (Za rfl ?_);have hE:(x.s0.units.eraseIdx j).length=x.s0.units.length-1:=by rw[List.length_eraseIdx_of_lt hjl]
   have hrow:[.bptr 0 0,iv x.turn,iv x.mover,iv8 x.phase,.bool x.struck,iv8 x.result,.sl 3 0 (without id x.attack).length false,iv x.next,iv x.s0.life,iv x.s0.mana,iv x.s0.most,.sl 4 0 x.s0.deck.length false,.sl 5 0 x.s0.hand.length false,.sl G 0 (x.s0.grave.length+1) false,.sl 7 0 (x.s0.units.length-1) false,.sl 8 0 x.s0.told.length false,iv x.s1.life,iv x.s1.mana,iv x.s1.most,.sl 9 0 x.s1.deck.length false,.sl 10 0 x.s1.hand.length false,.sl g1 0 x.s1.grave.length false,.sl 12 0 x.s1.units.length false,.sl 13 0 x.s1.told.length false]=.bptr 0 0::Qas ({ x with attack:=without id x.attack,s0:={ x.s0 with units:=x.s0.units.eraseIdx j,grave:=x.s0.grave++[u.card] } }) G g1:=by simp[hE]
   have A17:=A15.trans A67;have hone:Qz x id=({ x with attack:=without id x.attack,s0:={ x.s0 with units:=x.s0.units.eraseIdx j,grave:=x.s0.grave++[u.card] } },[(⟨13,0,u.card,id,0,0,[]⟩:Ev)]):=by
    simp only[Qz,q0];rw[hj]; rfl
   have hle2:StLe (2000000+(i+1)) ({ x with attack:=without id x.attack,s0:={ x.s0 with units:=x.s0.units.eraseIdx j,grave:=x.s0.grave++[u.card] } }):=by
    have w:=XaO id x.attack;refine⟨by show (without id x.attack).length≤_; omega,⟨Nat.le_trans hle.s0.deck (by omega),Nat.le_trans hle.s0.hand (by omega),by show (x.s0.grave++[u.card]).length≤_; simp; omega,by show (x.s0.units.eraseIdx j).length≤_; omega,Nat.le_trans hle.s0.told (by omega)⟩,hle.s1.mono (by omega)⟩
   rcases hO1 with ⟨rfl,rfl⟩|⟨hne,bo,o1,o2,o3,rfl,o5⟩
   ·rw[ZB _ _ _ _ _ (evN (⟨13,0,u.card,id,0,0,[]⟩:Ev)) rfl rfl];show VV.wr (Qi 7 72 [AVal.nils,AVal.sl τ7.length 0 1 true] _) _ _;rw[Xai _ 7 72 _ (evN (⟨13,0,u.card,id,0,0,[]⟩:Ev)) rfl (by decide)];have A8:=(Agr.app τ7 [ABlk.rows 7 [evN (⟨13,0,u.card,id,0,0,[]⟩:Ev)]]).trans (Agr.app (τ7++[ABlk.rows 7 [evN (⟨13,0,u.card,id,0,0,[]⟩:Ev)]]) [ABlk.rows 7 [evN (⟨13,0,u.card,id,0,0,[]⟩:Ev)]]);have mO:=Yj (τ7++[ABlk.rows 7 [evN (⟨13,0,u.card,id,0,0,[]⟩:Ev)]]) (.rows 7 [evN (⟨13,0,u.card,id,0,0,[]⟩:Ev)]);rw[show (τ7++[ABlk.rows 7 [evN (⟨13,0,u.card,id,0,0,[]⟩:Ev)]]).length=τ7.length+1 by simp] at mO;generalize τ7++[ABlk.rows 7 [evN (⟨13,0,u.card,id,0,0,[]⟩:Ev)]]++[ABlk.rows 7 [evN (⟨13,0,u.card,id,0,0,[]⟩:Ev)]]=τ8 at A8 mO ⊢;have A18:=A17.trans A8;have AU:=(((A3.trans A4).trans A5).trans A67).trans A8;have AG:=(A5.trans A67).trans A8;have AA:=A7.trans A8;refine next ({ x with attack:=without id x.attack,s0:={ x.s0 with units:=x.s0.units.eraseIdx j,grave:=x.s0.grave++[u.card] } }) G g1 _ [(⟨13,0,u.card,id,0,0,[]⟩:Ev)] τ8 ⟨A18.get hB1.k0 (by simp) (by simp<;>omega),A18.get hB1.k1 (by simp) (by simp<;>omega),A18.get hB1.k2 (by simp) (by simp<;>omega),by rw[hrow] at m14; exact A8.get m14 (by simp) (by simp<;>omega),⟨rest3,AA.get m3 (by simp) (by simp<;>omega)⟩,A18.get hB1.r4 (by simp) (by simp<;>omega),A18.get hB1.r5 (by simp) (by simp<;>omega),by have:=AG.get mG (by simp) (by simp<;>omega); rw[this]; simp,⟨_,AU.get mU (by simp) (by simp<;>omega)⟩,A18.get hB1.r8 (by simp) (by simp<;>omega),A18.get hB1.r9 (by simp) (by simp<;>omega),A18.get hB1.r10 (by simp) (by simp<;>omega),A18.get hB1.gr1 (by simp) (by simp<;>omega),by obtain⟨rr,hrr⟩:=hB1.r12; exact⟨rr,A18.get hrr (by simp) (by simp<;>omega)⟩,A18.get hB1.r13 (by simp) (by simp<;>omega),.inr (by omega),hB1.n1,by omega⟩ (.inr ⟨by simp,τ7.length+1,by omega,by omega,by omega,rfl,mO⟩) hle2 (by simp) hone
   ·have lbo:=Zp o5 (by simp);have ob7:=A17.get o5 (by simp) (by simp<;>omega);rw[ZB _ _ _ _ _ (evN (⟨13,0,u.card,id,0,0,[]⟩:Ev)) rfl rfl];show VV.wr (Qi 7 72 [AVal.sl bo 0 evs.length false,AVal.sl τ7.length 0 1 true] _) _ _;rw[Z6 _ 7 72 τ7 bo evs.length false _ (evN (⟨13,0,u.card,id,0,0,[]⟩:Ev)) ob7 (by simp) rfl (by omega)];have A8:=((Agr.set τ7 bo .dead).trans (Agr.app (τ7.set bo .dead) [ABlk.rows 7 [evN (⟨13,0,u.card,id,0,0,[]⟩:Ev)]])).trans (Agr.app (τ7.set bo .dead++[ABlk.rows 7 [evN (⟨13,0,u.card,id,0,0,[]⟩:Ev)]]) [ABlk.rows 7 (evs.map evN++[evN (⟨13,0,u.card,id,0,0,[]⟩:Ev)])]);have mO:=Yj (τ7.set bo .dead++[ABlk.rows 7 [evN (⟨13,0,u.card,id,0,0,[]⟩:Ev)]]) (.rows 7 (evs.map evN++[evN (⟨13,0,u.card,id,0,0,[]⟩:Ev)]));rw[show (τ7.set bo .dead++[ABlk.rows 7 [evN (⟨13,0,u.card,id,0,0,[]⟩:Ev)]]).length=τ7.length+1 by simp] at mO;generalize τ7.set bo .dead++[ABlk.rows 7 [evN (⟨13,0,u.card,id,0,0,[]⟩:Ev)]]++[ABlk.rows 7 (evs.map evN++[evN (⟨13,0,u.card,id,0,0,[]⟩:Ev)])]=τ8 at A8 mO ⊢;have A18:=A17.trans A8;have AU:=(((A3.trans A4).trans A5).trans A67).trans A8;have AG:=(A5.trans A67).trans A8;have AA:=A7.trans A8;refine next ({ x with attack:=without id x.attack,s0:={ x.s0 with units:=x.s0.units.eraseIdx j,grave:=x.s0.grave++[u.card] } }) G g1 _ [(⟨13,0,u.card,id,0,0,[]⟩:Ev)] τ8 ⟨A18.get hB1.k0 (by simp) (by simp<;>omega),A18.get hB1.k1 (by simp) (by simp<;>omega),A18.get hB1.k2 (by simp) (by simp<;>omega),by rw[hrow] at m14; exact A8.get m14 (by simp) (by simp<;>omega),⟨rest3,AA.get m3 (by simp) (by simp<;>omega)⟩,A18.get hB1.r4 (by simp) (by simp<;>omega),A18.get hB1.r5 (by simp) (by simp<;>omega),by have:=AG.get mG (by simp) (by simp<;>omega); rw[this]; simp,⟨_,AU.get mU (by simp) (by simp<;>omega)⟩,A18.get hB1.r8 (by simp) (by simp<;>omega),A18.get hB1.r9 (by simp) (by simp<;>omega),A18.get hB1.r10 (by simp) (by simp<;>omega),A18.get hB1.gr1 (by simp) (by simp<;>omega),by obtain⟨rr,hrr⟩:=hB1.r12; exact⟨rr,A18.get hrr (by simp) (by simp<;>omega)⟩,A18.get hB1.r13 (by simp) (by simp<;>omega),.inr (by omega),hB1.n1,by omega⟩ (.inr ⟨by simp,τ7.length+1,by omega,by omega,by omega,by simp,by rw[mO]; simp⟩) hle2 (by simp) hone
  |none=>
   cases q1:fnd x.s1.units id with
   |none=>
    refine Za rfl (Qd ?_);exact next x g0 g1 v [] τ1 hB1 (by rw[List.append_nil]; exact hO1) (hle.mono (by omega)) (by simp) (by simp[Qz,q0,q1])
   |some j=>
    obtain⟨u,hj,_⟩:=X4 q1;have hjl:j<x.s1.units.length:=(YLG hj).1;obtain⟨r,hU⟩:=hB1.r12;have hlu:=hle.s1.units;have hlg:=hle.s1.grave;have hla:=hle.attack;have n0:=hB1.n0;have n1:=hB1.n1;have nne:=hB1.ne;have l14:14<τ1.length:=Zp hB1.mv (by simp);have lg:g1<τ1.length:=Zp hB1.gr1 (by simp);have log:g0<τ1.length:=Zp hB1.gr0 (by simp);refine Za rfl (Xg (Za rfl (Za rfl (Za rfl (Za rfl (Za rfl (Za rfl (Za (ld hB1.mv rfl) ?_))))))));refine Za (v:=.ptr 12 j 0) (rd:=[12]) ?_ ?_
    ·have:=Yay τ1 12 0 x.s1.units.length false 4 ((x.s1.units++r).map thC) .i64 j hjl hU;rw[Nat.zero_add] at this; exact this
    refine Za rfl (Za (ldp hU (row:=thC u) (by rw[List.getElem?_map,List.getElem?_append_left hjl,hj]; rfl) rfl) ?_);refine Za rfl (Za rfl (Za (ld hB1.mv rfl) (Za (Xi ..) ?_)));rw[Qe (n:=j) (by omega)];refine Zs hP rfl g72_ok rfl (c72 hU hjl (by omega) ?_);obtain⟨τ2,h2e⟩:∃t,τ1.set 12 (.rows 4 ((x.s1.units.eraseIdx j++zTh::r).map thC))=t:=⟨_,rfl⟩;have A2:=Agr.set τ1 12 (.rows 4 ((x.s1.units.eraseIdx j++zTh::r).map thC));have mU:=Xj (σ:=τ1) (.rows 4 ((x.s1.units.eraseIdx j++zTh::r).map thC)) (show 12<τ1.length by omega);rw[h2e] at A2 mU ⊢;have b2:=A2.get hB1.mv (by simp) (by simp);have lt2:=A2.1;refine Za rfl (Za rfl ?_);obtain⟨τ3,h3e⟩:∃t,τ2.set 14 (.box [.bptr 0 0,iv x.turn,iv x.mover,iv8 x.phase,.bool x.struck,iv8 x.result,.sl 3 0 x.attack.length false,iv x.next,iv x.s0.life,iv x.s0.mana,iv x.s0.most,.sl 4 0 x.s0.deck.length false,.sl 5 0 x.s0.hand.length false,.sl g0 0 x.s0.grave.length false,.sl 7 0 x.s0.units.length false,.sl 8 0 x.s0.told.length false,iv x.s1.life,iv x.s1.mana,iv x.s1.most,.sl 9 0 x.s1.deck.length false,.sl 10 0 x.s1.hand.length false,.sl g1 0 x.s1.grave.length false,.sl 12 0 (x.s1.units.length-1) false,.sl 13 0 x.s1.told.length false])=t:=⟨_,rfl⟩;refine Xd (v:=.junk) (rd:=[]) (up:=[(14,.box [.bptr 0 0,iv x.turn,iv x.mover,iv8 x.phase,.bool x.struck,iv8 x.result,.sl 3 0 x.attack.length false,iv x.next,iv x.s0.life,iv x.s0.mana,iv x.s0.most,.sl 4 0 x.s0.deck.length false,.sl 5 0 x.s0.hand.length false,.sl g0 0 x.s0.grave.length false,.sl 7 0 x.s0.units.length false,.sl 8 0 x.s0.told.length false,iv x.s1.life,iv x.s1.mana,iv x.s1.most,.sl 9 0 x.s1.deck.length false,.sl 10 0 x.s1.hand.length false,.sl g1 0 x.s1.grave.length false,.sl 12 0 (x.s1.units.length-1) false,.sl 13 0 x.s1.told.length false])]) (σ':=τ3) (stv b2 rfl rfl rfl) (by rw[←h3e]; exact Xo _ (by omega)) ?_;have A3:=Agr.set τ2 14 (.box [.bptr 0 0,iv x.turn,iv x.mover,iv8 x.phase,.bool x.struck,iv8 x.result,.sl 3 0 x.attack.length false,iv x.next,iv x.s0.life,iv x.s0.mana,iv x.s0.most,.sl 4 0 x.s0.deck.length false,.sl 5 0 x.s0.hand.length false,.sl g0 0 x.s0.grave.length false,.sl 7 0 x.s0.units.length false,.sl 8 0 x.s0.told.length false,iv x.s1.life,iv x.s1.mana,iv x.s1.most,.sl 9 0 x.s1.deck.length false,.sl 10 0 x.s1.hand.length false,.sl g1 0 x.s1.grave.length false,.sl 12 0 (x.s1.units.length-1) false,.sl 13 0 x.s1.told.length false]);have b3:=Xj (σ:=τ2) (.box [.bptr 0 0,iv x.turn,iv x.mover,iv8 x.phase,.bool x.struck,iv8 x.result,.sl 3 0 x.attack.length false,iv x.next,iv x.s0.life,iv x.s0.mana,iv x.s0.most,.sl 4 0 x.s0.deck.length false,.sl 5 0 x.s0.hand.length false,.sl g0 0 x.s0.grave.length false,.sl 7 0 x.s0.units.length false,.sl 8 0 x.s0.told.length false,iv x.s1.life,iv x.s1.mana,iv x.s1.most,.sl 9 0 x.s1.deck.length false,.sl 10 0 x.s1.hand.length false,.sl g1 0 x.s1.grave.length false,.sl 12 0 (x.s1.units.length-1) false,.sl 13 0 x.s1.told.length false]) (show 14<τ2.length by omega);rw[h3e] at A3 b3;have lt3:=A3.1;have A13:=A2.trans A3;have hg3:=A13.get hB1.gr1 (by simp) (by simp<;>omega);refine Za rfl (Za rfl (Za (ld b3 rfl) ?_));rw[ZB _ _ _ _ _ (cel u.card) rfl rfl,Z6 _ 1 8 τ3 g1 x.s1.grave.length false _ (cel u.card) hg3 (by simp) rfl (by omega)];have A4:=((Agr.set τ3 g1 .dead).trans (Agr.app (τ3.set g1 .dead) [ABlk.rows 1 [cel u.card]])).trans (Agr.app (τ3.set g1 .dead++[ABlk.rows 1 [cel u.card]]) [ABlk.rows 1 (x.s1.grave.map cel++[cel u.card])]);have mG:=Yj (τ3.set g1 .dead++[ABlk.rows 1 [cel u.card]]) (.rows 1 (x.s1.grave.map cel++[cel u.card]));have eG:(τ3.set g1 .dead++[ABlk.rows 1 [cel u.card]]).length=τ3.length+1:=by simp
    have l4:(τ3.set g1 .dead++[ABlk.rows 1 [cel u.card]]++[ABlk.rows 1 (x.s1.grave.map cel++[cel u.card])]).length=τ3.length+2:=by simp
    rw[eG] at mG;generalize τ3.set g1 .dead++[ABlk.rows 1 [cel u.card]]++[ABlk.rows 1 (x.s1.grave.map cel++[cel u.card])]=τ4 at A4 mG l4 ⊢;obtain⟨G,hGe⟩:∃n,τ3.length+1=n:=⟨_,rfl⟩;rw[hGe] at mG ⊢;have b4:=A4.get b3 (by simp) (by simp<;>omega);refine Za rfl (Za rfl ?_);obtain⟨τ5,h5e⟩:∃t,τ4.set 14 (.box [.bptr 0 0,iv x.turn,iv x.mover,iv8 x.phase,.bool x.struck,iv8 x.result,.sl 3 0 x.attack.length false,iv x.next,iv x.s0.life,iv x.s0.mana,iv x.s0.most,.sl 4 0 x.s0.deck.length false,.sl 5 0 x.s0.hand.length false,.sl g0 0 x.s0.grave.length false,.sl 7 0 x.s0.units.length false,.sl 8 0 x.s0.told.length false,iv x.s1.life,iv x.s1.mana,iv x.s1.most,.sl 9 0 x.s1.deck.length false,.sl 10 0 x.s1.hand.length false,.sl G 0 (x.s1.grave.length+1) false,.sl 12 0 (x.s1.units.length-1) false,.sl 13 0 x.s1.told.length false])=t:=⟨_,rfl⟩;refine Xd (v:=.junk) (rd:=[]) (up:=[(14,.box [.bptr 0 0,iv x.turn,iv x.mover,iv8 x.phase,.bool x.struck,iv8 x.result,.sl 3 0 x.attack.length false,iv x.next,iv x.s0.life,iv x.s0.mana,iv x.s0.most,.sl 4 0 x.s0.deck.length false,.sl 5 0 x.s0.hand.length false,.sl g0 0 x.s0.grave.length false,.sl 7 0 x.s0.units.length false,.sl 8 0 x.s0.told.length false,iv x.s1.life,iv x.s1.mana,iv x.s1.most,.sl 9 0 x.s1.deck.length false,.sl 10 0 x.s1.hand.length false,.sl G 0 (x.s1.grave.length+1) false,.sl 12 0 (x.s1.units.length-1) false,.sl 13 0 x.s1.told.length false])]) (σ':=τ5) (stv b4 rfl rfl rfl) (by rw[←h5e]; exact Xo _ (by omega)) ?_;have A5:=Agr.set τ4 14 (.box [.bptr 0 0,iv x.turn,iv x.mover,iv8 x.phase,.bool x.struck,iv8 x.result,.sl 3 0 x.attack.length false,iv x.next,iv x.s0.life,iv x.s0.mana,iv x.s0.most,.sl 4 0 x.s0.deck.length false,.sl 5 0 x.s0.hand.length false,.sl g0 0 x.s0.grave.length false,.sl 7 0 x.s0.units.length false,.sl 8 0 x.s0.told.length false,iv x.s1.life,iv x.s1.mana,iv x.s1.most,.sl 9 0 x.s1.deck.length false,.sl 10 0 x.s1.hand.length false,.sl G 0 (x.s1.grave.length+1) false,.sl 12 0 (x.s1.units.length-1) false,.sl 13 0 x.s1.told.length false]);have b5:=Xj (σ:=τ4) (.box [.bptr 0 0,iv x.turn,iv x.mover,iv8 x.phase,.bool x.struck,iv8 x.result,.sl 3 0 x.attack.length false,iv x.next,iv x.s0.life,iv x.s0.mana,iv x.s0.most,.sl 4 0 x.s0.deck.length false,.sl 5 0 x.s0.hand.length false,.sl g0 0 x.s0.grave.length false,.sl 7 0 x.s0.units.length false,.sl 8 0 x.s0.told.length false,iv x.s1.life,iv x.s1.mana,iv x.s1.most,.sl 9 0 x.s1.deck.length false,.sl 10 0 x.s1.hand.length false,.sl G 0 (x.s1.grave.length+1) false,.sl 12 0 (x.s1.units.length-1) false,.sl 13 0 x.s1.told.length false]) (show 14<τ4.length by omega);have l5:(τ4.set 14 (.box [.bptr 0 0,iv x.turn,iv x.mover,iv8 x.phase,.bool x.struck,iv8 x.result,.sl 3 0 x.attack.length false,iv x.next,iv x.s0.life,iv x.s0.mana,iv x.s0.most,.sl 4 0 x.s0.deck.length false,.sl 5 0 x.s0.hand.length false,.sl g0 0 x.s0.grave.length false,.sl 7 0 x.s0.units.length false,.sl 8 0 x.s0.told.length false,iv x.s1.life,iv x.s1.mana,iv x.s1.most,.sl 9 0 x.s1.deck.length false,.sl 10 0 x.s1.hand.length false,.sl G 0 (x.s1.grave.length+1) false,.sl 12 0 (x.s1.units.length-1) false,.sl 13 0 x.s1.told.length false])).length=τ4.length:=by simp
    rw[h5e] at A5 b5 l5;have A15:=(A13.trans A4).trans A5;obtain⟨ra,hat⟩:=hB1.at_;have hat5:=A15.get hat (by simp) (by simp<;>omega);have hN5:=A15.get hN (by simp) (by simp<;>omega);refine Za rfl (Za rfl (Za rfl (Za (ld b5 rfl) (Za rfl ?_))));refine Zs hP rfl g73_ok rfl (c73 hat5 hN5 (by omega) (λτ6 rest3 l6 o6 m3=>?_));have A6:Agr τ5 τ6 [3]:=⟨by omega,λc _ hc=>o6 c (by simpa using hc)⟩;have b6:=A6.get b5 (by simp) (by simp);refine Za rfl (Za rfl (Za rfl ?_));obtain⟨τ7,h7e⟩:∃t,τ6.set 14 (.box [.bptr 0 0,iv x.turn,iv x.mover,iv8 x.phase,.bool x.struck,iv8 x.result,.sl 3 0 (without id x.attack).length false,iv x.next,iv x.s0.life,iv x.s0.mana,iv x.s0.most,.sl 4 0 x.s0.deck.length false,.sl 5 0 x.s0.hand.length false,.sl g0 0 x.s0.grave.length false,.sl 7 0 x.s0.units.length false,.sl 8 0 x.s0.told.length false,iv x.s1.life,iv x.s1.mana,iv x.s1.most,.sl 9 0 x.s1.deck.length false,.sl 10 0 x.s1.hand.length false,.sl G 0 (x.s1.grave.length+1) false,.sl 12 0 (x.s1.units.length-1) false,.sl 13 0 x.s1.told.length false])=t:=⟨_,rfl⟩;refine Xd (v:=.junk) (rd:=[]) (up:=[(14,.box [.bptr 0 0,iv x.turn,iv x.mover,iv8 x.phase,.bool x.struck,iv8 x.result,.sl 3 0 (without id x.attack).length false,iv x.next,iv x.s0.life,iv x.s0.mana,iv x.s0.most,.sl 4 0 x.s0.deck.length false,.sl 5 0 x.s0.hand.length false,.sl g0 0 x.s0.grave.length false,.sl 7 0 x.s0.units.length false,.sl 8 0 x.s0.told.length false,iv x.s1.life,iv x.s1.mana,iv x.s1.most,.sl 9 0 x.s1.deck.length false,.sl 10 0 x.s1.hand.length false,.sl G 0 (x.s1.grave.length+1) false,.sl 12 0 (x.s1.units.length-1) false,.sl 13 0 x.s1.told.length false])]) (σ':=τ7) (stv b6 rfl rfl rfl) (by rw[←h7e]; exact Xo _ (by omega)) ?_;have A7:=Agr.set τ6 14 (.box [.bptr 0 0,iv x.turn,iv x.mover,iv8 x.phase,.bool x.struck,iv8 x.result,.sl 3 0 (without id x.attack).length false,iv x.next,iv x.s0.life,iv x.s0.mana,iv x.s0.most,.sl 4 0 x.s0.deck.length false,.sl 5 0 x.s0.hand.length false,.sl g0 0 x.s0.grave.length false,.sl 7 0 x.s0.units.length false,.sl 8 0 x.s0.told.length false,iv x.s1.life,iv x.s1.mana,iv x.s1.most,.sl 9 0 x.s1.deck.length false,.sl 10 0 x.s1.hand.length false,.sl G 0 (x.s1.grave.length+1) false,.sl 12 0 (x.s1.units.length-1) false,.sl 13 0 x.s1.told.length false]);have m14:=Xj (σ:=τ6) (.box [.bptr 0 0,iv x.turn,iv x.mover,iv8 x.phase,.bool x.struck,iv8 x.result,.sl 3 0 (without id x.attack).length false,iv x.next,iv x.s0.life,iv x.s0.mana,iv x.s0.most,.sl 4 0 x.s0.deck.length false,.sl 5 0 x.s0.hand.length false,.sl g0 0 x.s0.grave.length false,.sl 7 0 x.s0.units.length false,.sl 8 0 x.s0.told.length false,iv x.s1.life,iv x.s1.mana,iv x.s1.most,.sl 9 0 x.s1.deck.length false,.sl 10 0 x.s1.hand.length false,.sl G 0 (x.s1.grave.length+1) false,.sl 12 0 (x.s1.units.length-1) false,.sl 13 0 x.s1.told.length false]) (show 14<τ6.length by omega);have l7:(τ6.set 14 (.box [.bptr 0 0,iv x.turn,iv x.mover,iv8 x.phase,.bool x.struck,iv8 x.result,.sl 3 0 (without id x.attack).length false,iv x.next,iv x.s0.life,iv x.s0.mana,iv x.s0.most,.sl 4 0 x.s0.deck.length false,.sl 5 0 x.s0.hand.length false,.sl g0 0 x.s0.grave.length false,.sl 7 0 x.s0.units.length false,.sl 8 0 x.s0.told.length false,iv x.s1.life,iv x.s1.mana,iv x.s1.most,.sl 9 0 x.s1.deck.length false,.sl 10 0 x.s1.hand.length false,.sl G 0 (x.s1.grave.length+1) false,.sl 12 0 (x.s1.units.length-1) false,.sl 13 0 x.s1.told.length false])).length=τ6.length:=by simp
    rw[h7e] at A7 m14 l7;have A67:=A6.trans A7;have hN7:=A67.get hN5 (by simp) (by simp<;>omega);refine Za (ld hN7 rfl) (Za rfl ?_);have hE:(x.s1.units.eraseIdx j).length=x.s1.units.length-1:=by rw[List.length_eraseIdx_of_lt hjl]
    have hrow:[.bptr 0 0,iv x.turn,iv x.mover,iv8 x.phase,.bool x.struck,iv8 x.result,.sl 3 0 (without id x.attack).length false,iv x.next,iv x.s0.life,iv x.s0.mana,iv x.s0.most,.sl 4 0 x.s0.deck.length false,.sl 5 0 x.s0.hand.length false,.sl g0 0 x.s0.grave.length false,.sl 7 0 x.s0.units.length false,.sl 8 0 x.s0.told.length false,iv x.s1.life,iv x.s1.mana,iv x.s1.most,.sl 9 0 x.s1.deck.length false,.sl 10 0 x.s1.hand.length false,.sl G 0 (x.s1.grave.length+1) false,.sl 12 0 (x.s1.units.length-1) false,.sl 13 0 x.s1.told.length false]=.bptr 0 0::Qas ({ x with attack:=without id x.attack,s1:={ x.s1 with units:=x.s1.units.eraseIdx j,grave:=x.s1.grave++[u.card] } }) g0 G:=by simp[hE]
    have A17:=A15.trans A67;have hone:Qz x id=({ x with attack:=without id x.attack,s1:={ x.s1 with units:=x.s1.units.eraseIdx j,grave:=x.s1.grave++[u.card] } },[(⟨13,1,u.card,id,0,0,[]⟩:Ev)]):=by
     simp only[Qz,q0,q1];rw[hj]; rfl
    have hle2:StLe (2000000+(i+1)) ({ x with attack:=without id x.attack,s1:={ x.s1 with units:=x.s1.units.eraseIdx j,grave:=x.s1.grave++[u.card] } }):=by
     have w:=XaO id x.attack;refine⟨by show (without id x.attack).length≤_; omega,hle.s0.mono (by omega),⟨Nat.le_trans hle.s1.deck (by omega),Nat.le_trans hle.s1.hand (by omega),by show (x.s1.grave++[u.card]).length≤_; simp; omega,by show (x.s1.units.eraseIdx j).length≤_; omega,Nat.le_trans hle.s1.told (by omega)⟩⟩
    rcases hO1 with ⟨rfl,rfl⟩|⟨hne,bo,o1,o2,o3,rfl,o5⟩
    ·rw[ZB _ _ _ _ _ (evN (⟨13,1,u.card,id,0,0,[]⟩:Ev)) rfl rfl];show VV.wr (Qi 7 72 [AVal.nils,AVal.sl τ7.length 0 1 true] _) _ _;rw[Xai _ 7 72 _ (evN (⟨13,1,u.card,id,0,0,[]⟩:Ev)) rfl (by decide)];have A8:=(Agr.app τ7 [ABlk.rows 7 [evN (⟨13,1,u.card,id,0,0,[]⟩:Ev)]]).trans (Agr.app (τ7++[ABlk.rows 7 [evN (⟨13,1,u.card,id,0,0,[]⟩:Ev)]]) [ABlk.rows 7 [evN (⟨13,1,u.card,id,0,0,[]⟩:Ev)]]);have mO:=Yj (τ7++[ABlk.rows 7 [evN (⟨13,1,u.card,id,0,0,[]⟩:Ev)]]) (.rows 7 [evN (⟨13,1,u.card,id,0,0,[]⟩:Ev)]);rw[show (τ7++[ABlk.rows 7 [evN (⟨13,1,u.card,id,0,0,[]⟩:Ev)]]).length=τ7.length+1 by simp] at mO;generalize τ7++[ABlk.rows 7 [evN (⟨13,1,u.card,id,0,0,[]⟩:Ev)]]++[ABlk.rows 7 [evN (⟨13,1,u.card,id,0,0,[]⟩:Ev)]]=τ8 at A8 mO ⊢;have A18:=A17.trans A8;have AU:=(((A3.trans A4).trans A5).trans A67).trans A8;have AG:=(A5.trans A67).trans A8;have AA:=A7.trans A8;refine next ({ x with attack:=without id x.attack,s1:={ x.s1 with units:=x.s1.units.eraseIdx j,grave:=x.s1.grave++[u.card] } }) g0 G _ [(⟨13,1,u.card,id,0,0,[]⟩:Ev)] τ8 ⟨A18.get hB1.k0 (by simp) (by simp<;>omega),A18.get hB1.k1 (by simp) (by simp<;>omega),A18.get hB1.k2 (by simp) (by simp<;>omega),by rw[hrow] at m14; exact A8.get m14 (by simp) (by simp<;>omega),⟨rest3,AA.get m3 (by simp) (by simp<;>omega)⟩,A18.get hB1.r4 (by simp) (by simp<;>omega),A18.get hB1.r5 (by simp) (by simp<;>omega),A18.get hB1.gr0 (by simp) (by simp<;>omega),by obtain⟨rr,hrr⟩:=hB1.r7; exact⟨rr,A18.get hrr (by simp) (by simp<;>omega)⟩,A18.get hB1.r8 (by simp) (by simp<;>omega),A18.get hB1.r9 (by simp) (by simp<;>omega),A18.get hB1.r10 (by simp) (by simp<;>omega),by have:=AG.get mG (by simp) (by simp<;>omega); rw[this]; simp,⟨_,AU.get mU (by simp) (by simp<;>omega)⟩,A18.get hB1.r13 (by simp) (by simp<;>omega),hB1.n0,.inr (by omega),by omega⟩ (.inr ⟨by simp,τ7.length+1,by omega,by omega,by omega,rfl,mO⟩) hle2 (by simp) hone
    ·have lbo:=Zp o5 (by simp);have ob7:=A17.get o5 (by simp) (by simp<;>omega);rw[ZB _ _ _ _ _ (evN (⟨13,1,u.card,id,0,0,[]⟩:Ev)) rfl rfl];show VV.wr (Qi 7 72 [AVal.sl bo 0 evs.length false,AVal.sl τ7.length 0 1 true] _) _ _;rw[Z6 _ 7 72 τ7 bo evs.length false _ (evN (⟨13,1,u.card,id,0,0,[]⟩:Ev)) ob7 (by simp) rfl (by omega)];have A8:=((Agr.set τ7 bo .dead).trans (Agr.app (τ7.set bo .dead) [ABlk.rows 7 [evN (⟨13,1,u.card,id,0,0,[]⟩:Ev)]])).trans (Agr.app (τ7.set bo .dead++[ABlk.rows 7 [evN (⟨13,1,u.card,id,0,0,[]⟩:Ev)]]) [ABlk.rows 7 (evs.map evN++[evN (⟨13,1,u.card,id,0,0,[]⟩:Ev)])]);have mO:=Yj (τ7.set bo .dead++[ABlk.rows 7 [evN (⟨13,1,u.card,id,0,0,[]⟩:Ev)]]) (.rows 7 (evs.map evN++[evN (⟨13,1,u.card,id,0,0,[]⟩:Ev)]));rw[show (τ7.set bo .dead++[ABlk.rows 7 [evN (⟨13,1,u.card,id,0,0,[]⟩:Ev)]]).length=τ7.length+1 by simp] at mO;generalize τ7.set bo .dead++[ABlk.rows 7 [evN (⟨13,1,u.card,id,0,0,[]⟩:Ev)]]++[ABlk.rows 7 (evs.map evN++[evN (⟨13,1,u.card,id,0,0,[]⟩:Ev)])]=τ8 at A8 mO ⊢;have A18:=A17.trans A8;have AU:=(((A3.trans A4).trans A5).trans A67).trans A8;have AG:=(A5.trans A67).trans A8;have AA:=A7.trans A8;refine next ({ x with attack:=without id x.attack,s1:={ x.s1 with units:=x.s1.units.eraseIdx j,grave:=x.s1.grave++[u.card] } }) g0 G _ [(⟨13,1,u.card,id,0,0,[]⟩:Ev)] τ8 ⟨A18.get hB1.k0 (by simp) (by simp<;>omega),A18.get hB1.k1 (by simp) (by simp<;>omega),A18.get hB1.k2 (by simp) (by simp<;>omega),by rw[hrow] at m14; exact A8.get m14 (by simp) (by simp<;>omega),⟨rest3,AA.get m3 (by simp) (by simp<;>omega)⟩,A18.get hB1.r4 (by simp) (by simp<;>omega),A18.get hB1.r5 (by simp) (by simp<;>omega),A18.get hB1.gr0 (by simp) (by simp<;>omega),by obtain⟨rr,hrr⟩:=hB1.r7; exact⟨rr,A18.get hrr (by simp) (by simp<;>omega)⟩,A18.get hB1.r8 (by simp) (by simp<;>omega),A18.get hB1.r9 (by simp) (by simp<;>omega),A18.get hB1.r10 (by simp) (by simp<;>omega),by have:=AG.get mG (by simp) (by simp<;>omega); rw[this]; simp,⟨_,AU.get mU (by simp) (by simp<;>omega)⟩,A18.get hB1.r13 (by simp) (by simp<;>omega),hB1.n0,.inr (by omega),by omega⟩ (.inr ⟨by simp,τ7.length+1,by omega,by omega,by omega,by simp,by rw[mO]; simp⟩) hle2 (by simp) hone
 ·have h:i=ids.length:=by simp at h; omega
  subst h;rw[List.drop_length,buryGo] at e1 e2;refine Za rfl (Za rfl (Za (ld hB.mv rfl) ?_));have l2:=Zp hB.k2 (by simp);refine Xd (v:=.junk) (rd:=[]) (up:=[(2,.box (Qas x g0 g1))]) (stv hB.k2 rfl rfl rfl) (Xo _ l2) (Yi (Y6 (Xj _ l2) rfl) ?_);have A:=Agr.set τ 2 (.box (Qas x g0 g1));obtain⟨r,ha⟩:=hB.at_;obtain⟨r7,h7⟩:=hB.r7;obtain⟨r12,h12⟩:=hB.r12;have n0:=hB.n0;have n1:=hB.n1;simp only at e1 e2;rw[e1,e2,List.append_nil];have hS:∀rd,(∀c∈[3,4,5,g0,7,8,9,10,g1,12,13],c∈rd)→SB (τ.set 2 (.box (Qas x g0 g1))) rd (Qas x g0 g1) x:=λrd hrd=>
   SB.mk (s:=x) (Xb9 (A.get ha (by simp) (by simp)) (hrd _ (by simp)) rfl) (RI.own (A.get hB.r4 (by simp) (by simp)) (hrd _ (by simp)) rfl) (RI.own (A.get hB.r5 (by simp) (by simp)) (hrd _ (by simp)) rfl) (RI.own (A.get hB.gr0 (by simp) (by simp<;>omega)) (hrd _ (by simp)) rfl) (XbD (A.get h7 (by simp) (by simp)) (hrd _ (by simp)) rfl) (RI.own (A.get hB.r8 (by simp) (by simp)) (hrd _ (by simp)) rfl)
    (RI.own (A.get hB.r9 (by simp) (by simp)) (hrd _ (by simp)) rfl) (RI.own (A.get hB.r10 (by simp) (by simp)) (hrd _ (by simp)) rfl) (RI.own (A.get hB.gr1 (by simp) (by simp<;>omega)) (hrd _ (by simp)) rfl) (XbD (A.get h12 (by simp) (by simp)) (hrd _ (by simp)) rfl) (RI.own (A.get hB.r13 (by simp) (by simp)) (hrd _ (by simp)) rfl)
  rcases hO with ⟨rfl,rfl⟩|⟨_,bo,o1,o2,o3,rfl,o5⟩
  ·refine⟨_,Bor.tup (.cons (SB.agg (hS _ λc hc=>hc)) <| .cons (Bor.weak (Bor.ro rfl) (λM u d=>d.nils_rsl 7)) .nil)⟩
  ·have hro:∀l:List Ev,∀r∈l.map evN,roL r=true:=by
    intro l r hr;obtain⟨e,_,rfl⟩:=List.mem_map.1 hr; rfl
   refine⟨bo::[3,4,5,g0,7,8,9,10,g1,12,13],Bor.tup (.cons (SB.agg (hS _ λc hc=>List.mem_cons_of_mem _ hc)) <| .cons (Bor.own (A.get o5 (by simp) (by simp<;>omega)) (by simp) (by simp) (YaG _ _ (by simp)) (hro _)) .nil)⟩
end Go.Ah.Tz
end
section
namespace Go.Ah.Tz
theorem QJ{n:Nat}{l:List Int}{most:Int}:Qo n l most=true↔(l.length:Int)≤most∧∀c∈l,0≤c∧c<n:=by
 simp[Qo,List.all_eq_true]
structure SideP (b:Bk) (x:Sd):Prop where
 life:wIn x.life=true
 mana:0≤x.mana∧wIn x.mana=true
 most:0≤x.most∧x.most≤10
 deck:Qo b.cards.length x.deck 60=true
 hand:Qo b.cards.length x.hand 10=true
 grave:Qo b.cards.length x.grave 1000000=true
 told:Qo b.cards.length x.told 1000000=true
 units:x.units.length≤7
theorem Qce{b:Bk}{x:Sd}:Xm b.cards.length x=true↔SideP b x:=by
 simp only[Xm,Bool.and_eq_true,decide_eq_true_eq];constructor
 ·rintro⟨h1,h2,h3,h4,h5,h6,h7,h8,h9,h10⟩;exact⟨h1,⟨h2,h3⟩,⟨h4,h5⟩,h6,h7,h8,h9,by omega⟩
 ·rintro⟨h1,⟨h2,h3⟩,⟨h4,h5⟩,h6,h7,h8,h9,h10⟩;exact⟨h1,h2,h3,h4,h5,h6,h7,h8,h9,by omega⟩
theorem Zah{b:Bk}{next:Int}:∀ {l:List Th} {ids:List Int},Qr b next ids l=true↔(∀u∈l,Qq b next u=true)∧(l.map Th.id).Nodup∧∀u∈l,u.id∉ids
 |[],ids=>by simp[Qr]
 |u::l,ids=>by
  simp only[Qr,Bool.and_eq_true,Zah (l:=l),Bool.not_eq_true',List.map_cons,List.nodup_cons,List.mem_cons,forall_eq_or_imp,List.mem_append,not_or];have hc:ids.contains u.id=false↔u.id∉ids:=by simp
  rw[hc];constructor
  ·rintro⟨h1,h2,h3,h4,h5⟩;refine⟨⟨h1,h3⟩,⟨?_,h4⟩,h2,λv hv=>(h5 v hv).1⟩;intro hm;obtain⟨v,hv,e⟩:=List.mem_map.1 hm;exact(h5 v hv).2.1 e
  ·rintro⟨⟨h1,h3⟩,⟨h6,h4⟩,h2,h5⟩;exact⟨h1,h2,h3,h4,λv hv=>⟨h5 v hv,λe=>h6 (List.mem_map.2 ⟨v,hv,e⟩),by simp⟩⟩
def UnP(b:Bk)(s:St):Prop:=(∀u∈s.s0.units++s.s1.units,Qq b s.next u=true)∧((s.s0.units++s.s1.units).map Th.id).Nodup
theorem Zcj{b:Bk}{s:St}:(Qr b s.next [] s.s0.units=true∧Qr b s.next (s.s0.units.map Th.id) s.s1.units=true)↔UnP b s:=by
 rw[Zah,Zah,UnP,List.map_append,List.nodup_append];constructor
 ·rintro⟨⟨h1,h2,_⟩,h3,h4,h5⟩;refine⟨λu hu=>?_,h2,h4,λa ha c hc e=>?_⟩
  ·rcases List.mem_append.1 hu with hu|hu
   ·exact h1 u hu
   ·exact h3 u hu
  ·subst e;obtain⟨v,hv,rfl⟩:=List.mem_map.1 hc;exact h5 v hv ha
 ·rintro⟨h1,h2,h3,h4⟩;refine⟨⟨λu hu=>h1 u (List.mem_append_left _ hu),h2,by simp⟩,λu hu=>h1 u (List.mem_append_right _ hu),h3,λu hu hm=>h4 _ hm _ (List.mem_map.2 ⟨u,hu,rfl⟩) rfl⟩
theorem QaE{s:St}:∀ {l prev:List Int},attOk s prev l=true↔(∀a∈l,(unitR s a).2.2=true∧(unitR s a).1=s.mover)∧l.Nodup∧∀a∈l,a∉prev
 |[],prev=>by simp[attOk]
 |a::l,prev=>by
  simp only[attOk,Bool.and_eq_true,QaE (l:=l),decide_eq_true_eq,Bool.not_eq_true',List.nodup_cons,List.mem_cons,forall_eq_or_imp,List.mem_append,not_or];have hc:prev.contains a=false↔a∉prev:=by simp
  rw[hc];constructor
  ·rintro⟨h1,h2,h3,h4,h5⟩;exact⟨⟨h1,h3⟩,⟨λhm=>(h5 a hm).2.1 rfl,h4⟩,h2,λc hc=>(h5 c hc).1⟩
  ·rintro⟨⟨h1,h3⟩,⟨h6,h4⟩,h2,h5⟩;exact⟨h1,h2,h3,h4,λc hc=>⟨h5 c hc,λe=>h6 (e▸hc),by simp⟩⟩
def AtP(s:St):Prop:=(s.phase≠1→s.attack=[])∧(s.phase=1→s.struck=true∧s.attack.length≤7∧s.attack.Nodup∧∀a∈s.attack,(unitR s a).2.2=true∧(unitR s a).1=s.mover)
def HdP(s:St):Prop:=1≤s.turn∧s.turn≤4096∧0≤s.mover∧s.mover≤1∧0≤s.phase∧s.phase≤2∧0≤s.result∧s.result≤3∧((s.result==0)==(s.phase != 2))=true∧1≤s.next∧s.next≤1000000
structure MayP (b:Bk) (s:St):Prop where
 hd:HdP s
 s0:SideP b s.s0
 s1:SideP b s.s1
 un:UnP b s
 at_:AtP s
theorem Yaq{e:Int}{b:Bk}{s:St}:mayR e b s true=true↔e=0∧MayP b s:=by
 simp only[mayR,Zu,Bool.and_eq_true,decide_eq_true_eq,Qce];constructor
 ·rintro⟨h1,h2,h3,h4,h5,h6,h7,h8,h9,h10,h11,h12,⟨k1,k2,k3,k4⟩,h14⟩;refine⟨h1,⟨h2,h3,h4,h5,h6,h7,h8,h9,h10,h11,h12⟩,k1,k3,Zcj.1 ⟨k2,k4⟩,?_,?_⟩
  ·intro hp;rw[if_pos hp] at h14;exact List.length_eq_zero_iff.1 (of_decide_eq_true h14)
  ·intro hp;rw[if_neg (by simpa using hp)] at h14;simp only[Bool.and_eq_true,decide_eq_true_eq] at h14;obtain⟨_,q1,q2,q3⟩:=h14;obtain⟨r1,r2,_⟩:=QaE.1 q3;exact⟨q1,by omega,r2,r1⟩
 ·rintro⟨h1,⟨h2,h3,h4,h5,h6,h7,h8,h9,h10,h11,h12⟩,k1,k3,hu,ha1,ha2⟩;obtain⟨k2,k4⟩:=Zcj.2 hu;refine⟨h1,h2,h3,h4,h5,h6,h7,h8,h9,h10,h11,h12,⟨k1,k2,k3,k4⟩,?_⟩;by_cases hp:s.phase≠1
  ·rw[if_pos hp,ha1 hp]; rfl
  ·rw[if_neg hp];obtain⟨q1,q2,q3,q4⟩:=ha2 (by simpa using hp);simp only[Bool.and_eq_true,decide_eq_true_eq];exact⟨by simp,q1,by omega,QaE.2 ⟨q4,q3,by simp⟩⟩
def Xn(s:St):Int:=((s.s0.deck.length:Int)+s.s0.hand.length+s.s0.grave.length+s.s0.units.length)+(s.s1.deck.length+s.s1.hand.length+s.s1.grave.length+s.s1.units.length)
theorem QU{n:Nat}{c:Int}{l:List Int}{most:Int}(h:Qo n (c::l) most=true):Qo n l most=true∧0≤c∧c<n:=by
 rw[QJ] at h ⊢;obtain⟨h1,h2⟩:=h;simp only[List.length_cons] at h1;exact⟨⟨by omega,λx hx=>h2 x (List.mem_cons_of_mem _ hx)⟩,h2 c (List.mem_cons_self ..)⟩
theorem Qt{n:Nat}{c:Int}{l:List Int}{most:Int}(h:Qo n l most=true)(hc:0≤c∧c<n)(hl:(l.length:Int)+1≤most):Qo n (l++[c]) most=true:=by
 rw[QJ] at h ⊢;refine⟨by simp; omega,λx hx=>?_⟩;rcases List.mem_append.1 hx with hx|hx
 ·exact h.2 x hx
 ·rw[List.mem_singleton.1 hx]; exact hc
theorem ZaI{l:List Th}{a:Int}:fnd l a=none↔a∉l.map Th.id:=by
 rw[fnd,List.findIdx?_eq_none_iff];simp
def InS(s:St)(a k:Int):Prop:=(unitR s a).2.2=true∧(unitR s a).1=k
theorem inS0{s:St}{a:Int}:InS s a 0↔a∈s.s0.units.map Th.id:=by
 unfold InS unitR;have h:=ZaI (l:=s.s0.units) (a:=a);cases e:fnd s.s0.units a with
 |some k=>simp only[e] at h ⊢; simp at h ⊢; exact h
 |none=>
  simp only[e] at h ⊢;have h':=h.1 trivial;constructor
  ·intro hh;cases e1:fnd s.s1.units a with
   |some k=>rw[e1] at hh; have:=hh.2; simp at this
   |none=>rw[e1] at hh; have:=hh.1; simp at this
  ·intro hm; exact absurd hm h'
theorem inS1{s:St}{a:Int}:InS s a 1↔a∉s.s0.units.map Th.id∧a∈s.s1.units.map Th.id:=by
 unfold InS unitR;have h:=ZaI (l:=s.s0.units) (a:=a);have h1:=ZaI (l:=s.s1.units) (a:=a);cases e:fnd s.s0.units a with
 |some k=>
  simp only[e] at h ⊢;constructor
  ·intro hh; have:=hh.2; simp at this
  ·intro hh; have:=h.2 hh.1; simp at this
 |none=>
  simp only[e] at h ⊢;cases e1:fnd s.s1.units a with
  |some k=>simp only[e1] at h1 ⊢; simp at h h1 ⊢; exact⟨h,h1⟩
  |none=>
   simp only[e1] at h1 ⊢;constructor
   ·intro hh; have:=hh.1; simp at this
   ·intro hh; exact absurd hh.2 (h1.1 trivial)
theorem Qan{s t:St}(h:AtP s)(hm:0≤s.mover∧s.mover≤1)(e1:t.phase=s.phase)(e2:t.struck=s.struck)(e3:t.mover=s.mover)(hs:t.attack.Sublist s.attack)
 (k0:∀a∈t.attack,a∈s.s0.units.map Th.id→a∈t.s0.units.map Th.id)(k1:∀a∈t.attack,a∈s.s1.units.map Th.id→a∉s.s0.units.map Th.id→a∈t.s1.units.map Th.id∧a∉t.s0.units.map Th.id):AtP t:=by
 refine⟨λhp=>?_,λhp=>?_⟩
 ·have:=h.1 (by rw[←e1]; exact hp);rw[this] at hs;exact List.sublist_nil.1 hs
 ·obtain⟨q1,q2,q3,q4⟩:=h.2 (by rw[←e1]; exact hp);refine⟨by rw[e2]; exact q1,Nat.le_trans hs.length_le q2,q3.sublist hs,λa ha=>?_⟩;have hq:=q4 a (hs.subset ha);rw[e3];rcases (show s.mover=0∨s.mover=1 by omega) with e|e
  ·rw[e] at hq ⊢;exact inS0.2 (k0 a ha (inS0.1 hq))
  ·rw[e] at hq ⊢;obtain⟨r1,r2⟩:=inS1.1 hq;obtain⟨t1,t2⟩:=k1 a ha r2 r1;exact inS1.2 ⟨t2,t1⟩
theorem Zbo(s:St)(h:(drawF s 0).2.2=0):(wIn (s.s0.life-1)=true∧drawF s 0=({ s with s0:={ s.s0 with life:=s.s0.life-1 } },⟨3,0,-1,0,0,0,[]⟩,0)) ∨
  (∃c l,s.s0.deck=c::l∧drawF s 0=({ s with s0:={ s.s0 with deck:=l,grave:=s.s0.grave++[c],told:=s.s0.told++[c] },s1:={ s.s1 with told:=s.s1.told++[c] } },⟨4,0,c,0,0,0,[]⟩,0))∨(∃c l,s.s0.deck=c::l∧s.s0.hand.length<10∧drawF s 0=({ s with s0:={ s.s0 with deck:=l,hand:=s.s0.hand++[c],told:=s.s0.told++[c] } },⟨3,0,c,0,0,0,[]⟩,0)):=by
 cases hd:s.s0.deck with
 |nil=>
  have e:drawF s 0=if wIn (s.s0.life-1) then ({ s with s0:={ s.s0 with life:=s.s0.life-1 } },⟨3,0,-1,0,0,0,[]⟩,0) else (zSt,zEv,171):=by
   show (match s.s0.deck with | []=>_|c::l=>_)=_;rw[hd]; rfl
  by_cases hw:wIn (s.s0.life-1)=true
  ·left; exact⟨hw,by rw[e,if_pos hw]⟩
  ·rw[e,if_neg hw] at h; exact absurd h (by decide)
 |cons c l=>
  right;by_cases hh:10≤s.s0.hand.length
  ·left;refine⟨c,l,rfl,?_⟩;show (match s.s0.deck with | []=>_|c::l=>_)=_;rw[hd]; show (if 10≤s.s0.hand.length then _ else _)=_;rw[if_pos hh]; rfl
  ·right;refine⟨c,l,rfl,by omega,?_⟩;show (match s.s0.deck with | []=>_|c::l=>_)=_;rw[hd]; show (if 10≤s.s0.hand.length then _ else _)=_;rw[if_neg hh]; rfl
theorem Xbo{b:Bk}{s:St}(hM:MayP b s)(h:(drawF s 0).2.2=0)(g0:s.s0.grave.length<1000000)(t0:s.s0.told.length<1000000)(t1:s.s1.told.length<1000000):MayP b (drawF s 0).1∧Xn (drawF s 0).1=Xn s:=by
 have S:=hM.s0;rcases Zbo s h with ⟨hw,e⟩|⟨c,l,hd,e⟩|⟨c,l,hd,hh,e⟩
 ·rw[e];refine⟨⟨hM.hd,⟨hw,S.mana,S.most,S.deck,S.hand,S.grave,S.told,S.units⟩,hM.s1,hM.un,hM.at_⟩,rfl⟩
 ·rw[e];have hdk:=S.deck;rw[hd] at hdk;obtain⟨d1,d2⟩:=QU hdk;have hl:s.s0.deck.length=l.length+1:=by rw[hd]; rfl
  refine⟨⟨hM.hd,⟨S.life,S.mana,S.most,d1,S.hand,Qt S.grave d2 (by omega),Qt S.told d2 (by omega),S.units⟩,⟨hM.s1.life,hM.s1.mana,hM.s1.most,hM.s1.deck,hM.s1.hand,hM.s1.grave,Qt hM.s1.told d2 (by omega),hM.s1.units⟩,hM.un,hM.at_⟩,by simp[Xn,hl]; omega⟩
 ·rw[e];have hdk:=S.deck;rw[hd] at hdk;obtain⟨d1,d2⟩:=QU hdk;have hl:s.s0.deck.length=l.length+1:=by rw[hd]; rfl
  refine⟨⟨hM.hd,⟨S.life,S.mana,S.most,d1,Qt S.hand d2 (by omega),S.grave,Qt S.told d2 (by omega),S.units⟩,hM.s1,hM.un,hM.at_⟩,by simp[Xn,hl]; omega⟩
theorem Ybo(s:St)(h:(drawF s 1).2.2=0):(wIn (s.s1.life-1)=true∧drawF s 1=({ s with s1:={ s.s1 with life:=s.s1.life-1 } },⟨3,1,-1,0,0,0,[]⟩,0)) ∨
  (∃c l,s.s1.deck=c::l∧drawF s 1=({ s with s1:={ s.s1 with deck:=l,grave:=s.s1.grave++[c],told:=s.s1.told++[c] },s0:={ s.s0 with told:=s.s0.told++[c] } },⟨4,1,c,0,0,0,[]⟩,0))∨(∃c l,s.s1.deck=c::l∧s.s1.hand.length<10∧drawF s 1=({ s with s1:={ s.s1 with deck:=l,hand:=s.s1.hand++[c],told:=s.s1.told++[c] } },⟨3,1,c,0,0,0,[]⟩,0)):=by
 cases hd:s.s1.deck with
 |nil=>
  have e:drawF s 1=if wIn (s.s1.life-1) then ({ s with s1:={ s.s1 with life:=s.s1.life-1 } },⟨3,1,-1,0,0,0,[]⟩,0) else (zSt,zEv,171):=by
   show (match s.s1.deck with | []=>_|c::l=>_)=_;rw[hd]; rfl
  by_cases hw:wIn (s.s1.life-1)=true
  ·left; exact⟨hw,by rw[e,if_pos hw]⟩
  ·rw[e,if_neg hw] at h; exact absurd h (by decide)
 |cons c l=>
  right;by_cases hh:10≤s.s1.hand.length
  ·left;refine⟨c,l,rfl,?_⟩;show (match s.s1.deck with | []=>_|c::l=>_)=_;rw[hd]; show (if 10≤s.s1.hand.length then _ else _)=_;rw[if_pos hh]; rfl
  ·right;refine⟨c,l,rfl,by omega,?_⟩;show (match s.s1.deck with | []=>_|c::l=>_)=_;rw[hd]; show (if 10≤s.s1.hand.length then _ else _)=_;rw[if_neg hh]; rfl
theorem Qbo{b:Bk}{s:St}(hM:MayP b s)(h:(drawF s 1).2.2=0)(g0:s.s1.grave.length<1000000)(t0:s.s0.told.length<1000000)(t1:s.s1.told.length<1000000):MayP b (drawF s 1).1∧Xn (drawF s 1).1=Xn s:=by
 have S:=hM.s1;rcases Ybo s h with ⟨hw,e⟩|⟨c,l,hd,e⟩|⟨c,l,hd,hh,e⟩
 ·rw[e];refine⟨⟨hM.hd,hM.s0,⟨hw,S.mana,S.most,S.deck,S.hand,S.grave,S.told,S.units⟩,hM.un,hM.at_⟩,rfl⟩
 ·rw[e];have hdk:=S.deck;rw[hd] at hdk;obtain⟨d1,d2⟩:=QU hdk;have hl:s.s1.deck.length=l.length+1:=by rw[hd]; rfl
  refine⟨⟨hM.hd,⟨hM.s0.life,hM.s0.mana,hM.s0.most,hM.s0.deck,hM.s0.hand,hM.s0.grave,Qt hM.s0.told d2 (by omega),hM.s0.units⟩,⟨S.life,S.mana,S.most,d1,S.hand,Qt S.grave d2 (by omega),Qt S.told d2 (by omega),S.units⟩,hM.un,hM.at_⟩,by simp[Xn,hl]; omega⟩
 ·rw[e];have hdk:=S.deck;rw[hd] at hdk;obtain⟨d1,d2⟩:=QU hdk;have hl:s.s1.deck.length=l.length+1:=by rw[hd]; rfl
  refine⟨⟨hM.hd,hM.s0,⟨S.life,S.mana,S.most,d1,Qt S.hand d2 (by omega),S.grave,Qt S.told d2 (by omega),S.units⟩,hM.un,hM.at_⟩,by simp[Xn,hl]; omega⟩
theorem ZaO{b:Bk}{n:Int}{u:Th}(h:Qq b n u=true):Qq b (n+1) u=true:=by
 simp only[Qq,Bool.and_eq_true,decide_eq_true_eq] at h ⊢;obtain⟨h1,h2,h3,h4,h5,h6,h7⟩:=h;exact⟨h1,h2,h3,h4,h5,h6,by omega⟩
theorem Ycj{b:Bk}{n:Int}{u:Th}(h:Qq b n u=true):u.id<n:=by
 simp only[Qq,Bool.and_eq_true,decide_eq_true_eq] at h;exact h.2.2.2.2.2.2
theorem YbF{b:Bk}{s:St}(h:UnP b s):s.next∉(s.s0.units++s.s1.units).map Th.id:=by
 intro hm;obtain⟨u,hu,e⟩:=List.mem_map.1 hm;have:=Ycj (h.1 u hu);omega
theorem Xce{l:List Th}{k:Nat}{u v:Th}(h:l[k]?=some u)(e:v.id=u.id):(l.set k v).map Th.id=l.map Th.id:=by
 rw[List.map_set,e];have hk:k<l.length:=(YLG h).1;have h2:(l.map Th.id)[k]?=some u.id:=by rw[List.getElem?_map,h]; rfl
 obtain⟨hk2,h3⟩:=YLG h2;rw[←h3,List.set_getElem_self]
theorem Qaj{l:List Th}{k:Nat}{u:Th}{a:Int}(h:l[k]?=some u)(ha:a∈l.map Th.id)(hne:a≠u.id):a∈(l.eraseIdx k).map Th.id:=by
 obtain⟨v,hv,rfl⟩:=List.mem_map.1 ha;obtain⟨hk,hu⟩:=YLG h;obtain⟨l1,w,l2,e1,e2,e3⟩:=Zbx l k hk;rw[e3];rw[e1] at hv;refine List.mem_map.2 ⟨v,?_,rfl⟩;rcases List.mem_append.1 hv with hv|hv
 ·exact List.mem_append_left _ hv
 ·rcases List.mem_cons.1 hv with rfl|hv
  ·exfalso;apply hne;have:l[k]?=some v:=by rw[e1,List.getElem?_append_right (by omega)]; simp[e2]
   rw[h] at this; cases this; rfl
  ·exact List.mem_append_right _ hv
theorem XbF{n:Int}(h0:0≤n)(h1:n<13835058055282163712)(h:wIn (IntKind.i64.wrap n)=true):0≤IntKind.i64.wrap n:=by
 have hw:=Ybk.1 h;simp only[IntKind.wrap,IntKind.signed,IntKind.bits] at hw ⊢;simp at hw ⊢;split at hw<;>split<;>omega
theorem YcJ(n:Int):IntKind.i64.wrap n<9223372036854775808:=by
 simp only[IntKind.wrap,IntKind.signed,IntKind.bits];simp;split<;>omega
theorem YbQ(n:Int):0≤cap4 n∧cap4 n≤4000000:=by unfold cap4; omega
theorem Zba{b:Bk}{s:St}{c:Int}(hM:MayP b s)(h:XS b s 0 c=false):MayP b (QG s 0 c)∧Xn (QG s 0 c)=Xn s+1:=by
 simp only[XS,Bool.or_eq_false_iff,decide_eq_false_iff_not] at h;obtain⟨⟨⟨⟨h1,h2⟩,h3⟩,h4⟩,h5⟩:=h;have h4:¬7≤(s.s0.units.length:Int):=h4;obtain⟨d1,d2,d3,d4,d5,d6,d7,d8,d9,d10,d11⟩:=hM.hd;have hnx:=YbF hM.un;have S:=hM.s0;refine⟨⟨⟨d1,d2,d3,d4,d5,d6,d7,d8,d9,by show 1≤s.next+1; omega,by show s.next+1≤1000000; omega⟩,⟨S.life,S.mana,S.most,S.deck,S.hand,S.grave,S.told,by show (s.s0.units++[_]).length≤7; simp; omega⟩,hM.s1,⟨?_,?_⟩,?_⟩,?_⟩
 ·intro u hu;show Qq b (s.next+1) u=true;have hu:u∈s.s0.units++s.s1.units∨u=(⟨s.next,c,0,true⟩:Th):=by
   have:u∈(s.s0.units++[(⟨s.next,c,0,true⟩:Th)])++s.s1.units:=hu;simp only[List.mem_append,List.mem_singleton] at this ⊢;rcases this with (q|q)|q
   ·exact .inl (.inl q)
   ·exact .inr q
   ·exact .inl (.inr q)
  rcases hu with hu|rfl
  ·exact ZaO (hM.un.1 u hu)
  ·have hc:c.toNat<b.cards.length:=by omega
   simp only[Qq,Bool.and_eq_true,decide_eq_true_eq];rw[List.getElem?_eq_getElem hc] at h3 ⊢;simp at h3;exact⟨by omega,by omega,by simpa using h3,by omega,by omega,by omega,by omega⟩
 ·have e:((QG s 0 c).s0.units++(QG s 0 c).s1.units).map Th.id=s.s0.units.map Th.id++s.next::s.s1.units.map Th.id:=by
   show ((s.s0.units++[(⟨s.next,c,0,true⟩:Th)])++s.s1.units).map Th.id=_;simp
  rw[e,List.perm_middle.nodup_iff,List.nodup_cons];rw[←List.map_append];exact⟨hnx,hM.un.2⟩
 ·refine Qan hM.at_ ⟨d3,d4⟩ rfl rfl rfl (List.Sublist.refl _) (λa _ ha=>?_) (λa _ ha hn=>⟨?_,?_⟩)
  ·show a∈(s.s0.units++[_]).map Th.id; rw[List.map_append]; exact List.mem_append_left _ ha
  ·exact ha
  ·show a∉(s.s0.units++[_]).map Th.id; rw[List.map_append,List.mem_append]; rintro (q|q); exact hn q; simp at q; subst q; exact hnx (by rw[List.map_append]; exact List.mem_append_right _ ha)
 ·show ((s.s0.deck.length:Int)+s.s0.hand.length+s.s0.grave.length+(s.s0.units++[(⟨s.next,c,0,true⟩:Th)]).length)+(s.s1.deck.length+s.s1.hand.length+s.s1.grave.length+s.s1.units.length)=_;simp[Xn]; omega
theorem Yba{b:Bk}{s:St}{c:Int}(hM:MayP b s)(h:XS b s 1 c=false):MayP b (QG s 1 c)∧Xn (QG s 1 c)=Xn s+1:=by
 simp only[XS,Bool.or_eq_false_iff,decide_eq_false_iff_not] at h;obtain⟨⟨⟨⟨h1,h2⟩,h3⟩,h4⟩,h5⟩:=h;have h4:¬7≤(s.s1.units.length:Int):=h4;obtain⟨d1,d2,d3,d4,d5,d6,d7,d8,d9,d10,d11⟩:=hM.hd;have hnx:=YbF hM.un;have S:=hM.s1;refine⟨⟨⟨d1,d2,d3,d4,d5,d6,d7,d8,d9,by show 1≤s.next+1; omega,by show s.next+1≤1000000; omega⟩,hM.s0,⟨S.life,S.mana,S.most,S.deck,S.hand,S.grave,S.told,by show (s.s1.units++[_]).length≤7; simp; omega⟩,⟨?_,?_⟩,?_⟩,?_⟩
 ·intro u hu;show Qq b (s.next+1) u=true;have hu:u∈s.s0.units++s.s1.units∨u=(⟨s.next,c,0,true⟩:Th):=by
   have:u∈s.s0.units++(s.s1.units++[(⟨s.next,c,0,true⟩:Th)]):=hu;simp only[List.mem_append,List.mem_singleton] at this ⊢;rcases this with q|(q|q)
   ·exact .inl (.inl q)
   ·exact .inl (.inr q)
   ·exact .inr q
  rcases hu with hu|rfl
  ·exact ZaO (hM.un.1 u hu)
  ·have hc:c.toNat<b.cards.length:=by omega
   simp only[Qq,Bool.and_eq_true,decide_eq_true_eq];rw[List.getElem?_eq_getElem hc] at h3 ⊢;simp at h3;exact⟨by omega,by omega,by simpa using h3,by omega,by omega,by omega,by omega⟩
 ·have e:((QG s 1 c).s0.units++(QG s 1 c).s1.units).map Th.id=(s.s0.units++s.s1.units).map Th.id++s.next::[]:=by
   show (s.s0.units++(s.s1.units++[(⟨s.next,c,0,true⟩:Th)])).map Th.id=_;simp
  rw[e,List.perm_middle.nodup_iff,List.nodup_cons];rw[List.append_nil];exact⟨hnx,hM.un.2⟩
 ·refine Qan hM.at_ ⟨d3,d4⟩ rfl rfl rfl (List.Sublist.refl _) (λa _ ha=>?_) (λa _ ha hn=>⟨?_,?_⟩)
  ·exact ha
  ·show a∈(s.s1.units++[_]).map Th.id; rw[List.map_append]; exact List.mem_append_left _ ha
  ·exact hn
 ·show ((s.s0.deck.length:Int)+s.s0.hand.length+s.s0.grave.length+s.s0.units.length)+(s.s1.deck.length+s.s1.hand.length+s.s1.grave.length+(s.s1.units++[(⟨s.next,c,0,true⟩:Th)]).length)=_;simp[Xn]; omega
theorem QaN{b:Bk}{n h:Int}{u:Th}(k:Qq b n u=true)(h0:0≤h)(h1:h≤1000000):Qq b n { u with harm:=h }=true:=by
 simp only[Qq,Bool.and_eq_true,decide_eq_true_eq] at k ⊢;exact⟨k.1,k.2.1,k.2.2.1,h0,h1,k.2.2.2.2.2⟩
theorem Qax{b:Bk}{n:Int}{u:Th}(k:Qq b n u=true):0≤u.harm∧u.harm≤1000000:=by
 simp only[Qq,Bool.and_eq_true,decide_eq_true_eq] at k;exact⟨k.2.2.2.1,k.2.2.2.2.1⟩
theorem QbB{l:List Th}{k:Nat}{v u:Th}(h:u∈l.set k v):u∈l∨u=v:=List.mem_or_eq_of_mem_set h
theorem Xbt{b:Bk}{s:St}(hM:MayP b s){k:Nat}{u:Th}(hk:s.s0.units[k]?=some u){h:Int}(h0:0≤h)(h1:h≤1000000):MayP b { s with s0:={ s.s0 with units:=s.s0.units.set k { u with harm:=h } } }∧Xn { s with s0:={ s.s0 with units:=s.s0.units.set k { u with harm:=h } } }=Xn s:=by
 have S:=hM.s0;have hu:u∈s.s0.units:=List.mem_of_getElem? hk;have hi:(s.s0.units.set k { u with harm:=h }).map Th.id=s.s0.units.map Th.id:=Xce hk rfl;have N:SideP b { s.s0 with units:=s.s0.units.set k { u with harm:=h } }:=⟨S.life,S.mana,S.most,S.deck,S.hand,S.grave,S.told,by show (s.s0.units.set k _).length≤7; rw[List.length_set]; exact S.units⟩;refine⟨⟨hM.hd,N,hM.s1,⟨λv hv=>?_,?_⟩,?_⟩,?_⟩
 ·have hv:v∈(s.s0.units.set k { u with harm:=h })++s.s1.units:=hv;rcases List.mem_append.1 hv with hv|hv
  ·rcases QbB hv with hv|rfl; exact hM.un.1 v (List.mem_append_left _ hv); exact QaN (hM.un.1 u (List.mem_append_left _ hu)) h0 h1
  ·exact hM.un.1 v (List.mem_append_right _ hv)
 ·have e:((s.s0.units.set k { u with harm:=h })++s.s1.units).map Th.id=(s.s0.units++s.s1.units).map Th.id:=by rw[List.map_append,List.map_append,hi]
  show (((s.s0.units.set k { u with harm:=h })++s.s1.units).map Th.id).Nodup;rw[e]; exact hM.un.2
 ·refine Qan hM.at_ ⟨hM.hd.2.2.1,hM.hd.2.2.2.1⟩ rfl rfl rfl (List.Sublist.refl _) (λa _ ha=>?_) (λa _ ha hn=>⟨?_,?_⟩)
  ·show a∈(s.s0.units.set k _).map Th.id; rw[hi]; exact ha
  ·exact ha
  ·show a∉(s.s0.units.set k _).map Th.id; rw[hi]; exact hn
 ·simp[Xn]
theorem YaJ{b:Bk}{s:St}(hM:MayP b s){n:Int}(hw:wIn n=true):MayP b { s with s0:={ s.s0 with life:=n } }∧Xn { s with s0:={ s.s0 with life:=n } }=Xn s:=by
 have S:=hM.s0;exact⟨⟨hM.hd,⟨hw,S.mana,S.most,S.deck,S.hand,S.grave,S.told,S.units⟩,hM.s1,hM.un,hM.at_⟩,rfl⟩
theorem Zbl{b:Bk}{s:St}(hM:MayP b s){k:Nat}{u:Th}(hk:s.s0.units[k]?=some u)(hg:s.s0.grave.length<1000000) :
  MayP b { s with attack:=without u.id s.attack,s0:={ s.s0 with units:=s.s0.units.eraseIdx k,grave:=s.s0.grave++[u.card] } }∧Xn { s with attack:=without u.id s.attack,s0:={ s.s0 with units:=s.s0.units.eraseIdx k,grave:=s.s0.grave++[u.card] } }=Xn s:=by
 have S:=hM.s0;have hu:u∈s.s0.units:=List.mem_of_getElem? hk;have hkl:k<s.s0.units.length:=(YLG hk).1;have hsub:=List.eraseIdx_sublist s.s0.units k;have hlen:(s.s0.units.eraseIdx k).length=s.s0.units.length-1:=List.length_eraseIdx_of_lt hkl;have hc:=Z4 (hM.un.1 u (List.mem_append_left _ hu));have N:SideP b { s.s0 with units:=s.s0.units.eraseIdx k,grave:=s.s0.grave++[u.card] }:=⟨S.life,S.mana,S.most,S.deck,S.hand,Qt S.grave ⟨hc.1,by omega⟩ (by omega),S.told,by show (s.s0.units.eraseIdx k).length≤7; have:=S.units; omega⟩;refine⟨⟨hM.hd,N,hM.s1,⟨λv hv=>?_,?_⟩,?_⟩,?_⟩
 ·have hv:v∈(s.s0.units.eraseIdx k)++s.s1.units:=hv;rcases List.mem_append.1 hv with hv|hv
  ·exact hM.un.1 v (List.mem_append_left _ (hsub.subset hv))
  ·exact hM.un.1 v (List.mem_append_right _ hv)
 ·refine hM.un.2.sublist (List.Sublist.map _ ?_);exact hsub.append (List.Sublist.refl _)
 ·refine Qan hM.at_ ⟨hM.hd.2.2.1,hM.hd.2.2.2.1⟩ rfl rfl rfl List.filter_sublist (λa ha hm=>?_) (λa ha hm hn=>⟨?_,?_⟩)
  ·have ha:a∈without u.id s.attack:=ha; simp only[without,List.mem_filter] at ha; exact Qaj hk hm (by simpa using ha.2)
  ·exact hm
  ·intro hq; exact hn ((hsub.map Th.id).subset hq)
 ·have:0<s.s0.units.length:=by omega
  simp only[Xn,hlen,List.length_append,List.length_singleton];omega
theorem Qbt{b:Bk}{s:St}(hM:MayP b s){k:Nat}{u:Th}(hk:s.s1.units[k]?=some u){h:Int}(h0:0≤h)(h1:h≤1000000):MayP b { s with s1:={ s.s1 with units:=s.s1.units.set k { u with harm:=h } } }∧Xn { s with s1:={ s.s1 with units:=s.s1.units.set k { u with harm:=h } } }=Xn s:=by
 have S:=hM.s1;have hu:u∈s.s1.units:=List.mem_of_getElem? hk;have hi:(s.s1.units.set k { u with harm:=h }).map Th.id=s.s1.units.map Th.id:=Xce hk rfl;have N:SideP b { s.s1 with units:=s.s1.units.set k { u with harm:=h } }:=⟨S.life,S.mana,S.most,S.deck,S.hand,S.grave,S.told,by show (s.s1.units.set k _).length≤7; rw[List.length_set]; exact S.units⟩;refine⟨⟨hM.hd,hM.s0,N,⟨λv hv=>?_,?_⟩,?_⟩,?_⟩
 ·have hv:v∈s.s0.units++(s.s1.units.set k { u with harm:=h }):=hv;rcases List.mem_append.1 hv with hv|hv
  ·exact hM.un.1 v (List.mem_append_left _ hv)
  ·rcases QbB hv with hv|rfl; exact hM.un.1 v (List.mem_append_right _ hv); exact QaN (hM.un.1 u (List.mem_append_right _ hu)) h0 h1
 ·have e:(s.s0.units++(s.s1.units.set k { u with harm:=h })).map Th.id=(s.s0.units++s.s1.units).map Th.id:=by rw[List.map_append,List.map_append,hi]
  show ((s.s0.units++(s.s1.units.set k { u with harm:=h })).map Th.id).Nodup;rw[e]; exact hM.un.2
 ·refine Qan hM.at_ ⟨hM.hd.2.2.1,hM.hd.2.2.2.1⟩ rfl rfl rfl (List.Sublist.refl _) (λa _ ha=>?_) (λa _ ha hn=>⟨?_,?_⟩)
  ·exact ha
  ·show a∈(s.s1.units.set k _).map Th.id; rw[hi]; exact ha
  ·exact hn
 ·simp[Xn]
theorem XaJ{b:Bk}{s:St}(hM:MayP b s){n:Int}(hw:wIn n=true):MayP b { s with s1:={ s.s1 with life:=n } }∧Xn { s with s1:={ s.s1 with life:=n } }=Xn s:=by
 have S:=hM.s1;exact⟨⟨hM.hd,hM.s0,⟨hw,S.mana,S.most,S.deck,S.hand,S.grave,S.told,S.units⟩,hM.un,hM.at_⟩,rfl⟩
theorem Ybl{b:Bk}{s:St}(hM:MayP b s){k:Nat}{u:Th}(hk:s.s1.units[k]?=some u)(hg:s.s1.grave.length<1000000) :
  MayP b { s with attack:=without u.id s.attack,s1:={ s.s1 with units:=s.s1.units.eraseIdx k,grave:=s.s1.grave++[u.card] } }∧Xn { s with attack:=without u.id s.attack,s1:={ s.s1 with units:=s.s1.units.eraseIdx k,grave:=s.s1.grave++[u.card] } }=Xn s:=by
 have S:=hM.s1;have hu:u∈s.s1.units:=List.mem_of_getElem? hk;have hkl:k<s.s1.units.length:=(YLG hk).1;have hsub:=List.eraseIdx_sublist s.s1.units k;have hlen:(s.s1.units.eraseIdx k).length=s.s1.units.length-1:=List.length_eraseIdx_of_lt hkl;have hc:=Z4 (hM.un.1 u (List.mem_append_right _ hu));have N:SideP b { s.s1 with units:=s.s1.units.eraseIdx k,grave:=s.s1.grave++[u.card] }:=⟨S.life,S.mana,S.most,S.deck,S.hand,Qt S.grave ⟨hc.1,by omega⟩ (by omega),S.told,by show (s.s1.units.eraseIdx k).length≤7; have:=S.units; omega⟩;refine⟨⟨hM.hd,hM.s0,N,⟨λv hv=>?_,?_⟩,?_⟩,?_⟩
 ·have hv:v∈s.s0.units++(s.s1.units.eraseIdx k):=hv;rcases List.mem_append.1 hv with hv|hv
  ·exact hM.un.1 v (List.mem_append_left _ hv)
  ·exact hM.un.1 v (List.mem_append_right _ (hsub.subset hv))
 ·refine hM.un.2.sublist (List.Sublist.map _ ?_);exact(List.Sublist.refl _).append hsub
 ·refine Qan hM.at_ ⟨hM.hd.2.2.1,hM.hd.2.2.2.1⟩ rfl rfl rfl List.filter_sublist (λa ha hm=>?_) (λa ha hm hn=>⟨?_,?_⟩)
  ·exact hm
  ·have ha:a∈without u.id s.attack:=ha; simp only[without,List.mem_filter] at ha; exact Qaj hk hm (by simpa using ha.2)
  ·exact hn
 ·have:0<s.s1.units.length:=by omega
  simp only[Xn,hlen,List.length_append,List.length_singleton];omega
theorem YaZ{b:Bk}{s:St}(id:Int)(hM:MayP b s)(g0:s.s0.grave.length<1000000)(g1:s.s1.grave.length<1000000) :
  MayP b (Qz s id).1∧Xn (Qz s id).1=Xn s∧(Qz s id).1.s0.grave.length≤s.s0.grave.length+1∧(Qz s id).1.s1.grave.length≤s.s1.grave.length+1:=by
 unfold Qz;cases q0:fnd s.s0.units id with
 |some k=>
  obtain⟨u,hk,e⟩:=X4 q0;simp only[hk,Option.getD_some];subst e;obtain⟨h1,h2⟩:=Zbl hM hk g0;exact⟨h1,h2,by simp,by simp⟩
 |none=>
  cases q1:fnd s.s1.units id with
  |some k=>
   obtain⟨u,hk,e⟩:=X4 q1;simp only[hk,Option.getD_some];subst e;obtain⟨h1,h2⟩:=Ybl hM hk g1;exact⟨h1,h2,by simp,by simp⟩
  |none=>exact⟨hM,rfl,by simp,by simp⟩
theorem Yas{b:Bk}:∀(ids:List Int) {s:St},MayP b s→s.s0.grave.length+ids.length≤1000000→s.s1.grave.length+ids.length≤1000000→MayP b (buryGo ids s).1∧Xn (buryGo ids s).1=Xn s
 |[],s,hM,_,_=>⟨hM,rfl⟩
 |id::ids,s,hM,g0,g1=>by
  simp only[List.length_cons] at g0 g1;obtain⟨h1,h2,h3,h4⟩:=YaZ id hM (by omega) (by omega);obtain⟨k1,k2⟩:=Yas ids h1 (by omega) (by omega);exact⟨k1,k2.trans h2⟩
theorem ZaR:∀(ids:List Int) (s:St),ids.Nodup→(∀a∈ids,a∈s.s0.units.map Th.id∨a∈s.s1.units.map Th.id)→(buryGo ids s).2.length=ids.length
 |[],_,_,_=>rfl
 |id::ids,s,hn,hin=>by
  have hn':=List.nodup_cons.1 hn;have hne:∀a∈ids,a≠id:=λa ha e=>hn'.1 (e▸ha);have key:(Qz s id).2.length=1∧∀a∈ids,a∈(Qz s id).1.s0.units.map Th.id∨a∈(Qz s id).1.s1.units.map Th.id:=by
   unfold Qz;cases q0:fnd s.s0.units id with
   |some k=>
    obtain⟨u,hk,e⟩:=X4 q0;simp only[hk,Option.getD_some];refine⟨rfl,λa ha=>?_⟩;rcases hin a (List.mem_cons_of_mem _ ha) with h|h
    ·exact .inl (Qaj hk h (by rw[e]; exact hne a ha))
    ·exact .inr h
   |none=>
    cases q1:fnd s.s1.units id with
    |some k=>
     obtain⟨u,hk,e⟩:=X4 q1;simp only[hk,Option.getD_some];refine⟨rfl,λa ha=>?_⟩;rcases hin a (List.mem_cons_of_mem _ ha) with h|h
     ·exact .inl h
     ·exact .inr (Qaj hk h (by rw[e]; exact hne a ha))
    |none=>
     rcases hin id (List.mem_cons_self ..) with h|h
     ·exact absurd h (ZaI.1 q0)
     ·exact absurd h (ZaI.1 q1)
  have ih:=ZaR ids (Qz s id).1 hn'.2 key.2;simp only[buryGo,List.length_append,List.length_cons,key.1,ih];omega
theorem Qao(b:Bk)(all:List Th):∀(l:List Th) (i:Int),(XD b all l i).Sublist (l.map Th.id)
 |[],_=>List.Sublist.refl _
 |u::l,i=>by
  have:=Qao b all l (i+1);unfold XD;rw[List.map_cons];split
  ·exact this.cons_cons _
  ·exact this.cons _
theorem QbH{b:Bk}{s:St}(hM:MayP b s):(deadF b s).Nodup∧(∀a∈deadF b s,a∈s.s0.units.map Th.id∨a∈s.s1.units.map Th.id)∧(deadF b s).length≤14:=by
 have h0:=Qao b s.s0.units s.s0.units 0;have h1:=Qao b s.s1.units s.s1.units 0;have hn:=hM.un.2;rw[List.map_append] at hn;have l0:=h0.length_le;have l1:=h1.length_le;rw[List.length_map] at l0 l1;have u0:=hM.s0.units;have u1:=hM.s1.units;have k:∀a,a∈YC b s.s0∨a∈YC b s.s1→a∈s.s0.units.map Th.id∨a∈s.s1.units.map Th.id:=by
  rintro a (h|h)
  ·exact .inl (h0.subset h)
  ·exact .inr (h1.subset h)
 unfold deadF;by_cases hm:s.mover=0
 ·rw[if_pos hm];exact⟨hn.sublist (h0.append h1),λa ha=>k a (List.mem_append.1 ha),by rw[List.length_append]; show (XD b s.s0.units s.s0.units 0).length+(XD b s.s1.units s.s1.units 0).length≤14; omega⟩
 ·rw[if_neg hm];exact⟨(List.perm_append_comm.nodup_iff.1 hn).sublist (h1.append h0),λa ha=>k a (List.mem_append.1 ha).symm,by rw[List.length_append]; show (XD b s.s1.units s.s1.units 0).length+(XD b s.s0.units s.s0.units 0).length≤14; omega⟩
theorem Za8{b:Bk}{s:St}{kd id sd:Int}{fP:Int→Int×Int}{fU:Th→Int×Int}(hM:MayP b s)(hP:∀l,0≤(fP l).2)(hU:∀u,0≤u.harm→u.harm≤1000000→0≤(fU u).2∧(wIn (fU u).1=true→0≤(fU u).1))(h0:sd=0∨sd=1)(h:(chgF kd fP fU s id sd).2.2=0) :
  MayP b (chgF kd fP fU s id sd).1∧Xn (chgF kd fP fU s id sd).1=Xn s∧0≤(chgF kd fP fU s id sd).2.1.n:=by
 have z:∀(x:Int),x≠0→(zSt,zEv,x).2.2=0→False:=λx hx h=>hx h;unfold chgF at h ⊢;by_cases hid:id=0
 ·rw[if_pos hid] at h ⊢;unfold chgP at h ⊢;by_cases hw:wIn (fP (s.side sd).life).1=true
  ·rw[if_pos hw];rcases h0 with rfl|rfl
   ·exact⟨(YaJ hM hw).1,(YaJ hM hw).2,hP _⟩
   ·exact⟨(XaJ hM hw).1,(XaJ hM hw).2,hP _⟩
  ·rw[if_neg hw] at h; exact(z 171 (by decide) h).elim
 rw[if_neg hid] at h ⊢;by_cases hid2:id<0
 ·rw[if_pos hid2] at h; exact(z 4 (by decide) h).elim
 rw[if_neg hid2] at h ⊢;cases q0:fnd s.s0.units id with
 |some k=>
  obtain⟨u,hk,_⟩:=X4 q0;rw[q0] at h;simp only[hk,Option.getD_some] at h ⊢;have hh:=Qax (hM.un.1 u (List.mem_append_left _ (List.mem_of_getElem? hk)));obtain⟨k1,k2⟩:=hU u hh.1 hh.2;unfold chgU at h ⊢;by_cases hw:wIn (fU u).1=true
  ·rw[if_pos hw];have:=Xbt hM hk (k2 hw) (Ybk.1 hw).2;exact⟨this.1,this.2,k1⟩
  ·rw[if_neg hw] at h; exact(z 171 (by decide) h).elim
 |none=>
  rw[q0] at h;cases q1:fnd s.s1.units id with
  |none=>rw[q1] at h; exact(z 4 (by decide) h).elim
  |some k=>
   obtain⟨u,hk,_⟩:=X4 q1;rw[q1] at h;simp only[hk,Option.getD_some] at h ⊢;have hh:=Qax (hM.un.1 u (List.mem_append_right _ (List.mem_of_getElem? hk)));obtain⟨k1,k2⟩:=hU u hh.1 hh.2;unfold chgU at h ⊢;by_cases hw:wIn (fU u).1=true
   ·rw[if_pos hw];have:=Qbt hM hk (k2 hw) (Ybk.1 hw).2;exact⟨this.1,this.2,k1⟩
   ·rw[if_neg hw] at h; exact(z 171 (by decide) h).elim
theorem XaT{b:Bk}{s:St}{id sd n:Int}(hM:MayP b s)(h0:sd=0∨sd=1)(h:(harmF b s id sd n).2.2=0):MayP b (harmF b s id sd n).1∧Xn (harmF b s id sd n).1=Xn s∧0≤(harmF b s id sd n).2.1.n:=by
 refine Za8 hM (λl=>(YbQ n).1) (λu h1 h2=>?_) h0 h;have hh:0≤hurt b u (cap4 n)∧hurt b u (cap4 n)<9223372036854775808:=by
  unfold hurt;have:=YcJ (cap4 n-YaE b u.card);omega
 exact⟨hh.1,λhw=>XbF (by omega) (by omega) hw⟩
theorem ZaW{b:Bk}{s:St}{id sd n:Int}(hM:MayP b s)(h0:sd=0∨sd=1)(h:(mendF s id sd n).2.2=0):MayP b (mendF s id sd n).1∧Xn (mendF s id sd n).1=Xn s∧0≤(mendF s id sd n).2.1.n:=by
 have hc:=YbQ n;refine Za8 hM (λl=>hc.1) (λu h1 h2=>?_) h0 h;exact⟨by show 0≤min (cap4 n) u.harm; omega,λhw=>XbF (by omega) (by omega) hw⟩
end Go.Ah.Tz
end
section
namespace Go.Ah.Tz
open Go.Proofs.Tryz (prog)
attribute [local irreducible] Ans.rd Ans.pu Ans.wr Ans.dr Ans.gr Ans.gw Ans.gl Ans.gd Ans.opt joinK W
set_option maxHeartbeats 4000000
theorem c18_n(b:Bk)(hf:bkFit b=true)(hsm:Yo b.cards)(s:St)(hs:StLe 2000000 s)(hm:mayR (bkR b).1 b s true=true)(side:Int)(h:side<0∨1<side):PC 18 [bkV b,stV s,iv side] (resV (zSt,zEv,2)):=by
 refine Zq hP g18_ok rfl ?_;unfold g18;refine Xd (v:=.bptr 0 0) (rd:=[]) (up:=[(0,.box (bkC b))]) rfl rfl ?_;refine Xd (v:=.bptr 1 0) (rd:=[]) (up:=[(1,.box (stC s))]) rfl rfl ?_;refine Xd (v:=.bptr 2 0) (rd:=[]) (up:=[(2,.box zStC)]) rfl rfl ?_;refine Xd (v:=.bptr 3 0) (rd:=[]) (up:=[(3,.box zEvC)]) rfl rfl ?_;refine c56n b hf hsm s (hs.mono (by decide)) (n0:=4) (n:=15) rfl rfl rfl rfl (λh=>by rw[hm] at h; cases h) (λ_=>?_);refine Za rfl (Xg (Za (ZJ ..) ?_));refine ZN (λ_=>rfl) (λ_=>XX ..) ?_;rw[show (decide (side<0)||decide (1<side))=true by simp; omega];refine Qd (Za rfl (Za rfl (Xd rfl rfl (Xd rfl rfl (Yi rfl (Yi rfl ?_))))));exact⟨[],resZ 2⟩
theorem c21_n(b:Bk)(hf:bkFit b=true)(hsm:Yo b.cards)(s:St)(hs:StLe 2000000 s)(hm:mayR (bkR b).1 b s true=true)(side:Int)(h:side<0∨1<side)(c:Int):PC 21 [bkV b,stV s,iv side,iv c] (resX zSt zEv (.bool false)):=by
 refine Zq hP g21_ok rfl ?_;unfold g21;refine Xd (v:=.bptr 0 0) (rd:=[]) (up:=[(0,.box (bkC b))]) rfl rfl ?_;refine Xd (v:=.bptr 1 0) (rd:=[]) (up:=[(1,.box (stC s))]) rfl rfl ?_;refine Xd (v:=.bptr 2 0) (rd:=[]) (up:=[(2,.box zStC)]) rfl rfl ?_;refine Xd (v:=.bptr 3 0) (rd:=[]) (up:=[(3,.box zEvC)]) rfl rfl ?_;refine c56n b hf hsm s (hs.mono (by decide)) (n0:=4) (n:=15) rfl rfl rfl rfl (λh=>by rw[hm] at h; cases h) (λ_=>?_);refine Za rfl ?_;refine ZN (c:=false) (λ_=>rfl) (λ_=>ZJ ..) ?_;refine ZN (λ_=>rfl) (λ_=>XX ..) ?_;rw[show (false||decide (side<0)||decide (1<side))=true by simp; omega];repeat first|refine Yb rfl ?_|refine Za rfl ?_
 refine Qd (Za rfl (Za rfl (Xd rfl rfl (Xd rfl rfl (Yi rfl (Yi rfl ?_))))));exact⟨[],resZX rfl⟩
theorem cTb{b:Bk}(hf:bkFit b=true)(hsm:Yo b.cards){s:St}(hs:StLe 2000000 s)(hm:mayR (bkR b).1 b s true=true){f F:FuncId}{kd:Int}(hg:GQ f 5 (gT kd F))(sd n:Int)(h:sd<0∨1<sd):PC f [bkV b,stV s,iv 0,iv sd,iv n] (resV (zSt,zEv,2)):=by
 refine Zq hP hg rfl ?_;unfold gT;refine Xd (v:=.bptr 0 0) (rd:=[]) (up:=[(0,.box (bkC b))]) rfl rfl ?_;refine Xd (v:=.bptr 1 0) (rd:=[]) (up:=[(1,.box (stC s))]) rfl rfl ?_;refine Xd (v:=.bptr 2 0) (rd:=[]) (up:=[(2,.box zStC)]) rfl rfl ?_;refine Xd (v:=.bptr 3 0) (rd:=[]) (up:=[(3,.box zEvC)]) rfl rfl ?_;refine Zs hP rfl g64_ok rfl ?_;unfold g64;refine Xd (v:=.bptr 4 0) (rd:=[]) (up:=[(4,.box zStC)]) rfl rfl ?_;refine Xd (v:=.bptr 5 0) (rd:=[]) (up:=[(5,.box zEvC)]) rfl rfl ?_;refine c56n b hf hsm s (hs.mono (by decide)) (n0:=6) (n:=17) rfl rfl rfl rfl (λh=>by rw[hm] at h; cases h) (λ_=>?_);refine Za rfl (Xg (Za (XaG ..) (Za (YS ..) (Za (ZU ..) ?_))));refine Qh λk11 hk11=>?_;refine Xg ?_;rw[hk11];refine Za (ZJ ..) ?_;refine ZN (λ_=>rfl) (λ_=>XX ..) ?_;rw[show (decide (sd<0)||decide (1<sd))=true by simp; omega];refine Qd (Za rfl (Za rfl (Xd rfl rfl (Xd rfl rfl (Yi rfl (Yi rfl ?_))))));refine Za rfl (Za rfl (Za rfl (Xd rfl rfl (Xd rfl rfl (Yi rfl (Yi rfl ?_))))));exact⟨[],resZ 2⟩
theorem w69(x:AVal)(τ:List ABlk)(K:AVal→List ABlk→Prop)(h:K (.func (.func 70) [x] []) τ):g69 VV [x] τ K:=by
 unfold g69;exact Za rfl h
theorem c70n(m:List AVal)(life n:Int):PC 70 [.rptr m 0,.nilp,iv life,iv n] (.tup [iv (IntKind.i64.wrap (life+n)),iv n]):=by
 refine Ye hP g70_ok rfl rfl ?_;unfold g70;exact Za rfl (Xg (Za (Xi ..) rfl))
theorem c70u(b:Bk)(m:List AVal)(u:Th)(life n:Int):PC 70 [.rptr (.rptr (bkC b) 0::m) 0,.rptr (thC u) 0,iv life,iv n] (.tup [iv (IntKind.i64.wrap (u.harm-min n u.harm)),iv (min n u.harm)]):=by
 refine Ye hP g70_ok rfl rfl ?_;unfold g70;exact Za rfl (Qd (Za rfl (Za rfl (Za (ldr rfl) (Za (YS ..) (Za rfl (Za rfl (Za (ldr rfl) (Za (XbX ..) rfl)))))))))
theorem c26(b:Bk)(hf:bkFit b=true)(hsm:Yo b.cards)(s:St)(hs:StLe 2000000 s)(hm:mayR (bkR b).1 b s true=true)(id sd n:Int)(h0:sd=0∨sd=1):PC 26 [bkV b,stV s,iv id,iv sd,iv n] (resV (mendF s id sd n)):=
 cT hf hsm hs hm (show GQ 26 5 (gT 6 69) from g26_ok) g69_ok w69 g70_ok.plain id sd n h0 (λm life=>c70n m life _) (λm u life _ _=>c70u b m u life _)
theorem c22_b(b:Bk)(hf:bkFit b=true)(hsm:Yo b.cards)(s:St)(hs:StLe 2000000 s)(hm:mayR (bkR b).1 b s true=true)(sd n:Int)(h:sd<0∨1<sd):PC 22 [bkV b,stV s,iv 0,iv sd,iv n] (resV (zSt,zEv,2)):=
 cTb hf hsm hs hm (show GQ 22 5 (gT 5 65) from g22_ok) sd n h
theorem c26_b(b:Bk)(hf:bkFit b=true)(hsm:Yo b.cards)(s:St)(hs:StLe 2000000 s)(hm:mayR (bkR b).1 b s true=true)(sd n:Int)(h:sd<0∨1<sd):PC 26 [bkV b,stV s,iv 0,iv sd,iv n] (resV (zSt,zEv,2)):=
 cTb hf hsm hs hm (show GQ 26 5 (gT 6 69) from g26_ok) sd n h
def sizeN(s:St):Int:=s.attack.length+(s.s0.deck.length+s.s0.hand.length+s.s0.grave.length+s.s0.units.length+s.s0.told.length)+(s.s1.deck.length+s.s1.hand.length+s.s1.grave.length+s.s1.units.length+s.s1.told.length)
theorem c15x(s:St)(hs:StLe 2000000 s):PC 15 [stV s] (.bool (decide (2000<sizeN s))):=by
 have a0:=hs.attack;obtain⟨d0,h0,g0,u0,t0⟩:=hs.s0;obtain⟨d1,h1,g1,u1,t1⟩:=hs.s1;have w1:IntKind.i64.wrap (0+1)=1:=by decide
 have w2:IntKind.i64.wrap (1+1)=2:=by decide
 refine Ye hP g15_ok rfl rfl ?_;unfold g15;refine Xd rfl rfl (Za rfl (Za rfl (Za (v:=iv s.attack.length) (rd:=[]) (by simp[Yg]) ?_)));refine Yy 3 (Zi ?_);refine Za rfl (Qd ?_);refine Za rfl (Za rfl (Za rfl (Xd rfl rfl (Xd rfl rfl ?_))));refine Za rfl (Za rfl (Za (v:=iv s.s0.deck.length) (rd:=[]) (by simp[Yg]) ?_));refine Za rfl (Za rfl (Za (v:=iv s.s0.hand.length) (rd:=[]) (by simp[Yg]) (Za (Xi ..) ?_)));rw[wrapI (n:=(s.s0.deck.length:Int)+(s.s0.hand.length:Int)) (by omega) (by omega)];refine Za rfl (Za rfl (Za (v:=iv s.s0.grave.length) (rd:=[]) (by simp[Yg]) (Za (Xi ..) ?_)));rw[wrapI (n:=(s.s0.deck.length:Int)+(s.s0.hand.length:Int)+(s.s0.grave.length:Int)) (by omega) (by omega)];refine Za rfl (Za rfl (Za (v:=iv s.s0.units.length) (rd:=[]) (by simp[Yg]) (Za (Xi ..) ?_)));rw[wrapI (n:=(s.s0.deck.length:Int)+(s.s0.hand.length:Int)+(s.s0.grave.length:Int)+(s.s0.units.length:Int)) (by omega) (by omega)];refine Za rfl (Za rfl (Za (v:=iv s.s0.told.length) (rd:=[]) (by simp[Yg]) (Za (Xi ..) ?_)));rw[wrapI (n:=(s.s0.deck.length:Int)+(s.s0.hand.length:Int)+(s.s0.grave.length:Int)+(s.s0.units.length:Int)+(s.s0.told.length:Int)) (by omega) (by omega)];refine Za (Xi ..) (Za rfl ?_);rw[w1,wrapI (n:=(s.attack.length:Int)+((s.s0.deck.length:Int)+(s.s0.hand.length:Int)+(s.s0.grave.length:Int)+(s.s0.units.length:Int)+(s.s0.told.length:Int))) (by omega) (by omega)];refine Zi ?_;refine Za rfl (Qd ?_);refine Za rfl (Za rfl (Za rfl (Xd rfl rfl (Xd rfl rfl ?_))));refine Za rfl (Za rfl (Za (v:=iv s.s1.deck.length) (rd:=[]) (by simp[Yg]) ?_));refine Za rfl (Za rfl (Za (v:=iv s.s1.hand.length) (rd:=[]) (by simp[Yg]) (Za (Xi ..) ?_)));rw[wrapI (n:=(s.s1.deck.length:Int)+(s.s1.hand.length:Int)) (by omega) (by omega)];refine Za rfl (Za rfl (Za (v:=iv s.s1.grave.length) (rd:=[]) (by simp[Yg]) (Za (Xi ..) ?_)));rw[wrapI (n:=(s.s1.deck.length:Int)+(s.s1.hand.length:Int)+(s.s1.grave.length:Int)) (by omega) (by omega)];refine Za rfl (Za rfl (Za (v:=iv s.s1.units.length) (rd:=[]) (by simp[Yg]) (Za (Xi ..) ?_)));rw[wrapI (n:=(s.s1.deck.length:Int)+(s.s1.hand.length:Int)+(s.s1.grave.length:Int)+(s.s1.units.length:Int)) (by omega) (by omega)];refine Za rfl (Za rfl (Za (v:=iv s.s1.told.length) (rd:=[]) (by simp[Yg]) (Za (Xi ..) ?_)));rw[wrapI (n:=(s.s1.deck.length:Int)+(s.s1.hand.length:Int)+(s.s1.grave.length:Int)+(s.s1.units.length:Int)+(s.s1.told.length:Int)) (by omega) (by omega)];refine Za (Xi ..) (Za rfl ?_);rw[w2,wrapI (n:=(s.attack.length:Int)+((s.s0.deck.length:Int)+(s.s0.hand.length:Int)+(s.s0.grave.length:Int)+(s.s0.units.length:Int)+(s.s0.told.length:Int))+((s.s1.deck.length:Int)+(s.s1.hand.length:Int)+(s.s1.grave.length:Int)+(s.s1.units.length:Int)+(s.s1.told.length:Int))) (by omega) (by omega)];refine Zi ?_;exact Za rfl (Xg (Za (XX ..) rfl))
theorem c24(s:St)(hs:StLe 3000000 s):PC 24 [stV s] (iv (Xn s)):=by
 have a0:=hs.attack;obtain⟨d0,h0,g0,u0,t0⟩:=hs.s0;obtain⟨d1,h1,g1,u1,t1⟩:=hs.s1;have w1:IntKind.i64.wrap (0+1)=1:=by decide
 have w2:IntKind.i64.wrap (1+1)=2:=by decide
 refine Ye hP g24_ok rfl rfl ?_;unfold g24;refine Xd rfl rfl ?_;refine Yy 3 (Zi ?_);refine Za rfl (Qd ?_);refine Za rfl (Za rfl (Za rfl (Xd rfl rfl (Xd rfl rfl ?_))));refine Za rfl (Za rfl (Za (v:=iv s.s0.deck.length) (rd:=[]) (by simp[Yg]) ?_));refine Za rfl (Za rfl (Za (v:=iv s.s0.hand.length) (rd:=[]) (by simp[Yg]) (Za (Xi ..) ?_)));rw[wrapI (n:=(s.s0.deck.length:Int)+(s.s0.hand.length:Int)) (by omega) (by omega)];refine Za rfl (Za rfl (Za (v:=iv s.s0.grave.length) (rd:=[]) (by simp[Yg]) (Za (Xi ..) ?_)));rw[wrapI (n:=(s.s0.deck.length:Int)+(s.s0.hand.length:Int)+(s.s0.grave.length:Int)) (by omega) (by omega)];refine Za rfl (Za rfl (Za (v:=iv s.s0.units.length) (rd:=[]) (by simp[Yg]) (Za (Xi ..) ?_)));rw[wrapI (n:=(s.s0.deck.length:Int)+(s.s0.hand.length:Int)+(s.s0.grave.length:Int)+(s.s0.units.length:Int)) (by omega) (by omega)];refine Za (Xi ..) (Za rfl ?_);rw[w1,Int.zero_add,wrapI (n:=(s.s0.deck.length:Int)+(s.s0.hand.length:Int)+(s.s0.grave.length:Int)+(s.s0.units.length:Int)) (by omega) (by omega)];refine Zi ?_;refine Za rfl (Qd ?_);refine Za rfl (Za rfl (Za rfl (Xd rfl rfl (Xd rfl rfl ?_))));refine Za rfl (Za rfl (Za (v:=iv s.s1.deck.length) (rd:=[]) (by simp[Yg]) ?_));refine Za rfl (Za rfl (Za (v:=iv s.s1.hand.length) (rd:=[]) (by simp[Yg]) (Za (Xi ..) ?_)));rw[wrapI (n:=(s.s1.deck.length:Int)+(s.s1.hand.length:Int)) (by omega) (by omega)];refine Za rfl (Za rfl (Za (v:=iv s.s1.grave.length) (rd:=[]) (by simp[Yg]) (Za (Xi ..) ?_)));rw[wrapI (n:=(s.s1.deck.length:Int)+(s.s1.hand.length:Int)+(s.s1.grave.length:Int)) (by omega) (by omega)];refine Za rfl (Za rfl (Za (v:=iv s.s1.units.length) (rd:=[]) (by simp[Yg]) (Za (Xi ..) ?_)));rw[wrapI (n:=(s.s1.deck.length:Int)+(s.s1.hand.length:Int)+(s.s1.grave.length:Int)+(s.s1.units.length:Int)) (by omega) (by omega)];refine Za (Xi ..) (Za rfl ?_);rw[w2,wrapI (n:=((s.s0.deck.length:Int)+(s.s0.hand.length:Int)+(s.s0.grave.length:Int)+(s.s0.units.length:Int))+((s.s1.deck.length:Int)+(s.s1.hand.length:Int)+(s.s1.grave.length:Int)+(s.s1.units.length:Int))) (by omega) (by omega)];refine Zi ?_;exact Za rfl (Xg rfl)
end Go.Ah.Tz
end
section
namespace Go.Ah.Tz
open Go.Proofs.Tryz (prog)
theorem MayP.le{b:Bk}{s:St}(h:MayP b s):StLe 1000000 s:=by
 have l:∀ {x:Sd},SideP b x→SdLe 1000000 x:=λ{x} S=>by
  have h1:=(QJ.1 S.deck).1;have h2:=(QJ.1 S.hand).1;have h3:=(QJ.1 S.grave).1;have h4:=(QJ.1 S.told).1;have h5:=S.units;exact⟨by omega,by omega,by omega,by omega,by omega⟩
 refine⟨?_,l h.s0,l h.s1⟩;by_cases hp:s.phase=1
 ·have:=(h.at_.2 hp).2.1; omega
 ·rw[h.at_.1 hp]; simp
theorem Qa7{kd:Int}{fP:Int→Int×Int}{fU:Th→Int×Int}{s:St}{id:Int}(hid:id≠0)(k k':Int):chgF kd fP fU s id k=chgF kd fP fU s id k':=by
 unfold chgF;rw[if_neg hid,if_neg hid]
theorem cTi{b:Bk}(hf:bkFit b=true)(hsm:Yo b.cards){s:St}(hs:StLe 2000000 s)(hm:mayR (bkR b).1 b s true=true){f F F2:FuncId}{kd:Int}(hg:GQ f 5 (gT kd F)){gF:GFun}(hgF:GQ F 1 gF)(hF:∀x τ (K:AVal→List ABlk→Prop),K (.func (.func F2) [x] []) τ→gF VV [x] τ K)(h2p:Yk prog F2=true)(id sd n:Int)(hid:id≠0){fP:Int→Int×Int}{fU:Th→Int×Int}(hcU:∀m u life,0≤u.card→u.card.toNat<b.cards.length→PC F2 [.rptr (.rptr (bkC b) 0::m) 0,.rptr (thC u) 0,iv life,iv (cap4 n)] (.tup [iv (fU u).1,iv (fU u).2])) :
  PC f [bkV b,stV s,iv id,iv sd,iv n] (resV (chgF kd fP fU s id sd)):=by
 unfold chgF;rw[if_neg hid];by_cases hid2:id<0
 ·rw[if_pos hid2];exact cTn hf hsm hs hm hg hgF hF h2p id sd n hid _ _ _ rfl (.inl hid2)
 rw[if_neg hid2];cases q0:fnd s.s0.units id with
 |some k=>
  obtain⟨u,hk,_⟩:=X4 q0;have hca:=Yal hm u (List.mem_of_getElem? hk);simp only[hk,Option.getD_some];exact ZcL hf hsm hs hm hg hgF hF h2p id sd n hid hid2 k (by simp[unitV,unitR,q0]) u hk _ (hcU _ _ _ hca.1 hca.2)
 |none=>
  cases q1:fnd s.s1.units id with
  |some k=>
   obtain⟨u,hk,_⟩:=X4 q1;have hca:=Xal hm u (List.mem_of_getElem? hk);simp only[hk,Option.getD_some];exact YcL hf hsm hs hm hg hgF hF h2p id sd n hid hid2 k (by simp[unitV,unitR,q0,q1]) u hk _ (hcU _ _ _ hca.1 hca.2)
  |none=>exact cTn hf hsm hs hm hg hgF hF h2p id sd n hid _ _ _ rfl (.inr (by simp[unitR,q0,q1]))
section
variable {b:Bk} (hf:bkFit b=true) (hsm:Yo b.cards) {s:St} (hs:StLe 2000000 s) (hm:mayR (bkR b).1 b s true=true)
include hf hsm hs hm
theorem ZbJ(hz:sizeN s≤2000)(side:Int):∃x ev e,PC 18 [bkV b,stV s,iv side] (resX x ev (iv e))∧(e=0→MayP b x∧Xn x=Xn s):=by
 have hM:=(Yaq.1 hm).2;unfold sizeN at hz;by_cases h0:side=0
 ·subst h0; exact⟨_,_,_,c18_0 b hf hsm s hs hm,λh=>Xbo hM h (by omega) (by omega) (by omega)⟩
 by_cases h1:side=1
 ·subst h1; exact⟨_,_,_,c18_1 b hf hsm s hs hm,λh=>Qbo hM h (by omega) (by omega) (by omega)⟩
 exact⟨_,_,_,c18_n b hf hsm s hs hm side (by omega),λh=>by cases h⟩
theorem Qbp(side c:Int):∃x ev q,PC 21 [bkV b,stV s,iv side,iv c] (resX x ev (.bool q))∧(q=true→MayP b x∧Xn x=Xn s+1∧ev.id=s.next∧x.next=s.next+1):=by
 have hM:=(Yaq.1 hm).2;by_cases h0:side=0
 ·subst h0;have h:=c21_0 b hf hsm s hs hm c;unfold Xat at h;by_cases hn:XS b s 0 c=true
  ·rw[if_pos hn] at h; exact⟨_,_,_,h,λh=>by cases h⟩
  ·rw[if_neg hn] at h;obtain⟨k1,k2⟩:=Zba hM (by simpa using hn);exact⟨_,_,_,h,λ_=>⟨k1,k2,rfl,rfl⟩⟩
 by_cases h1:side=1
 ·subst h1;have h:=c21_1 b hf hsm s hs hm c;unfold Xat at h;by_cases hn:XS b s 1 c=true
  ·rw[if_pos hn] at h; exact⟨_,_,_,h,λh=>by cases h⟩
  ·rw[if_neg hn] at h;obtain⟨k1,k2⟩:=Yba hM (by simpa using hn);exact⟨_,_,_,h,λ_=>⟨k1,k2,rfl,rfl⟩⟩
 exact⟨_,_,_,c21_n b hf hsm s hs hm side (by omega) c,λh=>by cases h⟩
theorem YbJ(id side n:Int):∃x ev e,PC 22 [bkV b,stV s,iv id,iv side,iv n] (resX x ev (iv e))∧(e=0→MayP b x∧Xn x=Xn s∧0≤ev.n):=by
 have hM:=(Yaq.1 hm).2;by_cases h0:side=0∨side=1
 ·exact⟨_,_,_,c22 b hf hsm s hs hm id side n h0,λh=>XaT hM h0 h⟩
 by_cases hid:id=0
 ·subst hid; exact⟨_,_,_,c22_b b hf hsm s hs hm side n (by omega),λh=>by cases h⟩
 exact⟨(harmF b s id side n).1,(harmF b s id side n).2.1,(harmF b s id side n).2.2,cTi hf hsm hs hm (show GQ 22 5 (gT 5 65) from g22_ok) g65_ok w65 g66_ok.plain id side n hid (λm u life h1 h2=>c66u b m u life _ h1 h2),λh=>by
  unfold harmF at h ⊢;rw[Qa7 hid side 0] at h ⊢;exact XaT (n:=n) hM (.inl rfl) h⟩
theorem QbJ(id side n:Int):∃x ev e,PC 26 [bkV b,stV s,iv id,iv side,iv n] (resX x ev (iv e))∧(e=0→MayP b x∧Xn x=Xn s∧0≤ev.n):=by
 have hM:=(Yaq.1 hm).2;by_cases h0:side=0∨side=1
 ·exact⟨_,_,_,c26 b hf hsm s hs hm id side n h0,λh=>ZaW hM h0 h⟩
 by_cases hid:id=0
 ·subst hid; exact⟨_,_,_,c26_b b hf hsm s hs hm side n (by omega),λh=>by cases h⟩
 exact⟨(mendF s id side n).1,(mendF s id side n).2.1,(mendF s id side n).2.2,cTi hf hsm hs hm (show GQ 26 5 (gT 6 69) from g26_ok) g69_ok w69 g70_ok.plain id side n hid (λm u life _ _=>c70u b m u life _),λh=>by
  unfold mendF at h ⊢;rw[Qa7 hid side 0] at h ⊢;exact ZaW (n:=n) hM (.inl rfl) h⟩
end
end Go.Ah.Tz
end
section
namespace Go.Ah.Tz
open Go.Proofs.Tryz (prog)
structure Kp (b:Bk) (s:St) (τ:List ABlk) (n:Nat):Prop where
 len:τ.length=n
 lo:15≤n
 h0:hget τ 0=.box (bkC b)
 h1:hget τ 1=.box (stC s)
 hc:hget τ 14=.box (stO s 3)
 kk:∀i x,(stB s)[i]?=some x→hget τ (3+i)=x
theorem Kp.keep{b:Bk}{s:St}{τ τ':List ABlk}{n n':Nat}(h:Kp b s τ n)(hl:τ'.length=n')(hn:n≤n')(he:∀c,c<15→hget τ' c=hget τ c):Kp b s τ' n':=
 ⟨hl,by have:=h.lo; omega,(he _ (by decide)).trans h.h0,(he _ (by decide)).trans h.h1,(he _ (by decide)).trans h.hc,λi x hx=>by
  have hi:i < 11:=(YLG hx).1;rw[he _ (by omega)]; exact h.kk i x hx⟩
theorem Za5{b:Bk}{s:St}{τ:List ABlk}{n:Nat}(h:Kp b s τ n){x:St}{ev:Ev}{K:AVal→AVal→List ABlk→Prop}(hK:∀τ',Kp b s τ' (n+2)→hget τ' n=.box (stC x)→hget τ' (n+1)=.box (evC ev)→K (.bptr n 0) (.bptr (n+1) 0) τ') :
  VV.wr (Xe zStC [] τ) τ λt σ=>VV.wr (Xe zEvC [] σ) σ λu σ=>VV.wr (Xb 23 [t,stV x] σ) σ λ_ σ=>VV.wr (Xb 7 [u,evV ev] σ) σ λ_ σ=>K t u σ:=by
 have hl:=h.len;subst hl;refine Xd (Xa0 τ _) (ZL _ _) ?_;refine Xd (Xa0 _ _) (ZL _ _) ?_;have l1:(τ++[ABlk.box zStC]).length=τ.length+1:=by simp
 rw[l1];refine Xd (stv (row':=stC x) (Ym _ (Yj _ _) (by simp)) rfl rfl rfl) (Xo _ (by simp)) ?_;have l2:((τ++[ABlk.box zStC])++[ABlk.box zEvC]).length=τ.length+2:=by simp
 have e1:hget ((τ++[ABlk.box zStC])++[ABlk.box zEvC]) (τ.length+1)=.box zEvC:=by have:=Yj (τ++[ABlk.box zStC]) (.box zEvC); rwa [l1] at this
 refine Xd (stv (row':=evC ev) (Qp e1 (by simp) (by omega)) rfl rfl rfl) (Xo _ (by simp)) ?_;have lo:=h.lo;refine hK _ (h.keep (by simp) (by omega) (λc hc=>?_)) ?_ ?_
 ·rw[Qm _ (by simp; omega) (by omega),Qm _ (by simp; omega) (by omega),XC _ (by simp; omega),XC _ (by omega)]
 ·exact Qp (Xj _ (by simp)) (by simp) (by omega)
 ·exact Xj _ (by simp)
attribute [local irreducible] Ans.rd Ans.pu Ans.wr Ans.dr Ans.gr Ans.gw Ans.gl Ans.gd Ans.opt joinK W
set_option maxHeartbeats 8000000
theorem QcQ{b:Bk}{s x:St}{τ:List ABlk}{n p:Nat}{e all:Int}(h67:PC 67 [bkV b] (.agg [iv (bkR b).1,iv (bkR b).2]))(hyes:∀x,MayP b x→mayR (bkR b).1 b x true=true)(h:Kp b s τ n)(hx:hget τ p=.box (stC x))(hk:e=0→MayP b x∧Xn x=all){K:List ABlk→AVal→Prop}(hK:K τ (.bool false)) :
  VV.gr (.bool (decide (e=0))) true (λk=>VV.rd (Yd true 2 [.bptr 0 0] τ) k) λt70_40=>
  VV.gr (.bool (decide (e=0))) true (λk=>VV.rd (Yd true 23 [.bptr p 0] τ) k) λt71_41=>
  VV.gw (.bool (decide (e=0))) true (λk=>VV.call (.call 25) [t70_40,t71_41,(.bool true)] τ k) τ λt72_42 τ=>
  VV.gr (.bool (decide (e=0))) true (λk=>VV.rd (Yq .not [t72_42] τ) k) λt73_43=>
  VV.gr (.bool (decide (e=0))) true (λk=>VV.rd (Xh [t73_43] τ) k) λt74_44=>
  VV.gr t74_44 false (λk=>VV.rd (Yd true 23 [.bptr p 0] τ) k) λt75_45=>
  VV.gw t74_44 false (λk=>VV.call (.call 24) [t75_45] τ k) τ λt76_46 τ=>
  VV.gr t74_44 false (λk=>VV.rd (Xh [iv all] τ) k) λt77_47=>
  VV.gr t74_44 false (λk=>VV.rd (Zk .neq false [t76_46,t77_47] τ) k) λt78_48=>
  VV.gr (.bool (decide (e=0))) true (λk=>VV.rd (Zo [t74_44,(.bool true),t78_48] τ) k) λt79_49=>
  VV.rd (Zo [(.bool (decide (e=0))),t79_49,(.bool false)] τ) (K τ):=by
 by_cases h0:e=0
 ·obtain⟨M,C⟩:=hk h0;rw[decide_eq_true h0];refine Xa (Za (ld h.h0 rfl) (Xa (Za (ld hx rfl) (Qa (Xc (c25 b x (M.le.mono (by decide)) true _ _ h67) rfl g25_ok.plain rfl ?_)))));rw[hyes x M];refine Xa (Za rfl (Xa (Za rfl (Xa (Za (ld hx rfl) (Qa (Xc (c24 x (M.le.mono (by decide))) rfl g24_ok.plain rfl ?_)))))));refine Xa (Za rfl (Xa (Za (ZU ..) (Xa (Za rfl (Za rfl ?_))))));rw[C];simpa using hK
 rw[decide_eq_false h0];repeat first|refine Yb rfl ?_|refine Yc rfl ?_|refine Zc rfl ?_|refine Zd rfl ?_
 exact Za rfl hK
theorem Xcf{b:Bk}{s x:St}{ev:Ev}{τ:List ABlk}{n p r:Nat}{e all:Int}(h67:PC 67 [bkV b] (.agg [iv (bkR b).1,iv (bkR b).2]))(hyes:∀x,MayP b x→mayR (bkR b).1 b x true=true)(h:Kp b s τ n)(hx:hget τ p=.box (stC x))(hv:hget τ r=.box (evC ev))(hk:e=0→MayP b x∧Xn x=all∧0≤ev.n){K:List ABlk→AVal→Prop}(hK:K τ (.bool false)) :
  VV.gr (.bool (decide (e=0))) true (λk=>VV.rd (Yd true 2 [.bptr 0 0] τ) k) λt147_108=>
  VV.gr (.bool (decide (e=0))) true (λk=>VV.rd (Yd true 23 [.bptr p 0] τ) k) λt148_109=>
  VV.gw (.bool (decide (e=0))) true (λk=>VV.call (.call 25) [t147_108,t148_109,(.bool true)] τ k) τ λt149_110 τ=>
  VV.gr (.bool (decide (e=0))) true (λk=>VV.rd (Yq .not [t149_110] τ) k) λt150_111=>
  VV.gr (.bool (decide (e=0))) true (λk=>VV.rd (Xh [t150_111] τ) k) λt151_112=>
  VV.gr t151_112 false (λk=>VV.rd (Yd true 23 [.bptr p 0] τ) k) λt152_113=>
  VV.gw t151_112 false (λk=>VV.call (.call 24) [t152_113] τ k) τ λt153_114 τ=>
  VV.gr t151_112 false (λk=>VV.rd (Xh [iv all] τ) k) λt154_115=>
  VV.gr t151_112 false (λk=>VV.rd (Zk .neq false [t153_114,t154_115] τ) k) λt155_116=>
  VV.gr (.bool (decide (e=0))) true (λk=>VV.rd (Zo [t151_112,(.bool true),t155_116] τ) k) λt156_117=>
  VV.gr (.bool (decide (e=0))) true (λk=>VV.rd (Xh [t156_117] τ) k) λt157_118=>
  VV.gr t157_118 false (λk=>VV.rd (Ya 5 [.bptr r 0] τ) k) λt158_119=>
  VV.gr t157_118 false (λk=>VV.rd (Yd false 1 [t158_119] τ) k) λt159_120=>
  VV.gr t157_118 false (λk=>VV.rd (Zk .lss false [t159_120,(.int .i64 0)] τ) k) λt160_121=>
  VV.gr (.bool (decide (e=0))) true (λk=>VV.rd (Zo [t157_118,(.bool true),t160_121] τ) k) λt161_122=>
  VV.rd (Zo [(.bool (decide (e=0))),t161_122,(.bool false)] τ) (K τ):=by
 by_cases h0:e=0
 ·obtain⟨M,C,N⟩:=hk h0;rw[decide_eq_true h0];refine Xa (Za (ld h.h0 rfl) (Xa (Za (ld hx rfl) (Qa (Xc (c25 b x (M.le.mono (by decide)) true _ _ h67) rfl g25_ok.plain rfl ?_)))));rw[hyes x M];refine Xa (Za rfl (Xa (Za rfl (Xa (Za (ld hx rfl) (Qa (Xc (c24 x (M.le.mono (by decide))) rfl g24_ok.plain rfl ?_)))))));refine Xa (Za rfl (Xa (Za (ZU ..) (Xa (Za rfl ?_)))));rw[C,show decide (all≠all)=false by simp];refine Xa (Za rfl (Xa (Za rfl (Xa (Za (ld hv rfl) (Xa (Za (ZJ ..) (Xa (Za rfl (Za rfl ?_))))))))));rw[decide_eq_false (by omega)];exact hK
 rw[decide_eq_false h0];repeat first|refine Yb rfl ?_|refine Yc rfl ?_|refine Zc rfl ?_|refine Zd rfl ?_
 exact Za rfl hK
theorem YcG{b:Bk}{s x:St}{ev:Ev}{τ:List ABlk}{n p r:Nat}{q:Bool}{all:Int}(h67:PC 67 [bkV b] (.agg [iv (bkR b).1,iv (bkR b).2]))(hyes:∀x,MayP b x→mayR (bkR b).1 b x true=true)(h:Kp b s τ n)(hx:hget τ p=.box (stC x))(hv:hget τ r=.box (evC ev))(hk:q=true→MayP b x∧Xn x=all+1∧ev.id=s.next∧x.next=s.next+1)(ha:0≤all∧all≤1000000000)(hN:0≤s.next∧s.next≤1000000000){K:List ABlk→AVal→Prop}(hK:K τ (.bool false)) :
  VV.gr (.bool q) true (λk=>VV.rd (Yd true 2 [.bptr 0 0] τ) k) λt92_59=>
  VV.gr (.bool q) true (λk=>VV.rd (Yd true 23 [.bptr p 0] τ) k) λt93_60=>
  VV.gw (.bool q) true (λk=>VV.call (.call 25) [t92_59,t93_60,(.bool true)] τ k) τ λt94_61 τ=>
  VV.gr (.bool q) true (λk=>VV.rd (Yq .not [t94_61] τ) k) λt95_62=>
  VV.gr (.bool q) true (λk=>VV.rd (Xh [t95_62] τ) k) λt96_63=>
  VV.gr t96_63 false (λk=>VV.rd (Yd true 23 [.bptr p 0] τ) k) λt97_64=>
  VV.gw t96_63 false (λk=>VV.call (.call 24) [t97_64] τ k) τ λt98_65 τ=>
  VV.gr t96_63 false (λk=>VV.rd (Xh [iv all] τ) k) λt99_66=>
  VV.gr t96_63 false (λk=>VV.rd (Zk .add false [t99_66,(.int .i64 1)] τ) k) λt100_67=>
  VV.gr t96_63 false (λk=>VV.rd (Zk .neq false [t98_65,t100_67] τ) k) λt101_68=>
  VV.gr (.bool q) true (λk=>VV.rd (Zo [t96_63,(.bool true),t101_68] τ) k) λt102_69=>
  VV.gr (.bool q) true (λk=>VV.rd (Xh [t102_69] τ) k) λt103_70=>
  VV.gr t103_70 false (λk=>VV.rd (Ya 3 [.bptr r 0] τ) k) λt104_71=>
  VV.gr t103_70 false (λk=>VV.rd (Yd false 1 [t104_71] τ) k) λt105_72=>
  VV.gr t103_70 false (λk=>VV.rd (Ya 6 [.bptr 1 0] τ) k) λt106_73=>
  VV.gr t103_70 false (λk=>VV.rd (Yd false 1 [t106_73] τ) k) λt107_74=>
  VV.gr t103_70 false (λk=>VV.rd (Zk .neq false [t105_72,t107_74] τ) k) λt108_75=>
  VV.gr (.bool q) true (λk=>VV.rd (Zo [t103_70,(.bool true),t108_75] τ) k) λt109_76=>
  VV.gr (.bool q) true (λk=>VV.rd (Xh [t109_76] τ) k) λt110_77=>
  VV.gr t110_77 false (λk=>VV.rd (Ya 6 [.bptr p 0] τ) k) λt111_78=>
  VV.gr t110_77 false (λk=>VV.rd (Yd false 1 [t111_78] τ) k) λt112_79=>
  VV.gr t110_77 false (λk=>VV.rd (Ya 6 [.bptr 1 0] τ) k) λt113_80=>
  VV.gr t110_77 false (λk=>VV.rd (Yd false 1 [t113_80] τ) k) λt114_81=>
  VV.gr t110_77 false (λk=>VV.rd (Zk .add false [t114_81,(.int .i64 1)] τ) k) λt115_82=>
  VV.gr t110_77 false (λk=>VV.rd (Zk .neq false [t112_79,t115_82] τ) k) λt116_83=>
  VV.gr (.bool q) true (λk=>VV.rd (Zo [t110_77,(.bool true),t116_83] τ) k) λt117_84=>
  VV.rd (Zo [(.bool q),t117_84,(.bool false)] τ) (K τ):=by
 cases q with
 |true=>
  obtain⟨M,C,I,N⟩:=hk rfl;refine Xa (Za (ld h.h0 rfl) (Xa (Za (ld hx rfl) (Qa (Xc (c25 b x (M.le.mono (by decide)) true _ _ h67) rfl g25_ok.plain rfl ?_)))));rw[hyes x M];refine Xa (Za rfl (Xa (Za rfl (Xa (Za (ld hx rfl) (Qa (Xc (c24 x (M.le.mono (by decide))) rfl g24_ok.plain rfl ?_)))))));refine Xa (Za rfl (Xa (Za (Xi ..) (Xa (Za (ZU ..) (Xa (Za rfl ?_)))))));rw[C,wrapI (n:=all+1) (by omega) (by omega),show decide (all+1≠all+1)=false by simp];refine Xa (Za rfl (Xa (Za rfl (Xa (Za (ld hv rfl) (Xa (Za rfl (Xa (Za (ld h.h1 rfl) (Xa (Za (ZU ..) (Xa (Za rfl ?_)))))))))))));rw[I,show decide (s.next≠s.next)=false by simp];refine Xa (Za rfl (Xa (Za rfl (Xa (Za (ld hx rfl) (Xa (Za rfl (Xa (Za (ld h.h1 rfl) (Xa (Za (Xi ..) (Xa (Za (ZU ..) (Xa (Za rfl (Za rfl ?_))))))))))))))));rw[N,wrapI (n:=s.next+1) (by omega) (by omega),show decide (s.next+1≠s.next+1)=false by simp];exact hK
 |false=>
 repeat first|refine Yb rfl ?_|refine Yc rfl ?_|refine Zc rfl ?_|refine Zd rfl ?_
 exact Za rfl hK
theorem c4(h17:PC 17 [] (.bool true))(b:Bk)(hf:bkFit b=true)(hsm:Yo b.cards)(s:St)(hs:StLe 2000000 s)(side card id n:Int):PC 4 [bkV b,stV s,iv side,iv card,iv id,iv n] (.bool true):=by
 have h67:=c67 b hf;refine Ye hP g4_ok rfl rfl ?_;unfold g4;refine Xd (v:=.bptr 0 0) (rd:=[]) (up:=[(0,.box (bkC b))]) rfl rfl ?_;refine Xd (v:=.bptr 1 0) (rd:=[]) (up:=[(1,.box (stC s))]) rfl rfl ?_;refine Za rfl ?_;refine Zs hP rfl g14_ok rfl (c14 b hf _ _ (λq=>?_));have hend:∀σ,VV.call (.call 17) [] σ λt44_18 σ=>(λ(v':AVal) (_:List ABlk)=>v'=.bool true) t44_18 σ:=λσ=>Xc h17 rfl g17_ok.plain rfl rfl;cases q with
 |true=>
  repeat first|refine Yb rfl ?_|refine Zc rfl ?_
  refine Za rfl ?_;repeat first|refine Yb rfl ?_|refine Zc rfl ?_
  refine Za rfl ?_;repeat (refine Yb rfl ?_)
  exact Za rfl (Qd (hend _))
 |false=>
 refine Xa (Za rfl (Qa ?_));refine Xc (c15x s hs) rfl g15_ok.plain rfl ?_;by_cases hz:2000<sizeN s
 ·rw[decide_eq_true hz];refine Za rfl ?_;repeat first|refine Yb rfl ?_|refine Zc rfl ?_
  refine Za rfl ?_;repeat (refine Yb rfl ?_)
  exact Za rfl (Qd (hend _))
 rw[decide_eq_false hz];have hz:sizeN s≤2000:=by omega
 refine Za rfl (Xa (Za rfl (Xa (Za rfl (Qa ?_)))));refine Xc (c16 b s (hs.mono (by decide)) _ _ h67) rfl g16_ok.plain rfl ?_;rcases YBE (mayR (bkR b).1 b s false) with hm0|hm0
 rotate_left
 ·rw[hm0];refine Xa (Za rfl (Za rfl ?_));repeat (refine Yb rfl ?_)
  exact Za rfl (Qd (hend _))
 rw[hm0];have hm:=Zcr hm0;obtain⟨he,hM⟩:=Yaq.1 hm;have hyes:∀x,MayP b x→mayR (bkR b).1 b x true=true:=λx hx=>Yaq.2 ⟨he,hx⟩;refine Xa (Za rfl (Za rfl ?_));refine Xa (Za rfl (Xa (Za rfl (Xa (Za rfl (Xa (Za rfl (Xa (Za (v:=iv s.s0.grave.length) (rd:=[]) (by simp[Yg]) ?_)))))))));refine Xa (Za rfl (Xa (Za rfl (Xa (Za rfl (Xa (Za rfl (Xa (Za (v:=iv s.s0.told.length) (rd:=[]) (by simp[Yg]) ?_)))))))));refine Xa (Za (Xi ..) (Xa (Za (XX ..) (Za rfl (Qb (λ_=>hend _) (λ_=>?_))))));have h9:StLe 1000000000 s:=hs.mono (by decide);refine Za rfl (XcG h9 (λτ m hm1 hm2 hb hc kk=>?_));have hm1:3=m:=hm1;subst hm1;have K0:Kp b s τ 15:=⟨hm2,by decide,hb 0 _ rfl,hb 1 _ rfl,hc,kk⟩;clear hm2 hb hc kk;refine Za (ld K0.h1 rfl) (Xc (c24 s (hs.mono (by decide))) rfl g24_ok.plain rfl ?_);obtain⟨x,ev,e,h18,hk⟩:=ZbJ hf hsm hs hm hz side;refine Za (ld K0.h0 rfl) (Za (ld K0.h1 rfl) (Xc h18 rfl g18_ok.plain rfl (Za rfl (Za rfl (Za rfl ?_)))));refine Za5 K0 (λτ K1 hx hev=>?_);refine Za (Zf ..) (QcQ h67 hyes K1 hx hk (Xg ?_));obtain⟨x2,ev2,q2,h21,hk2⟩:=Qbp hf hsm hs hm side card;refine Za (ld K1.h0 rfl) (Za (ld K1.h1 rfl) (Xc h21 rfl g21_ok.plain rfl (Za rfl (Za rfl (Za rfl ?_)))));clear hx hev hk h18 x ev e;refine Za5 K1 (λτ K2 hx hev=>?_);clear K1;have hL:=hM.le;obtain⟨_,_,_,_,_,_,_,_,_,hN0,hN1⟩:=hM.hd;have hca:0≤Xn s∧Xn s≤2000:=by
  unfold sizeN at hz; unfold Xn; omega
 refine YcG h67 hyes K2 hx hev hk2 (by omega) (by omega) (Xg ?_);clear hx hev hk2 h21 x2 ev2 q2 hN0 hN1 hca;refine Za rfl (Yy 3 (Zi ?_));obtain⟨x,ev,e,h22,hk⟩:=YbJ hf hsm hs hm id side n;obtain⟨x2,ev2,e2,h26,hk2⟩:=QbJ hf hsm hs hm id side n;refine Za rfl (Qd (Za rfl ?_));refine Za (ld K2.h0 rfl) (Za (ld K2.h1 rfl) (Xc h22 rfl g22_ok.plain rfl (Za rfl (Za rfl (Za rfl ?_)))));refine Za5 K2 (λτ K3 hx hev=>?_);clear K2;refine Qh λk99 hk99=>Xg ?_;rw[hk99];refine Za (Zf ..) (Xcf h67 hyes K3 hx hev hk (Xg ?_));clear hx hev hk99 k99;refine Za rfl (Zi ?_);refine Za rfl (Qd (Za rfl ?_));refine Za (ld K3.h0 rfl) (Za (ld K3.h1 rfl) (Xc h22 rfl g22_ok.plain rfl (Za rfl (Za rfl (Za rfl ?_)))));refine Za5 K3 (λτ K4 hx hev=>?_);clear K3;refine Qh λk99 hk99=>Qd ?_;refine Za (ld K4.h0 rfl) (Za (ld K4.h1 rfl) (Xc h26 rfl g26_ok.plain rfl (Za rfl (Za rfl (Za rfl ?_)))));have l4:=K4.len;refine Xd (v:=.junk) (stv hx rfl rfl rfl) (Xo _ (by omega)) ?_;refine Xd (v:=.junk) (stv (row':=evC ev2) (Qp hev (by simp) (by decide)) rfl rfl rfl) (Xo _ (by simp; omega)) ?_;rw[hk99];have K5:Kp b s ((τ.set 21 (.box (stC x2))).set 22 (.box (evC ev2))) 23:=K4.keep (by simp[l4]) (by decide) (λc hc=>by rw[Qm _ (by simp; omega) (by omega),Qm _ (by omega) (by omega)]);refine Za (Zf ..) (Xcf h67 hyes K5 (x:=x2) (ev:=ev2) (Qp (Xj _ (by omega)) (by simp) (by decide)) (Xj _ (by simp; omega)) hk2 (Xg ?_));generalize (τ.set 21 (.box (stC x2))).set 22 (.box (evC ev2))=τ at K5 ⊢;clear hx hev hk99 k99 K4 hk hk2 h22 h26 x ev e x2 ev2 e2 l4;refine Za rfl (Zi ?_);refine Za rfl (Xg ?_);have l5:=K5.len;obtain⟨D1,D2,D3⟩:=QbH hM;have h28:=c28 b hf hsm s hs hm;have h27:=c27 b hf hsm s hs hm (deadF b s) (by omega);have hbv:=ZaR (deadF b s) s D1 D2;have hbk:=Yas (deadF b s) hM (by unfold sizeN at hz; omega) (by unfold sizeN at hz; omega);clear D1 D2;generalize deadF b s=D at h28 h27 hbv hbk D3;generalize buryGo D s=r at h27 hbv hbk;obtain⟨x,evs⟩:=r;obtain⟨M,C⟩:=hbk;have hbv:evs.length=D.length:=hbv;refine Yh (ld K5.h0 rfl) rfl (Yh (ld K5.h1 rfl) rfl (Yh (ld K5.h0 rfl) rfl (Yh (ld K5.h1 rfl) rfl ?_)));refine Yp h28 rfl g28_ok.plain rfl (Yp h27 rfl g27_ok.plain rfl (Qg rfl (Qg rfl ?_)));refine Yh (v:=.bptr 23 0) (rd:=[]) (up:=[(23,.box zStC)]) (by rw[←l5]; exact Xa0 ..) (by rw[←l5]; exact ZL _ _) ?_;refine Yh (v:=.junk) (rd:=[]) (stv (row':=stC x) (by rw[←l5]; exact Yj _ _) rfl rfl rfl) (Xo _ (by simp[l5])) (QB (by kernel_rfl) ?_);have K6:Kp b s ((τ++[ABlk.box zStC]).set 23 (ABlk.box (stC x))) 24:=K5.keep (by simp[l5]) (by decide) (λc hc=>by rw[Qm _ (by simp; omega) (by omega),XC _ (by omega)]);have hx:hget ((τ++[ABlk.box zStC]).set 23 (ABlk.box (stC x))) 23=.box (stC x):=Xj _ (by simp[l5]);generalize (τ++[ABlk.box zStC]).set 23 (ABlk.box (stC x))=τ at K6 hx ⊢;clear K5 l5;refine Za (ld K6.h0 rfl) (Za (ld hx rfl) (Xc (c25 b x (M.le.mono (by decide)) true _ _ h67) rfl g25_ok.plain rfl ?_));rw[hyes x M];refine Za rfl (Xa (Za (ld hx rfl) (Qa (Xc (c24 x (M.le.mono (by decide))) rfl g24_ok.plain rfl ?_))));refine Xa (Za rfl (Xa (Za (ZU ..) (Za rfl ?_))));rw[show Xn x=Xn s from C,show decide (Xn s≠Xn s)=false by simp];refine Xa (Za rfl (Xa (Za (v:=iv evs.length) (rd:=[]) (by simp[Yg]) (Xa (Za (ld K6.h0 rfl) (Xa (Za (ld K6.h1 rfl) ?_)))))));refine Qa (Xc h28 rfl g28_ok.plain rfl (Xa (Za (v:=iv D.length) (rd:=[]) (by simp[Yg]) (Xa (Za (ZU ..) (Za rfl ?_))))));rw[hbv,show decide ((D.length:Int)≠D.length)=false by simp];refine Xg (Za (ld K6.h1 rfl) (Za (ld K6.hc rfl) ?_));have hin:∀i,i<11→3+i∈List.range' 3 11:=λi hi=>by simp; omega
 have kk:=K6.kk;refine YU (rd:=List.range' 3 11) (c20s s h9) rfl g20_ok.plain (.cons (Bor.ro rfl) <| .cons (SB.agg (SB.mk (s:=s) ?_ ?_ ?_ ?_ ?_ ?_ ?_ ?_ ?_ ?_ ?_)) .nil) rfl ?_
 ·exact RI.own (kk 0 _ rfl) (hin 0 (by decide)) rfl
 ·exact RI.own (kk 1 _ rfl) (hin 1 (by decide)) rfl
 ·exact RI.own (kk 2 _ rfl) (hin 2 (by decide)) rfl
 ·exact RI.own (kk 3 _ rfl) (hin 3 (by decide)) rfl
 ·exact RT.own (kk 4 _ rfl) (hin 4 (by decide)) rfl
 ·exact RI.own (kk 5 _ rfl) (hin 5 (by decide)) rfl
 ·exact RI.own (kk 6 _ rfl) (hin 6 (by decide)) rfl
 ·exact RI.own (kk 7 _ rfl) (hin 7 (by decide)) rfl
 ·exact RI.own (kk 8 _ rfl) (hin 8 (by decide)) rfl
 ·exact RT.own (kk 9 _ rfl) (hin 9 (by decide)) rfl
 ·exact RI.own (kk 10 _ rfl) (hin 10 (by decide)) rfl
 exact Qa (Xc h17 rfl g17_ok.plain rfl (Za rfl rfl))
end Go.Ah.Tz
end
