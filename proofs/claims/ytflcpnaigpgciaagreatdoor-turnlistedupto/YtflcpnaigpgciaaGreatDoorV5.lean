/- Part of the proof that TurnListed holds of the program for arguments that together hold at most 1048576 values and letters; no other condition. -/
import Derived.Test.YtflcpnaigpgciaaGreatDoorV4
import Derived.Test.YtflcpnaigpgciaaGreatDoorRows
import Derived.Test.YtflcpnaigpgciaaGreatDoorCards
import Derived.Test.YtflcpnaigpgciaaGreatDoorTie
import Derived.ProofKit
import Derived.OpenShut
import Derived.Carry
import Derived.SevenTiedAt
import Derived.JoinedCond
import Derived.LaidMore
import Derived.SizedLaws
import Derived.Stop.LaidErr
import Derived.Deep.DeepHandedRow
import Derived.Deep.DeepWitnessRowRef
import Derived.Lib.LaidTab
import Derived.Sort.OwnSortedInts
import Derived.Shelf.Sort.Plain
import Derived.Test.YtflcpnaigpgciaaGreatDoorChecked
set_option linter.all false
section
namespace Go.Ah.Tz
open Go.Proofs.Tryz (prog)
def ilook{α:Type}(t:Int):List (Int×α)→Option α
 |[]=>none
 |p::l=>if t==p.1 then some p.2 else ilook t l
def mpG{α:Type}(f:α→AVal)(l:List (Int×α)):List (AVal×AVal):=l.map λp=>(iv p.1,f p.2)
theorem QaU{α:Type}(f:α→AVal)(t:Int):∀l:List (Int×α),alook (iv t) (mpG f l)=some ((ilook t l).map f)
 |[]=>rfl
 |p::l=>by
  simp only[mpG,List.map_cons,alook,keyEq,ilook,ikEq,cond_true];cases h:t==p.1 with
  |true=>rfl
  |false=>exact QaU f t l
theorem Zbj{α:Type}(f:α→AVal)(t:Int)(v:α):∀l:List (Int×α),ilook t l=none→aput (iv t) (f v) (mpG f l)=some (mpG f (l++[(t,v)]))
 |[],_=>rfl
 |p::l,h=>by
  rw[ilook] at h;split at h
  ·cases h
  ·rename_i h2;have h2:(t==p.1)=false:=by simpa using h2
   have:=Zbj f t v l h;simp only[mpG] at this;simp only[mpG,List.map_cons,List.cons_append,aput,keyEq,ikEq,cond_true,h2,this]
theorem Yal{α:Type}(t:Int):∀ (a b:List (Int × α)),ilook t (a ++ b)=(match ilook t a with
 |some v=>some v
 | none=>ilook t b)
 |[],b=>rfl
 |p::a,b=>by
  simp only[List.cons_append,ilook];split
  ·rfl
  ·exact Yal t a b
theorem Yah{α:Type}(t:Int):∀l:List (Int×α),(ilook t l).isSome=(l.map (·.1)).contains t
 |[]=>rfl
 |p::l=>by
  simp only[ilook,List.map_cons,List.contains_cons];cases h:t==p.1 with
  |true=>simp
  |false=>simp only[Bool.false_eq_true,if_false,Bool.false_or]; exact Yah t l
theorem Xag{α:Type}(f:α→AVal)(z:AVal)(ok:Bool){σ:List ABlk}{b:Nat}{l:List (Int×α)}(h:hget σ b=.map (mpG f l))(t:Int):Qn false ok z [.map b,iv t] σ=.ok (lookV ok z ((ilook t l).map f)) [b] []:=by
 simp only[Qn,ZX,mapOf,h,QaU,cond_true]
theorem QaX{α:Type}(f:α→AVal){σ:List ABlk}{b:Nat}{l:List (Int×α)}(h:hget σ b=.map (mpG f l))(t:Int)(v:α)(hn:ilook t l=none):Zv false [.map b,iv t,f v] σ=.ok .junk [] [(b,.map (mpG f (l++[(t,v)])))]:=by
 simp only[Zv,ZX,h,Zbj f t v l hn,cond_true]
structure SdAt (row:List AVal) (j:Nat) (x:Sd):Prop where
 h0:partA false (j+0) 1 row=some (iv x.life)
 h1:partA false (j+1) 1 row=some (iv x.mana)
 h2:partA false (j+2) 1 row=some (iv x.most)
 h3:partA false (j+3) 1 row=some (rowV x.deck)
 h4:partA false (j+4) 1 row=some (rowV x.hand)
 h5:partA false (j+5) 1 row=some (rowV x.grave)
 h6:partA false (j+6) 1 row=some (thV x.units)
 h7:partA false (j+7) 1 row=some (rowV x.told)
theorem sdAt0(s:St):SdAt (stC s) 7 s.s0:=⟨rfl,rfl,rfl,rfl,rfl,rfl,rfl,rfl⟩
theorem sdAt1(s:St):SdAt (stC s) 15 s.s1:=⟨rfl,rfl,rfl,rfl,rfl,rfl,rfl,rfl⟩
attribute [local irreducible] Ans.rd Ans.pu Ans.wr Ans.dr Ans.gr Ans.gw Ans.gl Ans.gd Ans.opt joinK W
set_option maxHeartbeats 2000000
theorem c120(l:List Int)(hl:l.length≤big)(id:FuncId)(fs cs:List AVal)(hp:Qm prog id=true)(f:Int→Bool)(hc:∀x∈l,PC id (fs++[iv x]++cs) (.bool (f x)))(hr:∀x,roL (fs++[iv x]++cs)=true) :
  PC 120 [rowV l,.func (.func id) fs cs] (iv (idxF f l 0)):=by
 rw[bigE] at hl;refine Xd hP g120_ok rfl rfl ?_;unfold g120;refine Za (v:=iv l.length) (rd:=[]) (by simp[Yg]) ?_;refine Qj (ι:=Nat) (λi vs s=>vs=[iv i]∧i≤l.length∧idxF f l 0=idxF f (l.drop i) i) (λi=>l.length-i) 0 ⟨rfl,by omega,by simp⟩ ?_;rintro i vs s again ⟨rfl,hi,hr'⟩ hag;refine Za rfl (Zc (λh=>?_) (λh=>?_))
 ·have h:i<l.length:=by simpa using h
  refine Za (Zn _ cel _ _ _ l _ i h) (Za (ldr rfl) ?_);refine Yd (hc _ (List.getElem_mem h)) rfl hp (hr _) ?_;rw[YLD h,idxF] at hr';refine Zc (λh2=>?_) (λh2=>?_)
  ·rw[if_pos h2] at hr'; rw[hr']; rfl
  ·rw[if_neg (by rw[h2]; simp)] at hr';refine Za (Zl ..) ?_;rw[Qf (n:=i) (by omega)];exact hag (i+1) _ _ (by omega) ⟨rfl,by omega,by rw[hr']; push_cast; rfl⟩
 ·have h:i=l.length:=by simp at h; omega
  subst h;rw[List.drop_length,idxF] at hr';rw[hr']
theorem c185(l:List Int)(hl:l.length≤big)(id:FuncId)(fs cs:List AVal)(hp:Qm prog id=true)(f:Int→Bool)(hc:∀x∈l,PC id (fs++[iv x]++cs) (.bool (f x)))(hr:∀x,roL (fs++[iv x]++cs)=true)(hr2:roL [rowV l,.func (.func id) fs cs]=true) :
  PC 185 [rowV l,.func (.func id) fs cs] (.bool (l.any f)):=by
 refine Xd hP g185_ok rfl rfl ?_;unfold g185;refine Yd (c120 l hl id fs cs hp f hc hr) rfl g120_ok.plain hr2 ?_;refine Za (Yag ..) ?_;rw[XaP f l 0 (by omega)]
theorem c186(b:Bk)(x:Int):PC 186 [iv x,.rptr [.rptr [cdV b.cards,foV b.formats] 0] 0] (.bool (decide (x<0)||decide ((b.cards.length:Int)≤x))):=by
 refine Xd hP g186_ok rfl rfl ?_;unfold g186;refine Za (QB ..) ?_;refine Qbs (λ_=>rfl) (λ_=>ldr rfl) (λ_=>rfl) (λ_=>rfl) (λ_=>ldr rfl) (v6:=iv b.cards.length) (q6:=[]) (λ_=>by simp[Yg]) (λ_=>Yag ..) rfl
theorem Qbu(n:Nat)(l:List Int)(most:Int):(!(decide ((l.length:Int)>most)||l.any λx=>decide (x<0)||decide ((n:Int)≤x)))=Xo n l most:=by
 rw[Xo,Bool.not_or,Qb0]
 congr 1
 ·rw[Bool.eq_iff_iff]; simp
 ·congr 1; funext x
  rw[Bool.eq_iff_iff]; simp
end Go.Ah.Tz
end
section
namespace Go.Ah.Tz
open Go.Proofs.Tryz (prog)
theorem Yce(f:Int→AVal)(z:AVal)(o:Option Int):lookV true z (o.map f)=.tup [(o.map f).getD z,.bool o.isSome]:=by cases o<;>rfl
theorem QbK{σ:List ABlk}{b:Nat}{row:List AVal}(h:hget σ b=.box [.rptr row 0])(l:List Int)(id:FuncId):Xs σ 1000 [rowV l,.func (.func id) [] [.bptr b 0]]=some ([rowV l,.func (.func id) [] [.rptr [.rptr row 0] 0]],[b]):=by
 show Xs σ (997+1+1+1) _=_;simp[Xs,h,AVal.ro]
attribute [local irreducible] Ans.rd Ans.pu Ans.wr Ans.dr Ans.gr Ans.gw Ans.gl Ans.gd Ans.opt joinK W
set_option maxHeartbeats 4000000
@[reducible] def bkC(b:Bk):List AVal:=[cdV b.cards,foV b.formats]
theorem Ybp(b:Bk)(l:List Int)(hl:l.length≤big)(most:Int){σ:List ABlk}{b4:Nat}(hb:hget σ b4=.box [.rptr (bkC b) 0]){R K:List ABlk→Prop}(hR:Xo b.cards.length l most=false→∀σ',Old σ σ'→R σ')(hK:Xo b.cards.length l most=true→∀σ',Old σ σ'→K σ') :
  VV.wr (Ye [.nils,(.int .i64 0)] [] σ) σ λt11_62 σ=>VV.wr (Qb 2 [t11_62,.agg [rowV l,iv most]] σ) σ λ_ σ=>
  VV.rd (Ya 0 [t11_62] σ) λt88_63=>VV.rd (Xc false 1 [t88_63] σ) λt89_64=>VV.rd (Yf [t89_64] σ) λt90_65=>
  VV.rd (Ya 1 [t11_62] σ) λt91_66=>VV.rd (Xc false 1 [t91_66] σ) λt92_67=>VV.rd (Xh .gtr false [t90_65,t92_67] σ) λt93_68=>
  VV.gr t93_68 false (λk=>VV.rd (Ya 0 [t11_62] σ) k) λt95_69=>VV.gr t93_68 false (λk=>VV.rd (Xc false 1 [t95_69] σ) k) λt96_70=>
  VV.gr t93_68 false (λk=>VV.rd (Qo (.func 186) 0 [.bptr b4 0] σ) k) λt97_71=>VV.gw t93_68 false (λk=>VV.call (.call 185) [t96_70,t97_71] σ k) σ λt98_72 σ=>
  VV.rd (Yi [t93_68,(.bool true),t98_72] σ) λt99_73=>VV.test t99_73 (R σ) (K σ):=by
 refine Qs (row:=[rowV l,iv most]) rfl rfl rfl ?_;have hB:=Zj σ (ABlk.box [rowV l,iv most]);have hb':hget (σ++[ABlk.box [rowV l,iv most]]) b4=.box [.rptr (bkC b) 0]:=Xi _ hb (by simp);have ho:=Old.app σ [ABlk.box [rowV l,iv most]];generalize σ++[ABlk.box [rowV l,iv most]]=τ at hB hb' ho ⊢;generalize σ.length=c at hB ⊢;refine Za rfl (Za (ld hB rfl) (Za (v:=iv l.length) (rd:=[]) (by simp[Yg]) (Za rfl (Za (ld hB rfl) (Za (ZG ..) ?_)))));refine Zb8 (d:=l.any λx=>decide (x<0)||decide ((b.cards.length:Int)≤x)) (λ_=>rfl) (λ_=>ld hB rfl) (λ_=>rfl) (λ_ k hk=>?_) ?_
 ·exact Zx (c185 l hl 186 [] [.rptr [.rptr (bkC b) 0] 0] g186_ok.plain (λx=>decide (x<0)||decide ((b.cards.length:Int)≤x)) (λx _=>c186 b x) (λx=>rfl) rfl) rfl g185_ok.plain (QbK hb' l 186) rfl hk
 have he:=Qbu b.cards.length l most;refine Zc (λh=>hR ?_ _ ho) (λh=>hK ?_ _ ho)
 ·rw[←he,h]; rfl
 ·rw[←he,h]; rfl
theorem Xcz(b:Bk)(next:Int)(u:Th)(met:Bool) :
  (!((((((((met||decide (u.card<0))||decide ((b.cards.length:Int)≤u.card)) || !((b.cards[u.card.toNat]?).getD default).unit)||decide (u.harm<0))||decide (1000000<u.harm))||decide (u.id<1))||decide (next≤u.id))))=(Qv b next u && !met):=by
 rw[Qv];cases met with
 |true=>simp
 |false=>
  by_cases h1:u.card<0
  ·have:¬0≤u.card:=by omega
   simp[h1,this]
  by_cases h2:(b.cards.length:Int)≤u.card
  ·have:¬u.card<b.cards.length:=by omega
   simp[h2,this]
  have e1:0≤u.card:=by omega
  have e2:u.card<b.cards.length:=by omega
  have e3:u.card.toNat<b.cards.length:=by omega
  simp only[h1,h2,e1,e2,decide_true,decide_false,Bool.or_false,Bool.true_and,Bool.not_false,Bool.and_true,Bool.false_or];rw[List.getElem?_eq_getElem e3];simp only[Option.map_some,Option.getD_some];generalize b.cards[u.card.toNat].unit=q;rw[Bool.eq_iff_iff];cases q<;>simp<;>omega
theorem c144(b:Bk)(s:St)(side:Int)(j:Nat)(x:Sd)(hx:SdAt (stC s) j x)(hj:∀σ,Yh 2 8 [.rptr (stC s) (0+7),iv side] σ=.ok (.rptr (stC s) j) [] [])(hs:SdLe 1000000000 x)(ids:List (Int×Int)){m:Nat}{σ:List ABlk}(hm:hget σ m=.map (mpG iv ids)){K:AVal→List ABlk→Prop}
 (hF:(Xl b.cards.length x&&Zr b s.next (ids.map (·.1)) x.units)=false→∀σ',K (.bool false) σ')
 (hT:(Xl b.cards.length x&&Zr b s.next (ids.map (·.1)) x.units)=true→∀σ',Bt m σ σ'→hget σ' m=.map (mpG iv (ids++x.units.map λu=>(u.id,side)))→K (.bool true) σ') :
  g144 VV [.rptr (bkC b) 0,.rptr (stC s) 0,iv side,.map m] σ K:=by
 unfold g144;refine Qg rfl (QD _ _) ?_;have hB:=Zj σ (ABlk.box [.rptr (bkC b) 0]);have hm':hget (σ++[ABlk.box [.rptr (bkC b) 0]]) m=.map (mpG iv ids):=Xi _ hm (by simp);have ho:=Old.app σ [ABlk.box [.rptr (bkC b) 0]];have hml:=Xn hm (by simp);have hne:m≠σ.length:=by omega
 generalize σ++[ABlk.box [.rptr (bkC b) 0]]=τ at hB hm' ho ⊢;generalize σ.length=c at hB hne ⊢;refine Za rfl (Za rfl (Za (hj _) (Za rfl (Za rfl (Za (ldr hx.h0) ?_)))));refine Yd (c57 _) rfl g57_ok.plain rfl (Za rfl ?_);refine XaL (λ_=>rfl) (λ_=>rfl) (λ_=>rfl) (λ_=>ldr hx.h1) (λ_=>QB ..) ?_;refine Xa7 (λ_=>rfl) (λ_=>rfl) (λ_=>rfl) (λ_=>ldr hx.h1) (λ_ k hk=>Yd (c57 _) rfl g57_ok.plain rfl hk) (λ_=>rfl) ?_;refine XaL (λ_=>rfl) (λ_=>rfl) (λ_=>rfl) (λ_=>ldr hx.h2) (λ_=>QB ..) ?_;refine XaL (λ_=>rfl) (λ_=>rfl) (λ_=>rfl) (λ_=>ldr hx.h2) (λ_=>ZG ..) ?_;refine Za7 (λ_=>rfl) (λ_=>rfl) (λ_=>rfl) (λ_=>ldr hx.h6) (v5:=iv x.units.length) (q5:=[]) (λ_=>by simp[Yg]) (λ_=>ZG ..) ?_;refine Zc (λh=>hF ?_ _) (λh=>?_)
 ·have:Xl b.cards.length x=false:=by
   rw[Bool.eq_false_iff]; intro hh;simp only[Xl,Bool.and_eq_true,decide_eq_true_eq] at hh;obtain⟨p1,p2,p3,p4,p5,_,_,_,_,p6⟩:=hh;simp only[p1,p3,Bool.not_true,Bool.false_or,Bool.or_false,Bool.or_eq_true,decide_eq_true_eq] at h;omega
  rw[this]; rfl
 simp only[Bool.or_eq_false_iff,Bool.not_eq_false',decide_eq_false_iff_not] at h;obtain⟨⟨⟨⟨⟨p1,p2⟩,p3⟩,p4⟩,p5⟩,p6⟩:=h;have hh:Xl b.cards.length x=(Xo b.cards.length x.deck 60&&(Xo b.cards.length x.hand 10&&(Xo b.cards.length x.grave 1000000&&Xo b.cards.length x.told 1000000))):=by
  have q2:decide (0≤x.mana)=true:=by simp; omega
  have q4:decide (0≤x.most)=true:=by simp; omega
  have q5:decide (x.most≤10)=true:=by simp; omega
  have q6:decide (x.units.length≤7)=true:=by simp; omega
  rw[Xl,p1,p3,q2,q4,q5,q6]; simp
 rw[hh] at hF hT;clear hh p1 p2 p3 p4 p5 p6;refine Za rfl (Za rfl (Za (ldr hx.h3) (Za rfl (Za rfl (Za rfl (Za (ldr hx.h4) (Za rfl (Za rfl (Za rfl (Za (ldr hx.h5) (Za rfl (Za rfl (Za rfl (Za (ldr hx.h7) (Za rfl (Za rfl ?_))))))))))))))));have d1:=hs.deck;have d2:=hs.hand;have d3:=hs.grave;have d4:=hs.told;have d5:=hs.units;refine QF 5 (Yl (Za rfl (Ze (Za rfl ?_))));refine Ybp b x.deck (by rw[bigE]; omega) 60 hB (λh _ _=>hF (by rw[h]; rfl) _) (λa1 σ1 o1=>Za rfl (Yl (Za rfl (Ze (Za rfl ?_)))));refine Ybp b x.hand (by rw[bigE]; omega) 10 (o1.get hB (by simp)) (λh _ _=>hF (by rw[a1,h]; rfl) _) (λa2 σ2 o2=>Za rfl (Yl (Za rfl (Ze (Za rfl ?_)))))
 replace o2:=o1.trans o2
 refine Ybp b x.grave (by rw[bigE]; omega) 1000000 (o2.get hB (by simp)) (λh _ _=>hF (by rw[a1,a2,h]; rfl) _) (λa3 σ3 o3=>Za rfl (Yl (Za rfl (Ze (Za rfl ?_)))))
 replace o3:=o2.trans o3
 refine Ybp b x.told (by rw[bigE]; omega) 1000000 (o3.get hB (by simp)) (λh _ _=>hF (by rw[a1,a2,a3,h]; rfl) _) (λa4 σ4 o4=>Za rfl (Yl (Za rfl (Qh ?_))))
 replace o4:=o3.trans o4
 rw[a1,a2,a3,a4] at hF hT;simp only[Bool.and_self,Bool.true_and] at hF hT;have hB4:=o4.get hB (by simp);have hm4:=o4.get hm' (by simp);have oo:=ho.trans o4;clear o1 o2 o3 o4 ho hB hm' hm;refine Za rfl (Za rfl (Za (ldr hx.h6) (Za (v:=iv x.units.length) (rd:=[]) (by simp[Yg]) ?_)));refine Qj (ι:=Nat) (λi vs τ=>vs=[iv i]∧i≤x.units.length∧hget τ c=.box [.rptr (bkC b) 0]∧hget τ m=.map (mpG iv (ids++(x.units.take i).map λu=>(u.id,side)))∧Bt m σ τ∧Zr b s.next (ids.map (·.1)) x.units=Zr b s.next ((ids++(x.units.take i).map λu=>(u.id,side)).map (·.1)) (x.units.drop i)) (λi=>x.units.length-i) 0
  ⟨rfl,by omega,hB4,by simpa using hm4,⟨oo.1,λc hc _=>oo.2 c hc⟩,by simp⟩ ?_
 clear hB4 hm4 oo;rintro i vs τ1 again ⟨rfl,hi,hB,hm,hbt,hr⟩ hag;refine Za rfl (Zc (λh=>?_) (λh=>?_));rotate_left
 ·have h:i=x.units.length:=by simp at h; omega
  subst h;rw[List.drop_length,Zr] at hr;rw[List.take_length] at hm;exact hT hr _ hbt hm
 have h:i<x.units.length:=by simpa using h
 have hix:=λ(s:List ABlk)=>Zn s thC false false 4 x.units .i64 i h;have htk:=Xv _ _ h;rw[YLD h,Zr] at hr;generalize x.units[i]=u at hix htk hr;generalize hq:ids++(x.units.take i).map (λu=>(u.id,side))=cur at hm hr;have hcur:ids++(x.units.take (i+1)).map (λu=>(u.id,side))=cur++[(u.id,side)]:=by rw[htk,List.map_append,←List.append_assoc,hq]; rfl
 refine Za (hix _) (Za (ldr rfl) (Qs (row:=thC u) (row':=thC u) rfl rfl rfl ?_));have hU:=Zj τ1 (ABlk.box (thC u));have hB':hget (τ1++[ABlk.box (thC u)]) c=.box [.rptr (bkC b) 0]:=Xi _ hB (by simp);have hm':hget (τ1++[ABlk.box (thC u)]) m=.map (mpG iv cur):=Xi _ hm (by simp);have hml':=Xn hm' (by simp);have hbt':Bt m σ (τ1++[ABlk.box (thC u)]):=hbt.trans (Bt.gr m (Old.app _ _).1 (Old.app _ _).2);generalize τ1++[ABlk.box (thC u)]=τ2 at hU hB' hm' hml' hbt' ⊢;generalize τ1.length=d at hU ⊢;refine Za rfl (Za (ld hU rfl) (Za (Xag iv _ _ hm' _) ?_));rw[Yce];refine Za rfl (Za rfl ?_);refine QaC (λ_=>rfl) (λ_=>ld hU rfl) (λ_=>QB ..) ?_;refine YcI (λ_=>rfl) (λ_=>ld hU rfl) (λ_=>ld hB' rfl) (λ_=>rfl) (λ_=>rfl) (λ_=>ldr rfl) (v7:=iv b.cards.length) (q7:=[]) (λ_=>by simp[Yg]) (λ_=>Yag ..) ?_;refine Xcw (d:=!((b.cards[u.card.toNat]?).getD default).unit) (λ_=>ld hB' rfl) (λ_=>rfl) (λ_=>rfl) (λ_=>ldr rfl) (λ_=>rfl) (λ_=>ld hU rfl) (v7:=.rptr (cdC ((b.cards[u.card.toNat]?).getD default)) 0) (q7:=[]) (λhc=>?_) (λ_=>rfl) (λ_=>ldr (cdLd1 _)) (λ_=>rfl) ?_
 ·simp only[Bool.or_eq_false_iff,decide_eq_false_iff_not] at hc;have e3:u.card.toNat<b.cards.length:=by omega
  rw[List.getElem?_eq_getElem e3];exact ZbS _ cdC _ _ _ b.cards _ u.card (by omega) e3
 refine QaC (λ_=>rfl) (λ_=>ld hU rfl) (λ_=>QB ..) ?_;refine QaC (λ_=>rfl) (λ_=>ld hU rfl) (λ_=>ZG ..) ?_;refine QaC (λ_=>rfl) (λ_=>ld hU rfl) (λ_=>QB ..) ?_;refine Qbs (λ_=>rfl) (λ_=>ld hU rfl) (λ_=>rfl) (λ_=>rfl) (λ_=>rfl) (v6:=iv s.next) (q6:=[]) (λ_=>ldr rfl) (λ_=>Yag ..) ?_;have hue:=Xcz b s.next u (ilook u.id cur).isSome;have hk:=Yah u.id cur;refine Zc (λh2=>hF ?_ _) (λh2=>?_)
 ·rw[h2] at hue;rw[hr,←hk];have hue:(Qv b s.next u && !(ilook u.id cur).isSome)=false:=hue.symm;cases h5:Qv b s.next u with
  |false=>rfl
  |true=>
   rw[h5] at hue;have:(ilook u.id cur).isSome=true:=by simpa using hue
   rw[this]; rfl
 ·rw[h2] at hue;have hue:(Qv b s.next u && !(ilook u.id cur).isSome)=true:=hue.symm;simp only[Bool.and_eq_true,Bool.not_eq_true'] at hue;have hnone:ilook u.id cur=none:=by
   have:=hue.2;cases h5:ilook u.id cur with
   |none=>rfl
   |some v=>rw[h5] at this; cases this
  rw[hue.1,←hk,hue.2,Bool.not_false,Bool.true_and,Bool.true_and] at hr;refine Za rfl (Za (ld hU rfl) (Qg (QaX iv hm' _ side hnone) (Zt _ hml') (Za (Zl ..) ?_)));rw[Qf (n:=i) (by omega)];refine hag (i+1) _ _ (by omega) ⟨rfl,by omega,Yo hB' (by simp) (λe=>hne e),?_,hbt'.trans ⟨by simp,λc hc hne=>Ys _ hc hne⟩,?_⟩
  ·rw[hcur]; exact Xr _ hml'
  ·rw[hcur,hr,List.map_append]; rfl
end Go.Ah.Tz
end
section
namespace Go.Ah.Tz
open Go.Proofs.Tryz (prog)
theorem QaQ(k:Int)(a:Int):∀l:List Th,ilook a (l.map λu=>(u.id,k))=(fnd l a).map λ_=>k
 |[]=>rfl
 |u::l=>by
  have:=QaQ k a l;simp only[List.map_cons,ilook,fnd,List.findIdx?_cons];by_cases h:u.id=a
  ·have h2:(a==u.id)=true:=by simp[h]
   simp[h]
  ·have h2:(a==u.id)=false:=by simp; exact λe=>h e.symm
   simp only[h2,Bool.false_eq_true,if_false,decide_eq_false h,this,fnd,Option.map_map];rfl
theorem YbY(s:St)(a:Int):ilook a (s.s0.units.map (λu=>(u.id,(0:Int)))++s.s1.units.map (λu=>(u.id,(1:Int))))=if (unitR s a).2.2=true then some (unitR s a).1 else none:=by
 rw[Yal,QaQ,QaQ,unitR];cases fnd s.s0.units a with
 |some k=>rfl
 |none=>cases fnd s.s1.units a<;>rfl
attribute [local irreducible] Ans.rd Ans.pu Ans.wr Ans.dr Ans.gr Ans.gw Ans.gl Ans.gd Ans.opt joinK W
set_option maxHeartbeats 4000000
theorem bkLd(b:Bk):partA true 0 2 (bkC b)=some (bkV b):=rfl
theorem Xt{e:Int}{b:Bk}{s:St}{bare:Bool}(h:mayR e b s bare=true):e=0∧1≤s.turn∧s.turn≤4096∧0≤s.mover∧s.mover≤1∧0≤s.phase∧s.phase≤2∧0≤s.result∧s.result≤3∧((s.result==0)==(s.phase != 2))=true∧1≤s.next∧s.next≤1000000∧s.attack.length≤7:=by
 simp only[mayR,Bool.and_eq_true,decide_eq_true_eq] at h;obtain⟨h1,h2,h3,h4,h5,h6,h7,h8,h9,h10,h11,h12,h13,h14⟩:=h;refine⟨h1,h2,h3,h4,h5,h6,h7,h8,h9,h10,h11,h12,?_⟩;by_cases hp:s.phase≠1
 ·rw[if_pos hp] at h14; simp at h14; simp[h14]
 ·rw[if_neg hp] at h14; simp at h14; exact h14.2.2.1
theorem ZbY(o:Option Int):lookV true (iv 0) (o.map iv)=.tup [iv (o.getD 0),.bool o.isSome]:=by cases o<;>rfl
theorem QbX(o:Option Bool):lookV false (.bool false) (o.map AVal.bool)=.bool (o.getD false):=by cases o<;>rfl
theorem Zbp(t:Int):∀l:List Int,(ilook t (l.map λa=>(a,true))).getD false=l.contains t
 |[]=>rfl
 |a::l=>by
  simp only[List.map_cons,ilook,List.contains_cons];cases h:t==a with
  |true=>rfl
  |false=>simp only[Bool.false_eq_true,if_false,Bool.false_or]; exact Zbp t l
theorem c111(b:Bk)(hf:bkFit b=true)(hsm:QC b.cards)(s:St)(hs:StLe 1000000000 s)(bare:Bool):PC 111 [.rptr (bkC b) 0,.rptr (stC s) 0,.bool bare] (.bool (mayR (bkR b).1 b s bare)):=by
 have h143:=c143 b hf hsm;generalize (bkR b).1=e at h143 ⊢;generalize (bkR b).2=ep at h143;have hat:=hs.attack;refine Xd hP g111_ok rfl rfl ?_;unfold g111;refine Za rfl (Za rfl (Za (ldr rfl) (Za (QB ..) ?_)));refine Qk λk4 hk4=>?_;have kbad:(mayR e b s bare=true→False)→k4 [.bool true] []:=by
  intro h; rw[hk4]; refine Ze ?_;rw[Bool.eq_false_iff.2 (λhm=>h hm)]
 apply cutF (R:=k4 [.bool false] []) (1≤s.turn∧s.turn≤4096∧0≤s.mover∧s.mover≤1∧0≤s.phase∧s.phase≤2∧0≤s.result∧s.result≤3∧((s.result==0)==(s.phase != 2))=true∧1≤s.next∧s.next≤1000000∧s.attack.length≤7∧e=0)
 ·intro hR;clear hk4;refine Zc (λh=>by rw[h]; exact kbad (λhm=>by have:=Xt hm; simp at h; omega)) (λb1=>Za rfl (Za rfl (Za (ldr rfl) (Za (ZG ..) ?_))));refine Zc (λh=>by rw[h]; exact kbad (λhm=>by have:=Xt hm; simp at h; omega)) (λb2=>Za rfl (Za rfl (Za (ldr rfl) (Za (QB ..) ?_))));refine Zc (λh=>by rw[h]; exact kbad (λhm=>by have:=Xt hm; simp at h; omega)) (λb3=>Za rfl (Za rfl (Za (ldr rfl) (Za (ZG ..) ?_))));refine Zc (λh=>by rw[h]; exact kbad (λhm=>by have:=Xt hm; simp at h; omega)) (λb4=>Za rfl (Za rfl (Za (ldr rfl) (Za (QB ..) ?_))));refine Zc (λh=>by rw[h]; exact kbad (λhm=>by have:=Xt hm; simp at h; omega)) (λb5=>Za rfl (Za rfl (Za (ldr rfl) (Za (ZG ..) ?_))));refine Zc (λh=>by rw[h]; exact kbad (λhm=>by have:=Xt hm; simp at h; omega)) (λb6=>Za rfl (Za rfl (Za (ldr rfl) (Za (QB ..) ?_))));refine Zc (λh=>by rw[h]; exact kbad (λhm=>by have:=Xt hm; simp at h; omega)) (λb7=>Za rfl (Za rfl (Za (ldr rfl) (Za (ZG ..) ?_))));refine Zc (λh=>by rw[h]; exact kbad (λhm=>by have:=Xt hm; simp at h; omega)) (λb8=>Za rfl (Za rfl (Za (ldr rfl) (Za (Qe ..) (Za rfl (Za rfl (Za (ldr rfl) (Za (YH ..) (Za (YcE ..) ?_)))))))));have hx:(!(decide (s.result=0)==decide (s.phase≠2))) = !((s.result==0)==(s.phase != 2)):=by
   congr 1
   have e1:decide (s.result=0)=(s.result==0):=by rw[Bool.eq_iff_iff]; simp
   have e2:decide (s.phase≠2)=(s.phase != 2):=by rw[Bool.eq_iff_iff]; simp
   rw[e1,e2]
  rw[hx];refine Zc (λh=>by rw[h]; exact kbad (λhm=>by have:=(Xt hm).2.2.2.2.2.2.2.2.2.1; rw[this] at h; cases h)) (λb9=>Za rfl (Za rfl (Za (ldr rfl) (Za (QB ..) ?_))));refine Zc (λh=>by rw[h]; exact kbad (λhm=>by have:=Xt hm; simp at h; omega)) (λb10=>Za rfl (Za rfl (Za (ldr rfl) (Za (ZG ..) ?_))));refine Zc (λh=>by rw[h]; exact kbad (λhm=>by have:=Xt hm; simp at h; omega)) (λb11=>Za rfl (Za rfl (Za (ldr rfl) (Za (v:=iv s.attack.length) (rd:=[]) (by simp[Yg]) (Za (ZG ..) ?_)))));refine Zc (λh=>by rw[h]; exact kbad (λhm=>by have:=Xt hm; simp at h; omega)) (λb12=>Za rfl (Za (ldr (bkLd b)) ?_));refine Yd h143 rfl g143_ok.plain rfl (Za rfl (Za (YH ..) ?_));by_cases he:e=0
  ·rw[show decide (e≠0)=false by simp[he]];simp at b1 b2 b3 b4 b5 b6 b7 b8 b10 b11 b12;exact hR ⟨by omega,by omega,by omega,by omega,by omega,by omega,by omega,by omega,by simpa using b9,by omega,by omega,by omega,he⟩
  ·rw[show decide (e≠0)=true by simp[he]];exact kbad (λhm=>he (Xt hm).1)
 rintro⟨p1,p2,p3,p4,p5,p6,p7,p8,p9,p10,p11,p12,p13⟩;rw[hk4]; clear hk4 kbad k4;have hmay:mayR e b s bare=(Qt b s&&(if s.phase≠1 then decide (s.attack.length=0) else !(decide (s.attack.length=0) && !bare)&&(s.struck&&attOk s [] s.attack))):=by
  rw[mayR,decide_eq_true p13,decide_eq_true p1,decide_eq_true p2,decide_eq_true p3,decide_eq_true p4,decide_eq_true p5,decide_eq_true p6,decide_eq_true p7,decide_eq_true p8,p9,decide_eq_true p10,decide_eq_true p11,decide_eq_true p12];rfl
 rw[hmay]; clear hmay h143 p1 p2 p3 p4 p5 p6 p7 p8 p9 p10 p11 p13;have w1:IntKind.i64.wrap (0+1)=1:=by decide
 have w2:IntKind.i64.wrap (1+1)=2:=by decide
 refine Qh (Qg rfl rfl (QF 3 (Yl (Za rfl (Ze ?_)))));refine Qx hP rfl g144_ok rfl (c144 b s 0 7 s.s0 (sdAt0 s) (λ_=>rfl) hs.s0 [] (by rfl) (λh σ1=>?_) (λh σ1 t1 m1=>?_))
 ·refine Za rfl (Ze ?_);have h:(Xl b.cards.length s.s0&&Zr b s.next [] s.s0.units)=false:=h;have:Qt b s=false:=by
   rw[Qt,←Bool.and_assoc,h]; rfl
  rw[this]; rfl
 refine Za rfl (Qh (Za rfl ?_));rw[w1];refine Yl (Za rfl (Ze ?_));refine Qx hP rfl g144_ok rfl (c144 b s 1 15 s.s1 (sdAt1 s) (λ_=>rfl) hs.s1 _ m1 (λh2 σ2=>?_) (λh2 σ2 t2 m2=>?_))
 ·refine Za rfl (Ze ?_);have e0:(([]++s.s0.units.map λu=>(u.id,(0:Int))):List (Int×Int)).map (·.1)=s.s0.units.map Th.id:=by simp[Function.comp_def]
  rw[e0] at h2;have:Qt b s=false:=by
   rw[Qt,h2]; simp
  rw[this]; rfl
 have hso:Qt b s=true:=by
  have e0:(([]++s.s0.units.map λu=>(u.id,(0:Int))):List (Int×Int)).map (·.1)=s.s0.units.map Th.id:=by simp[Function.comp_def]
  rw[e0] at h2;have h:(Xl b.cards.length s.s0&&Zr b s.next [] s.s0.units)=true:=h;rw[Qt,←Bool.and_assoc,h,h2]; rfl
 rw[hso,Bool.true_and];clear hso h h2 m1 t1 t2;refine Za rfl (Qh (Za rfl ?_));rw[w2];refine Yl (Za rfl (Qh (Za rfl (Za rfl (Za (ldr rfl) (Za (YH ..) ?_))))));refine Zc (λhp=>?_) (λhp=>?_)
 ·have hp:s.phase≠1:=by simpa using hp
  rw[if_pos hp];refine Za rfl (Za rfl (Za (ldr rfl) (Za (v:=iv s.attack.length) (rd:=[]) (by simp[Yg]) (Za (Qe ..) ?_))))
  congr 1
  rw[Bool.eq_iff_iff]; simp
 have hp:¬s.phase≠1:=by simpa using hp
 rw[if_neg hp];refine Qg rfl (QD _ _) (Za rfl (Za rfl (Za (ldr rfl) (Za (v:=iv s.attack.length) (rd:=[]) (by simp[Yg]) ?_))));have hnew:hget (σ2++[ABlk.map []]) σ2.length=.map (mpG AVal.bool (([]:List Int).map λa=>(a,true))):=Zj _ _;have hold:=Xi [ABlk.map []] m2 (by simp);have hne:σ2.length≠0:=by have:=Xn m2 (by simp); omega
 generalize σ2++[ABlk.map []]=τ at hnew hold ⊢;generalize σ2.length=mb at hnew hne ⊢;refine Qj (ι:=Nat) (λi vs τ=>vs=[iv i]∧i≤s.attack.length∧hget τ 0=.map (mpG iv (([]++s.s0.units.map λu=>(u.id,(0:Int)))++s.s1.units.map λu=>(u.id,(1:Int))))∧hget τ mb=.map (mpG AVal.bool ((s.attack.take i).map λa=>(a,true)))∧attOk s [] s.attack=attOk s (s.attack.take i) (s.attack.drop i)) (λi=>s.attack.length-i) 0
  ⟨rfl,by omega,hold,by simpa using hnew,by simp⟩ ?_
 clear hnew hold m2;rintro i vs τ1 again ⟨rfl,hi,hm0,hmb,hr⟩ hag;refine Za rfl (Zc (λh=>?_) (λh=>?_));rotate_left
 ·have h:i=s.attack.length:=by simp at h; omega
  subst h;rw[List.drop_length,attOk] at hr;rw[hr,Bool.and_true];refine Za rfl (Za rfl (Za (ldr rfl) ?_));cases hst:s.struck with
  |false=>
   refine Zb rfl (Zb rfl (Qc rfl (Qc rfl (Qc rfl (Qc rfl (Qc rfl (Qc rfl (Zb rfl (Za rfl ?_)))))))));simp
  |true=>
   refine Xa (Za rfl (Xa (Za rfl ?_)));cases bare with
   |true=>
    refine Zb rfl (Zb rfl (Zb rfl (Zb rfl (Zb rfl (Zb rfl (Xa (Za rfl (Za rfl ?_))))))));simp
   |false=>
    refine Xa (Za rfl (Xa (Za rfl (Xa (Za rfl (Xa (Za (ldr rfl) (Xa (Za (v:=iv s.attack.length) (rd:=[]) (by simp[Yg]) (Xa (Za (ZG ..) (Xa (Za rfl (Za rfl ?_))))))))))))));show AVal.bool _=_
    congr 1
    rw[Bool.eq_iff_iff];simp[List.length_pos_iff]
 have h:i<s.attack.length:=by simpa using h
 have htk:=Xv _ _ h;rw[YLD h,attOk] at hr;refine Za (Zn _ cel _ _ _ s.attack _ i h) (Za (ldr rfl) (Za (Xag iv _ _ hm0 _) ?_));rw[ZbY,List.nil_append,YbY];generalize s.attack[i]=a at htk hr ⊢;generalize ho:(if (unitR s a).2.2=true then some (unitR s a).1 else none)=o;have ho1:o.isSome=(unitR s a).2.2:=by rw[←ho]; cases (unitR s a).2.2<;>rfl
 have ho2:(unitR s a).2.2=true→o.getD 0=(unitR s a).1:=by intro q; rw[←ho,if_pos q]; rfl
 refine Za rfl (Za rfl (Za rfl ?_));refine Za7 (λ_=>rfl) (λ_=>rfl) (λ_=>rfl) (λ_=>rfl) (λ_=>ldr rfl) (λ_=>YH ..) ?_;refine QaC (d:=(ilook a ((s.attack.take i).map λa=>(a,true))).getD false) (λ_=>rfl) (λ_=>rfl) (λ_=>by rw[Xag AVal.bool _ _ hmb,QbX]) ?_;have hmet:=Zbp a (s.attack.take i);refine Zc (λh2=>?_) (λh2=>?_)
 ·have:attOk s [] s.attack=false:=by
   rw[hr,Bool.eq_false_iff]; intro q;simp only[Bool.and_eq_true,decide_eq_true_eq,Bool.not_eq_true'] at q;obtain⟨⟨q1,q2⟩,q3,q4⟩:=q;rw[ho1,ho2 q1,q1,q2,hmet,q3] at h2;simp at h2
  rw[this]; simp
 ·simp only[Bool.or_eq_false_iff,Bool.not_eq_false',decide_eq_false_iff_not,Decidable.not_not] at h2;obtain⟨⟨q1,q2⟩,q3⟩:=h2;rw[ho1] at q1;rw[ho2 q1] at q2;have hnone:ilook a ((s.attack.take i).map λa=>(a,true))=none:=by
   have:=Yah a ((s.attack.take i).map λa=>(a,true));simp only[List.map_map,Function.comp_def,List.map_id'] at this;rw[←hmet,q3] at this;cases h5:ilook a ((s.attack.take i).map λa=>(a,true)) with
   |none=>rfl
   |some v=>rw[h5] at this; cases this
  rw[hmet] at q3;rw[q1,q2,q3] at hr;have hml:=Xn hmb (by simp);refine Qg (QaX AVal.bool hmb a true hnone) (Zt _ hml) (Za (Zl ..) ?_);rw[Qf (n:=i) (by omega)];refine hag (i+1) _ _ (by omega) ⟨rfl,by omega,Yo hm0 (by simp) (λe=>hne e),?_,?_⟩
  ·rw[htk,List.map_append]; exact Xr _ hml
  ·rw[htk,hr]; simp
end Go.Ah.Tz
end
section
namespace Go.Ah.Tz
open Go.Proofs.Tryz (prog)
def RI(σ:List ABlk)(rd:List Nat)(v:AVal)(l:List Int):Prop:=Bor (hp σ) rd v (rowV l)
def RT(σ:List ABlk)(rd:List Nat)(v:AVal)(l:List Th):Prop:=Bor (hp σ) rd v (thV l)
theorem YcB:∀ {l:List Int},∀r∈l.map cel,roL r=true:=by
 intro l r hr;obtain⟨x,_,rfl⟩:=List.mem_map.1 hr; rfl
theorem th_ro:∀ {l:List Th},∀r∈l.map thC,roL r=true:=by
 intro l r hr;obtain⟨x,_,rfl⟩:=List.mem_map.1 hr; rfl
theorem RI.own{σ:List ABlk}{rd:List Nat}{b:Nat}{ex:Bool}{l:List Int}{n:Nat}(hb:hget σ b=.rows 1 (l.map cel))(hin:b∈rd)(hn:n=l.length):RI σ rd (.sl b 0 n ex) l:=
 Bor.own hb hin (by simp[hn]) (XaW _ _ (by simp[hn])) YcB
theorem RI.nils{σ:List ABlk}{rd:List Nat}:RI σ rd .nils []:=Bor.weak (Bor.ro rfl) (λM u d=>d.nils_rsl 1)
theorem RT.nils{σ:List ABlk}{rd:List Nat}:RT σ rd .nils []:=Bor.weak (Bor.ro rfl) (λM u d=>d.nils_rsl 4)
theorem RT.own{σ:List ABlk}{rd:List Nat}{b:Nat}{ex:Bool}{l:List Th}{n:Nat}(hb:hget σ b=.rows 4 (l.map thC))(hin:b∈rd)(hn:n=l.length):RT σ rd (.sl b 0 n ex) l:=
 Bor.own hb hin (by simp[hn]) (XaW _ _ (by simp[hn])) th_ro
@[reducible] def stQ(s:St)(a d0 h0 g0 u0 t0 d1 h1 g1 u1 t1:AVal):List AVal:=[iv s.turn,iv s.mover,iv8 s.phase,.bool s.struck,iv8 s.result,a,iv s.next,
 iv s.s0.life,iv s.s0.mana,iv s.s0.most,d0,h0,g0,u0,t0,iv s.s1.life,iv s.s1.mana,iv s.s1.most,d1,h1,g1,u1,t1]
def SB(σ:List ABlk)(rd:List Nat)(cs:List AVal)(s:St):Prop:=BorL (hp σ) rd cs (stC s)
theorem SB.mk{σ:List ABlk}{rd:List Nat}{s:St}{a d0 h0 g0 u0 t0 d1 h1 g1 u1 t1:AVal}(x1:RI σ rd a s.attack)(x2:RI σ rd d0 s.s0.deck)(x3:RI σ rd h0 s.s0.hand)(x4:RI σ rd g0 s.s0.grave)(x5:RT σ rd u0 s.s0.units)(x6:RI σ rd t0 s.s0.told)
 (y2:RI σ rd d1 s.s1.deck)(y3:RI σ rd h1 s.s1.hand)(y4:RI σ rd g1 s.s1.grave)(y5:RT σ rd u1 s.s1.units)(y6:RI σ rd t1 s.s1.told):SB σ rd (stQ s a d0 h0 g0 u0 t0 d1 h1 g1 u1 t1) s:=
 .cons (Bor.ro rfl) <| .cons (Bor.ro rfl) <| .cons (Bor.ro rfl) <| .cons (Bor.ro rfl) <| .cons (Bor.ro rfl) <| .cons x1 <| .cons (Bor.ro rfl) <| .cons (Bor.ro rfl) <| .cons (Bor.ro rfl) <| .cons (Bor.ro rfl) <| .cons x2 <| .cons x3 <| .cons x4 <| .cons x5 <| .cons x6 <|
 .cons (Bor.ro rfl) <| .cons (Bor.ro rfl) <| .cons (Bor.ro rfl) <| .cons y2 <| .cons y3 <| .cons y4 <| .cons y5 <| .cons y6 .nil
theorem SB.agg{σ:List ABlk}{rd:List Nat}{cs:List AVal}{s:St}(h:SB σ rd cs s):Bor (hp σ) rd (.agg cs) (stV s):=Bor.agg h
def zSd:Sd:=⟨0,0,0,[],[],[],[],[]⟩
def zSt:St:=⟨0,0,0,false,0,[],0,zSd,zSd⟩
theorem SB.zero{σ:List ABlk}{rd:List Nat}:SB σ rd (stQ zSt .nils .nils .nils .nils .nils .nils .nils .nils .nils .nils .nils) zSt:=SB.mk .nils .nils .nils .nils .nils .nils .nils .nils .nils .nils .nils
structure Ev where
 kind:Int
 side:Int
 card:Int
 id:Int
 other:Int
 n:Int
 cards:List Int
 deriving DecidableEq,Inhabited
theorem SdLe.mono{n m:Nat}{s:Sd}(h:SdLe n s)(k:n≤m):SdLe m s:=⟨Nat.le_trans h.1 k,Nat.le_trans h.2 k,Nat.le_trans h.3 k,Nat.le_trans h.4 k,Nat.le_trans h.5 k⟩
theorem StLe.mono{n m:Nat}{s:St}(h:StLe n s)(k:n≤m):StLe m s:=⟨Nat.le_trans h.1 k,h.2.mono k,h.3.mono k⟩
def St.side(s:St)(k:Int):Sd:=if k=0 then s.s0 else s.s1
def St.put(s:St)(k:Int)(d:Sd):St:=if k=0 then { s with s0:=d } else { s with s1:=d }
@[reducible] def zStC:List AVal:=stQ zSt .nils .nils .nils .nils .nils .nils .nils .nils .nils .nils .nils
end Go.Ah.Tz
end
section
namespace Go.Ah.Tz
open Go.Proofs.Tryz (prog)
attribute [local irreducible] Ans.rd Ans.pu Ans.wr Ans.dr Ans.gr Ans.gw Ans.gl Ans.gd Ans.opt joinK W
set_option maxHeartbeats 4000000
theorem c118(l:List Th)(hl:l.length≤1000000000)(id:FuncId)(fs cs:List AVal)(hp:Qm prog id=true)(f:Th→Bool)(hc:∀x∈l,PC id (fs++[.agg (thC x)]++cs) (.bool (f x)))(hr:∀x,roL (fs++[.agg (thC x)]++cs)=true) :
  PC 118 [thV l,.func (.func id) fs cs] (iv (idxF f l 0)):=by
 refine Xd hP g118_ok rfl rfl ?_;unfold g118;refine Za (v:=iv l.length) (rd:=[]) (by simp[Yg]) ?_;refine Qj (ι:=Nat) (λi vs s=>vs=[iv i]∧i≤l.length∧idxF f l 0=idxF f (l.drop i) i) (λi=>l.length-i) 0 ⟨rfl,by omega,by simp⟩ ?_;rintro i vs s again ⟨rfl,hi,hr'⟩ hag;refine Za rfl (Zc (λh=>?_) (λh=>?_))
 ·have h:i<l.length:=by simpa using h
  refine Za (Zn _ thC _ _ _ l _ i h) (Za (ldr rfl) ?_);refine Yd (hc _ (List.getElem_mem h)) rfl hp (hr _) ?_;rw[YLD h,idxF] at hr';refine Zc (λh2=>?_) (λh2=>?_)
  ·rw[if_pos h2] at hr'; rw[hr']; rfl
  ·rw[if_neg (by rw[h2]; simp)] at hr';refine Za (Zl ..) ?_;rw[Qf (n:=i) (by omega)];exact hag (i+1) _ _ (by omega) ⟨rfl,by omega,by rw[hr']; push_cast; rfl⟩
 ·have h:i=l.length:=by simp at h; omega
  subst h;rw[List.drop_length,idxF] at hr';rw[hr']
theorem c119(u:Th)(id:Int):PC 119 [.agg (thC u),.rptr [iv id] 0] (.bool (decide (u.id=id))):=by
 refine Xd hP g119_ok rfl rfl ?_;unfold g119;exact Qg rfl rfl (Za rfl (Za (ld rfl rfl) (Za rfl (Za (Qe ..) rfl))))
theorem Xbo(id:Int):∀(l:List Th) (n:Int),idxF (λu:Th=>decide (u.id=id)) l n=match fnd l id with
  |some k=>n+k
  |none=>-1
 |[],n=>rfl
 |u::l,n=>by
  have ih:=Xbo id l (n+1);simp only[idxF,fnd,List.findIdx?_cons] at ih ⊢;by_cases h:u.id=id
  ·simp[h]
  ·simp only[decide_eq_false h,Bool.false_eq_true,if_false,ih];cases List.findIdx? (λu=>decide (u.id=id)) l with
   |none=>rfl
   |some k=>show n+1+(k:Int)=n+((k+1:Nat):Int); omega
theorem c71(s:St)(hs:StLe 1000000000 s)(id:Int):PC 71 [stV s,iv id] (unitV s id):=by
 have h0:=c118 s.s0.units hs.s0.units 119 [] [.rptr [iv id] 0] g119_ok.plain (λu=>decide (u.id=id)) (λx _=>c119 x id) (λx=>rfl);have h1:=c118 s.s1.units hs.s1.units 119 [] [.rptr [iv id] 0] g119_ok.plain (λu=>decide (u.id=id)) (λx _=>c119 x id) (λx=>rfl);have w1:IntKind.i64.wrap (0+1)=1:=by decide
 have w2:IntKind.i64.wrap (1+1)=2:=by decide
 rw[Xbo] at h0 h1;refine Xd hP g71_ok rfl rfl ?_;unfold g71;refine Qg rfl rfl (Qg rfl rfl ?_);refine QF 3 (Yl ?_);refine Za rfl (Ze (Za rfl (Za rfl (Za rfl (Za rfl (Za rfl ?_))))));refine Zx h0 rfl g118_ok.plain rfl rfl ?_;simp only[unitV,unitR];cases q0:fnd s.s0.units id with
 |some k=>
  simp only[q0];refine Za (Yag ..) ?_;rw[decide_eq_true (by omega)];exact Ze (by simp)
 |none=>
  simp only[q0];refine Za rfl (Qh (Za rfl ?_));rw[w1];refine Yl ?_;refine Za rfl (Ze (Za rfl (Za rfl (Za rfl (Za rfl (Za rfl ?_))))));refine Zx h1 rfl g118_ok.plain rfl rfl ?_;cases q1:fnd s.s1.units id with
  |some k=>
   simp only[q1];refine Za (Yag ..) ?_;rw[decide_eq_true (by omega)];exact Ze (by simp)
  |none=>
   simp only[q1];refine Za rfl (Qh (Za rfl ?_));rw[w2];refine Yl ?_;exact Za rfl (Qh (by simp))
end Go.Ah.Tz
end
section
namespace Go.Ah.Tz
open Go.Proofs.Tryz (prog)
theorem Qbm{l:List Th}{id:Int}{k:Nat}(h:fnd l id=some k):∃u,l[k]?=some u∧u.id=id:=by
 obtain⟨hk,h2,_⟩:=List.findIdx?_eq_some_iff_getElem.1 h;exact⟨l[k],by simp[hk],by simpa using h2⟩
end Go.Ah.Tz
end
section
namespace Go.Ah.Tz
open Go.Proofs.Tryz (prog)
attribute [local irreducible] Ans.rd Ans.pu Ans.wr Ans.dr Ans.gr Ans.gw Ans.gl Ans.gd Ans.opt joinK W
set_option maxHeartbeats 4000000
theorem c15(s:St):∃q:Bool,PC 15 [stV s] (.bool q):=by
 apply Exists.intro;refine Xd hP g15_ok rfl rfl ?_;unfold g15;refine Qg rfl rfl (Za rfl (Za rfl (Za (v:=iv s.attack.length) (rd:=[]) (by simp[Yg]) ?_)));have w1:IntKind.i64.wrap (0+1)=1:=by decide
 have w2:IntKind.i64.wrap (1+1)=2:=by decide
 refine QF 3 (Yl ?_);refine Za rfl (Ze ?_);refine Za rfl (Za rfl (Za rfl (Qg rfl rfl (Qg rfl rfl ?_))));refine Za rfl (Za rfl (Za (v:=iv s.s0.deck.length) (rd:=[]) (by simp[Yg]) ?_));refine Za rfl (Za rfl (Za (v:=iv s.s0.hand.length) (rd:=[]) (by simp[Yg]) (Za (Zl ..) ?_)));refine Za rfl (Za rfl (Za (v:=iv s.s0.grave.length) (rd:=[]) (by simp[Yg]) (Za (Zl ..) ?_)));refine Za rfl (Za rfl (Za (v:=iv s.s0.units.length) (rd:=[]) (by simp[Yg]) (Za (Zl ..) ?_)));refine Za rfl (Za rfl (Za (v:=iv s.s0.told.length) (rd:=[]) (by simp[Yg]) (Za (Zl ..) ?_)));refine Za (Zl ..) (Za rfl ?_);rw[w1];refine Yl ?_;refine Za rfl (Ze ?_);refine Za rfl (Za rfl (Za rfl (Qg rfl rfl (Qg rfl rfl ?_))));refine Za rfl (Za rfl (Za (v:=iv s.s1.deck.length) (rd:=[]) (by simp[Yg]) ?_));refine Za rfl (Za rfl (Za (v:=iv s.s1.hand.length) (rd:=[]) (by simp[Yg]) (Za (Zl ..) ?_)));refine Za rfl (Za rfl (Za (v:=iv s.s1.grave.length) (rd:=[]) (by simp[Yg]) (Za (Zl ..) ?_)));refine Za rfl (Za rfl (Za (v:=iv s.s1.units.length) (rd:=[]) (by simp[Yg]) (Za (Zl ..) ?_)));refine Za rfl (Za rfl (Za (v:=iv s.s1.told.length) (rd:=[]) (by simp[Yg]) (Za (Zl ..) ?_)));refine Za (Zl ..) (Za rfl ?_);rw[w2];refine Yl ?_;exact Za rfl (Qh (Za (ZG ..) rfl))
theorem c52(cs:List Cd)(hf:XI cs=true)(σ:List ABlk)(K:AVal→List ABlk→Prop)(hK:∀q,K (.bool q) σ):g52 VV [cdV cs] σ K:=by
 simp only[XI,Bool.and_eq_true,decide_eq_true_eq] at hf;obtain⟨f0,f1⟩:=hf;rw[bigE] at f0;have hlen:∀τ,Yf [cdV cs] τ=.ok (iv cs.length) [] []:=λτ=>by simp[Yg]
 unfold g52;refine Za (hlen _) ?_;refine Qj (ι:=Nat) (λi vs τ=>(∃a:Int,vs=[iv i,iv a])∧τ=σ∧i≤cs.length) (λi=>cs.length-i) 0 ⟨⟨0,rfl⟩,rfl,by omega⟩ ?_;rintro i vs τ again ⟨⟨a,rfl⟩,rfl,hi⟩ hag;refine Za rfl (Zc (λh=>?_) (λh=>?_))
 ·have h:i<cs.length:=by simpa using h
  have hfc:cdFit cs[i]=true:=List.all_eq_true.1 f1 _ (List.getElem_mem h);have hix:=Zn τ cdC false false 12 cs .i64 i h;generalize cs[i]=c at hfc hix;simp only[cdFit,Bool.and_eq_true] at hfc;refine Za hix (Za (ldr (cdLd _)) ?_);refine Yd (c110 c hfc.2.1 hfc.2.2.1 hfc.2.2.2) rfl g110_ok.plain rfl (Za (Zl ..) (Za (ZG ..) ?_));refine Qbs (λ_=>rfl) (λ_=>rfl) (λ_=>hix) (λ_=>rfl) (λ_=>ldr (cdLd0 _)) (λ_=>rfl) (λ_=>ZG ..) ?_;have nxt:VV.rd (Xh .add false [iv i,(.int .i64 1)] τ) λt37_25=>again [t37_25,iv (IntKind.i64.wrap (a+(min (efsW 0 c.played+efsW 0 c.dead+efsW 0 c.dawn) 1073741824)))] τ:=by
   refine Za (Zl ..) ?_;rw[Qf (n:=i) (by omega)];exact hag (i+1) _ _ (by omega) ⟨⟨_,rfl⟩,rfl,by omega⟩
  generalize (_||_:Bool)=q;cases q with
  |true=>
   refine Zb rfl (Zb rfl (Zb rfl ?_));refine Qc rfl (Qc rfl (Qc rfl (Zb rfl (Za rfl ?_))));exact Ze (hK _)
  |false=>
   refine Xa (Za rfl (Xa (Za (ZG ..) (Xa (Za rfl ?_)))));generalize decide ((60:Int)<(i:Int))=q2;cases q2 with
   |true=>
    refine Xa (Za rfl (Xa (Za (hlen _) (Xa (Za (Zcd ..) (Xa (Za rfl (Za rfl ?_))))))));exact Zc (λ_=>hK _) (λ_=>nxt)
   |false=>
    refine Zb rfl (Zb rfl (Zb rfl (Xa (Za rfl (Za rfl ?_)))));exact Qh nxt
 ·refine Za (hlen _) (Za (ZG ..) ?_);exact hK _
theorem c14(b:Bk)(hf:bkFit b=true)(σ:List ABlk)(K:AVal→List ABlk→Prop)(hK:∀q,K (.bool q) (σ++[.box (bkC b)])):g14 VV [bkV b] σ K:=by
 simp only[bkFit,Bool.and_eq_true,decide_eq_true_eq] at hf;obtain⟨f0,f1,f2⟩:=hf;rw[bigE] at f1;unfold g14;refine Qg (v:=.bptr σ.length 0) (rd:=[]) (up:=[(σ.length,.box (bkC b))]) rfl (QD _ _) ?_;have hB:=Zj σ (.box (bkC b));generalize σ.length=n at hB ⊢;generalize σ++[ABlk.box (bkC b)]=τ at hB hK ⊢;refine Za rfl (Za (ld hB rfl) (Za (v:=iv b.formats.length) (rd:=[]) (by simp[Yg]) ?_));refine Qj (ι:=Nat) (λi vs τ'=>(∃a:Int,vs=[iv i,iv a])∧τ'=τ∧i≤b.formats.length) (λi=>b.formats.length-i) 0 ⟨⟨0,rfl⟩,rfl,by omega⟩ ?_;rintro i vs τ' again ⟨⟨a,rfl⟩,rfl,hi⟩ hag;refine Za rfl (Zc (λh=>?_) (λh=>?_))
 ·have h:i<b.formats.length:=by simpa using h
  have hix:=Zn τ' foC false false 7 b.formats .i64 i h;generalize b.formats[i]=f at hix;refine Za rfl (Za (ld hB rfl) (Za hix (Za rfl (Za (v:=txV f.banned) (rd:=[]) (ldr rfl) (Za (v:=iv f.banned.length) (rd:=[]) (by simp[Yg]) (Za (Zl ..) ?_))))));refine Za rfl (Za (ld hB rfl) (Za hix (Za rfl (Za (v:=txV f.single) (rd:=[]) (ldr rfl) (Za (v:=iv f.single.length) (rd:=[]) (by simp[Yg]) (Za (Zl ..) ?_))))));refine Za (Zl ..) (Za (Zl ..) ?_);rw[Qf (n:=i) (by omega)];exact hag (i+1) _ _ (by omega) ⟨⟨_,rfl⟩,rfl,by omega⟩
 ·refine Za (ZG ..) ?_;generalize decide ((600:Int)<a)=q;cases q with
  |true=>
   refine Zb rfl (Zb rfl (Yc rfl (Za rfl ?_)));exact hK _
  |false=>
   refine Xa (Za rfl (Xa (Za (ld hB rfl) (Yb ?_))));refine Qx hP rfl g52_ok rfl (c52 b.cards f0 _ _ (λq=>Za rfl ?_));exact hK _
end Go.Ah.Tz
end
section
namespace Go.Ah.Tz
open Go.Proofs.Tryz (prog)
theorem Xas{e:Int}{b:Bk}{s:St}(h:mayR e b s false=true):mayR e b s true=true:=by
 simp only[mayR,Bool.and_eq_true] at h ⊢;obtain⟨h1,h2,h3,h4,h5,h6,h7,h8,h9,h10,h11,h12,h13,h14⟩:=h;refine⟨h1,h2,h3,h4,h5,h6,h7,h8,h9,h10,h11,h12,h13,?_⟩;by_cases hp:s.phase≠1
 ·rw[if_pos hp] at h14 ⊢; exact h14
 ·rw[if_neg hp] at h14 ⊢;simp only[Bool.and_eq_true] at h14 ⊢;exact⟨by simp,h14.2⟩
theorem ldp{σ:List ABlk}{b i j n sz:Nat}{agg:Bool}{rs:List (List AVal)}{row:List AVal}{v:AVal}(hb:hget σ b=.rows sz rs)(hi:rs[i]?=some row)(hv:partA agg j n row=some v):Xc agg n [.ptr b i j] σ=.ok v [b] []:=by
 show (match hget σ b with
   |.rows _ rs=>match nth rs i with
    |some row=>match partA agg j n row with
     |some v=>SRes.ok v [b] []
     |none=>.stop
    |none=>.stop
   | _=>.stop)=_
 rw[hb];simp only[XZ,hi,hv]
abbrev XcB(x:St)(g0 g1:Nat):List AVal:=[iv x.turn,iv x.mover,iv8 x.phase,.bool x.struck,iv8 x.result,.sl 3 0 x.attack.length false,iv x.next,iv x.s0.life,iv x.s0.mana,iv x.s0.most,.sl 4 0 x.s0.deck.length false,.sl 5 0 x.s0.hand.length false,.sl g0 0 x.s0.grave.length false,.sl 7 0 x.s0.units.length false,.sl 8 0 x.s0.told.length false,iv x.s1.life,iv x.s1.mana,iv x.s1.most,.sl 9 0 x.s1.deck.length false,.sl 10 0 x.s1.hand.length false,.sl g1 0 x.s1.grave.length false,.sl 12 0 x.s1.units.length false,.sl 13 0 x.s1.told.length false]
def Agr(τ τ':List ABlk)(ex:List Nat):Prop:=τ.length≤τ'.length∧∀c,c<τ.length→c∉ex→hget τ' c=hget τ c
theorem Agr.get{a b:List ABlk}{e:List Nat}(h:Agr a b e){c:Nat}{x:ABlk}(hx:hget a c=x)(hd:x≠.dead)(hn:c∉e):hget b c=x:=by
 rw[h.2 c (Xn hx hd) hn]; exact hx
structure BMem (b:Bk) (s x:St) (g0 g1:Nat) (τ:List ABlk):Prop where
 k0:hget τ 0=.box (bkC b)
 k1:hget τ 1=.box (stC s)
 k2:hget τ 2=.box zStC
 mv:hget τ 14=.box (.bptr 0 0::XcB x g0 g1)
 at_:∃r,hget τ 3=.rows 1 ((x.attack++r).map cel)
 r4:hget τ 4=.rows 1 (x.s0.deck.map cel)
 r5:hget τ 5=.rows 1 (x.s0.hand.map cel)
 gr0:hget τ g0=.rows 1 (x.s0.grave.map cel)
 r7:∃r,hget τ 7=.rows 4 ((x.s0.units++r).map thC)
 r8:hget τ 8=.rows 1 (x.s0.told.map cel)
 r9:hget τ 9=.rows 1 (x.s1.deck.map cel)
 r10:hget τ 10=.rows 1 (x.s1.hand.map cel)
 gr1:hget τ g1=.rows 1 (x.s1.grave.map cel)
 r12:∃r,hget τ 12=.rows 4 ((x.s1.units++r).map thC)
 r13:hget τ 13=.rows 1 (x.s1.told.map cel)
 n0:g0=6∨15≤g0
 n1:g1=11∨15≤g1
 ne:g0≠g1
end Go.Ah.Tz
end
section
namespace Go.Ah.Tz
theorem XV{n:Nat}{l:List Int}{most:Int}:Xo n l most=true↔(l.length:Int)≤most∧∀c∈l,0≤c∧c<n:=by
 simp[Xo,List.all_eq_true]
structure SideP (b:Bk) (x:Sd):Prop where
 life:wIn x.life=true
 mana:0≤x.mana∧wIn x.mana=true
 most:0≤x.most∧x.most≤10
 deck:Xo b.cards.length x.deck 60=true
 hand:Xo b.cards.length x.hand 10=true
 grave:Xo b.cards.length x.grave 1000000=true
 told:Xo b.cards.length x.told 1000000=true
 units:x.units.length≤7
theorem Zb6{b:Bk}{x:Sd}:Xl b.cards.length x=true↔SideP b x:=by
 simp only[Xl,Bool.and_eq_true,decide_eq_true_eq];constructor
 ·rintro⟨h1,h2,h3,h4,h5,h6,h7,h8,h9,h10⟩;exact⟨h1,⟨h2,h3⟩,⟨h4,h5⟩,h6,h7,h8,h9,by omega⟩
 ·rintro⟨h1,⟨h2,h3⟩,⟨h4,h5⟩,h6,h7,h8,h9,h10⟩;exact⟨h1,h2,h3,h4,h5,h6,h7,h8,h9,by omega⟩
theorem Qaa{b:Bk}{next:Int}:∀ {l:List Th} {ids:List Int},Zr b next ids l=true↔(∀u∈l,Qv b next u=true)∧(l.map Th.id).Nodup∧∀u∈l,u.id∉ids
 |[],ids=>by simp[Zr]
 |u::l,ids=>by
  simp only[Zr,Bool.and_eq_true,Qaa (l:=l),Bool.not_eq_true',List.map_cons,List.nodup_cons,List.mem_cons,forall_eq_or_imp,List.mem_append,not_or];have hc:ids.contains u.id=false↔u.id∉ids:=by simp
  rw[hc];constructor
  ·rintro⟨h1,h2,h3,h4,h5⟩;refine⟨⟨h1,h3⟩,⟨?_,h4⟩,h2,λv hv=>(h5 v hv).1⟩;intro hm;obtain⟨v,hv,e⟩:=List.mem_map.1 hm;exact(h5 v hv).2.1 e
  ·rintro⟨⟨h1,h3⟩,⟨h6,h4⟩,h2,h5⟩;exact⟨h1,h2,h3,h4,λv hv=>⟨h5 v hv,λe=>h6 (List.mem_map.2 ⟨v,hv,e⟩),by simp⟩⟩
def UnP(b:Bk)(s:St):Prop:=(∀u∈s.s0.units++s.s1.units,Qv b s.next u=true)∧((s.s0.units++s.s1.units).map Th.id).Nodup
theorem Qb9{b:Bk}{s:St}:(Zr b s.next [] s.s0.units=true∧Zr b s.next (s.s0.units.map Th.id) s.s1.units=true)↔UnP b s:=by
 rw[Qaa,Qaa,UnP,List.map_append,List.nodup_append];constructor
 ·rintro⟨⟨h1,h2,_⟩,h3,h4,h5⟩;refine⟨λu hu=>?_,h2,h4,λa ha c hc e=>?_⟩
  ·rcases List.mem_append.1 hu with hu|hu
   ·exact h1 u hu
   ·exact h3 u hu
  ·subst e;obtain⟨v,hv,rfl⟩:=List.mem_map.1 hc;exact h5 v hv ha
 ·rintro⟨h1,h2,h3,h4⟩;refine⟨⟨λu hu=>h1 u (List.mem_append_left _ hu),h2,by simp⟩,λu hu=>h1 u (List.mem_append_right _ hu),h3,λu hu hm=>h4 _ hm _ (List.mem_map.2 ⟨u,hu,rfl⟩) rfl⟩
theorem Zav{s:St}:∀ {l prev:List Int},attOk s prev l=true↔(∀a∈l,(unitR s a).2.2=true∧(unitR s a).1=s.mover)∧l.Nodup∧∀a∈l,a∉prev
 |[],prev=>by simp[attOk]
 |a::l,prev=>by
  simp only[attOk,Bool.and_eq_true,Zav (l:=l),decide_eq_true_eq,Bool.not_eq_true',List.nodup_cons,List.mem_cons,forall_eq_or_imp,List.mem_append,not_or];have hc:prev.contains a=false↔a∉prev:=by simp
  rw[hc];constructor
  ·rintro⟨h1,h2,h3,h4,h5⟩;exact⟨⟨h1,h3⟩,⟨λhm=>(h5 a hm).2.1 rfl,h4⟩,h2,λc hc=>(h5 c hc).1⟩
  ·rintro⟨⟨h1,h3⟩,⟨h6,h4⟩,h2,h5⟩;exact⟨h1,h2,h3,h4,λc hc=>⟨h5 c hc,λe=>h6 (e▸hc),by simp⟩⟩
def AtP(s:St):Prop:=(s.phase≠1→s.attack=[])∧(s.phase=1→s.struck=true∧s.attack.length≤7∧s.attack.Nodup∧∀a∈s.attack,(unitR s a).2.2=true∧(unitR s a).1=s.mover)
def HdP(s:St):Prop:=1≤s.turn∧s.turn≤4096∧0≤s.mover∧s.mover≤1∧0≤s.phase∧s.phase≤2∧0≤s.result∧s.result≤3∧((s.result==0)==(s.phase != 2))=true∧1≤s.next∧s.next≤1000000
structure MayP (b:Bk) (s:St):Prop where
 hd:HdP s
 s0:SideP b s.s0
 s1:SideP b s.s1
 un:UnP b s
 at_:AtP s
theorem ZaR{e:Int}{b:Bk}{s:St}:mayR e b s true=true↔e=0∧MayP b s:=by
 simp only[mayR,Qt,Bool.and_eq_true,decide_eq_true_eq,Zb6];constructor
 ·rintro⟨h1,h2,h3,h4,h5,h6,h7,h8,h9,h10,h11,h12,⟨k1,k2,k3,k4⟩,h14⟩;refine⟨h1,⟨h2,h3,h4,h5,h6,h7,h8,h9,h10,h11,h12⟩,k1,k3,Qb9.1 ⟨k2,k4⟩,?_,?_⟩
  ·intro hp;rw[if_pos hp] at h14;exact List.length_eq_zero_iff.1 (of_decide_eq_true h14)
  ·intro hp;rw[if_neg (by simpa using hp)] at h14;simp only[Bool.and_eq_true,decide_eq_true_eq] at h14;obtain⟨_,q1,q2,q3⟩:=h14;obtain⟨r1,r2,_⟩:=Zav.1 q3;exact⟨q1,by omega,r2,r1⟩
 ·rintro⟨h1,⟨h2,h3,h4,h5,h6,h7,h8,h9,h10,h11,h12⟩,k1,k3,hu,ha1,ha2⟩;obtain⟨k2,k4⟩:=Qb9.2 hu;refine⟨h1,h2,h3,h4,h5,h6,h7,h8,h9,h10,h11,h12,⟨k1,k2,k3,k4⟩,?_⟩;by_cases hp:s.phase≠1
  ·rw[if_pos hp,ha1 hp]; rfl
  ·rw[if_neg hp];obtain⟨q1,q2,q3,q4⟩:=ha2 (by simpa using hp);simp only[Bool.and_eq_true,decide_eq_true_eq];exact⟨by simp,q1,by omega,Zav.2 ⟨q4,q3,by simp⟩⟩
end Go.Ah.Tz
end
section
namespace Go.Ah.Tz
open Go.Proofs.Tryz (prog)
structure Kp (b:Bk) (s:St) (τ:List ABlk) (n:Nat):Prop where
 len:τ.length=n
 lo:15≤n
 h0:hget τ 0=.box (bkC b)
 h1:hget τ 1=.box (stC s)
 hc:hget τ 14=.box (stO s 3)
 kk:∀i x,(stB s)[i]?=some x→hget τ (3+i)=x
end Go.Ah.Tz
end
section
namespace Go.Ah.Tz
open Go.Proofs.Tryz (prog)
open Go.Proofs.YtflcpnaigpgciaaGreatDoor.Rows (uptoBulk uptoBulkAll)
variable {H:Type}
theorem ZL(b:List UInt8):uptoBulk (DataW.lit (H:=H) (.string b))=b.length+1:=by simp only[uptoBulk]
theorem XE(ds:List (DataW H)):uptoBulk (.agg ds)=uptoBulkAll ds+1:=by simp only[uptoBulk]
theorem Zcp(es sp:List (DataW H)):uptoBulk (.slice es sp)=uptoBulkAll es+uptoBulkAll sp+1:=by simp only[uptoBulk]
theorem Xu(d:DataW H)(ds:List (DataW H)):uptoBulkAll (d::ds)=uptoBulk d+uptoBulkAll ds:=by simp only[uptoBulkAll]
theorem Zcc(d:DataW H):1≤uptoBulk d:=by
 cases d with
 |lit l=>cases l<;>simp[uptoBulk]
 |_=>simp[uptoBulk]
def Yq(P:Program)(t:TypeId):Option (List TypeId):=match P.underlying t with
 |some (.struct fs)=>some (fs.toList.map (·.type))
 |_=>none
theorem ZA{P:Program}{fuel:Nat}{t:TypeId}{xs:List AVal}{d:DataW H}{ts:List TypeId}(h:Typed P fuel t xs d)(hs:Yq P t=some ts):∃f parts ds,fuel=f+1∧xs=parts.flatten∧d=.agg ds∧Tri (Typed P f) ts parts ds:=by
 cases fuel with
 |zero=>exact h.elim
 |succ f=>
  unfold Typed at h;unfold Yq at hs;split at hs
  ·rename_i fs e;rw[e] at h;cases hs;obtain⟨parts,ds,h1,h2,h3⟩:=h;exact⟨f,parts,ds,rfl,h1,h2,h3⟩
  ·cases hs
theorem Zs{P:Program}{fuel:Nat}{t:TypeId}{xs:List AVal}{d:DataW H}{k:IntKind}(h:Typed P fuel t xs d)(hu:P.underlying t=some (.int k)):∃n,xs=[.int k n]∧(Lit.int k n).wf=true∧d=.lit (.int k n):=by
 cases fuel with
 |zero=>exact h.elim
 |succ f=>unfold Typed at h; rw[hu] at h; exact h
theorem Xbh{P:Program}{fuel:Nat}{t:TypeId}{xs:List AVal}{d:DataW H}(h:Typed P fuel t xs d)(hu:P.underlying t=some .bool):∃b,xs=[.bool b]∧d=.lit (.bool b):=by
 cases fuel with
 |zero=>exact h.elim
 |succ f=>unfold Typed at h; rw[hu] at h; exact h
theorem Za9{P:Program}{fuel:Nat}{t:TypeId}{xs:List AVal}{d:DataW H}(h:Typed P fuel t xs d)(hu:P.underlying t=some .string):∃s,xs=[.str s]∧d=.lit (.string s):=by
 cases fuel with
 |zero=>exact h.elim
 |succ f=>unfold Typed at h; rw[hu] at h; exact h
theorem Yb9{P:Program}{fuel:Nat}{e:TypeId}{X:Type}(toC:X→List AVal)(m:X→Nat)(Q:X→Prop){B:Nat}(hx:∀xs (d:DataW H),Typed P fuel e xs d→uptoBulk d≤B→∃x,xs=toC x∧Q x∧m x≤uptoBulk d) :
  ∀ {rows:List (List AVal)} {es:List (DataW H)},Two (Typed P fuel e) rows es→uptoBulkAll es≤B→∃l:List X,rows=l.map toC∧(∀x∈l,Q x)∧(l.map m).sum≤uptoBulkAll es∧l.length≤uptoBulkAll es
 |[],[],_,_=>⟨[],rfl,by simp,by simp,by simp⟩
 |r::rows,d::es,h,hb=>by
  rw[Xu] at hb;obtain⟨x,e1,q1,m1⟩:=hx r d h.1 (by omega);obtain⟨l,e2,q2,s2,l2⟩:=Yb9 toC m Q hx h.2 (by omega);refine⟨x::l,by rw[e1,e2]; rfl,λy hy=>?_,?_,?_⟩
  ·rcases List.mem_cons.1 hy with rfl|hy
   ·exact q1
   ·exact q2 y hy
  ·rw[List.map_cons,List.sum_cons,Xu]; omega
  ·have:=Zcc d;rw[List.length_cons,Xu]; omega
 |[],_::_,h,_=>h.elim
 |_::_,[],h,_=>h.elim
theorem YB{P:Program}{fuel:Nat}{t e:TypeId}{n:Nat}{xs:List AVal}{d:DataW H}{X:Type}(toC:X→List AVal)(m:X→Nat)(Q:X→Prop){B:Nat}(h:Typed P fuel t xs d)(hu:P.underlying t=some (.slice e))(hn:P.cellsOf e=n)
 (hx:∀f,f<fuel→∀xs (d:DataW H),Typed P f e xs d→uptoBulk d≤B→∃x,xs=toC x∧Q x∧m x≤uptoBulk d)(hb:uptoBulk d≤B) :
  ∃l:List X,xs=[.rsl false false n (l.map toC)]∧(∀x∈l,Q x)∧(l.map m).sum≤uptoBulk d∧l.length≤uptoBulk d:=by
 cases fuel with
 |zero=>exact h.elim
 |succ f=>
  unfold Typed at h;rw[hu] at h;subst hn;obtain⟨rows,rfl,⟨rfl,rfl⟩|⟨es,sp,rfl,h2⟩⟩:=h
  ·exact⟨[],rfl,by simp,by simp,by simp⟩
  ·rw[Zcp] at hb ⊢;obtain⟨l,rfl,q,s,k⟩:=Yb9 toC m Q (hx f (by omega)) h2 (by omega);exact⟨l,rfl,q,by omega,by omega⟩
theorem Zcz{P:Program}{fuel:Nat}{t e:TypeId}{xs:List AVal}{d:DataW H}(h:Typed P fuel t xs d)(hu:P.underlying t=some (.array 2 e)):∃f p q a b,fuel=f+1∧xs=p++q∧d=.agg [a,b]∧Typed P f e p a∧Typed P f e q b:=by
 cases fuel with
 |zero=>exact h.elim
 |succ f=>
  unfold Typed at h;rw[hu] at h;obtain⟨parts,ds,rfl,rfl,hl,h2⟩:=h
  match parts,hl,h2 with
  |[p,q],_,h2=>
   obtain⟨a,ds,rfl,ha,h2⟩:=h2.cons;obtain⟨b,ds,rfl,hb,h2⟩:=h2.cons
   match ds,h2 with
   |[],_=>exact⟨f,p,q,a,b,rfl,by simp,rfl,ha,hb⟩
theorem wf8{n:Int}(h:(Lit.int .i8 n).wf=true):i8B n=true:=by
 have h1:IntKind.i8.min = -128:=by decide
 have h2:IntKind.i8.max=127:=by decide
 simp only[Lit.wf,h1,h2] at h;exact h
theorem wf64{n:Int}(h:(Lit.int .i64 n).wf=true):i64B n=true:=by
 have h1:IntKind.i64.min = -9223372036854775808:=by decide
 have h2:IntKind.i64.max=9223372036854775807:=by decide
 simp only[Lit.wf,h1,h2] at h;exact h
theorem Qa2{l:List Nm}(h:∀x∈l,nmFit x=true):Xaz l=true:=by
 induction l with
 |nil=>rfl
 |cons x l ih=>simp only[Xaz,Bool.and_eq_true]; exact⟨h x (List.mem_cons_self ..),ih λy hy=>h y (List.mem_cons_of_mem _ hy)⟩
theorem XbN{l:List Cn}(h:∀x∈l,cnFit x=true):YaF l=true:=by
 induction l with
 |nil=>rfl
 |cons x l ih=>simp only[YaF,Bool.and_eq_true]; exact⟨h x (List.mem_cons_self ..),ih λy hy=>h y (List.mem_cons_of_mem _ hy)⟩
theorem Xaw{l:List Ef}(h:∀x∈l,efFit x=true):Yak l=true:=by
 induction l with
 |nil=>rfl
 |cons x l ih=>simp only[Yak,Bool.and_eq_true]; exact⟨h x (List.mem_cons_self ..),ih λy hy=>h y (List.mem_cons_of_mem _ hy)⟩
theorem YaR:∀l:List Nm,(nmPs l).length=(l.map λx=>(nmP x).length).sum
 |[]=>rfl
 |x::l=>by simp only[nmPs,List.length_append,List.map_cons,List.sum_cons,YaR l]
theorem Zbk:∀l:List Cn,(cnPs l).length=(l.map λx=>(cnP x).length).sum
 |[]=>rfl
 |x::l=>by simp only[cnPs,List.length_append,List.map_cons,List.sum_cons,Zbk l]
theorem Zar:∀l:List Ef,(efPs l).length=(l.map λx=>(efP x).length).sum
 |[]=>rfl
 |x::l=>by simp only[efPs,List.length_append,List.map_cons,List.sum_cons,Zar l]
theorem bigLe{n k:Nat}(h:n≤k)(hk:k≤1048576):decide (n≤big)=true:=decide_eq_true (Nat.le_trans h (Nat.le_trans hk (by decide)))
abbrev ZbI:TypeId:=26
abbrev XC:TypeId:=3
abbrev Za8:TypeId:=4
abbrev QaT:TypeId:=9
abbrev ZcA:TypeId:=64
abbrev Ycj:TypeId:=62
abbrev Qcz:TypeId:=137
abbrev Ycx:TypeId:=135
abbrev QcI:TypeId:=192
abbrev Ya8:TypeId:=80
abbrev XcI:TypeId:=82
abbrev Zcx:TypeId:=22
abbrev ZcJ:TypeId:=96
abbrev Xcx:TypeId:=23
abbrev Qcj:TypeId:=94
abbrev Xb8:TypeId:=25
abbrev QcJ:TypeId:=51
abbrev Zcy:TypeId:=28
abbrev Z8:TypeId:=27
abbrev XcN:TypeId:=30
abbrev Qcx:TypeId:=31
abbrev Qb8:TypeId:=33
theorem Zck:prog.underlying ZbI=some (.int .i8):=by kernel_rfl
theorem ZI:prog.underlying XC=some (.int .i64):=by kernel_rfl
theorem Ya9:prog.underlying Za8=some .bool:=by kernel_rfl
theorem Xb9:prog.underlying QaT=some .string:=by kernel_rfl
theorem QcL:prog.underlying Ycj=some (.slice ZcA):=by kernel_rfl
theorem u_cns:prog.underlying Ycx=some (.slice Qcz):=by kernel_rfl
theorem Ycz:prog.underlying Ya8=some (.slice QcI):=by kernel_rfl
theorem u_cds:prog.underlying Zcx=some (.slice XcI):=by kernel_rfl
theorem u_fos:prog.underlying Xcx=some (.slice ZcJ):=by kernel_rfl
theorem ZcM:prog.underlying Qcj=some (.slice QaT):=by kernel_rfl
theorem u_ths:prog.underlying Zcy=some (.slice QcJ):=by kernel_rfl
theorem XcL:prog.underlying Z8=some (.slice XC):=by kernel_rfl
theorem u_sds:prog.underlying Qcx=some (.array 2 XcN):=by kernel_rfl
theorem n_nm:prog.cellsOf ZcA=4:=by kernel_rfl
theorem n_cn:prog.cellsOf Qcz=5:=by kernel_rfl
theorem n_ef:prog.cellsOf QcI=14:=by kernel_rfl
theorem n_cd:prog.cellsOf XcI=12:=by kernel_rfl
theorem n_fo:prog.cellsOf ZcJ=7:=by kernel_rfl
theorem ZcH:prog.cellsOf QaT=1:=by kernel_rfl
theorem n_th:prog.cellsOf QcJ=4:=by kernel_rfl
theorem n_int:prog.cellsOf XC=1:=by kernel_rfl
theorem s_nm:Yq prog ZcA=some [ZbI,XC,ZbI,Ycj]:=by kernel_rfl
theorem s_cn:Yq prog Qcz=some [ZbI,ZbI,QaT,Ycj,Ycx]:=by kernel_rfl
theorem s_ef:Yq prog QcI=some [ZbI,ZbI,ZcA,QaT,Qcz,Ya8,Ya8]:=by kernel_rfl
theorem s_cd:Yq prog XcI=some [QaT,Za8,XC,XC,XC,XC,XC,XC,Ya8,Ya8,Ya8,XC]:=by kernel_rfl
theorem s_fo:Yq prog ZcJ=some [QaT,XC,XC,XC,Qcj,Qcj,XC]:=by kernel_rfl
theorem s_bk:Yq prog Xb8=some [Zcx,Xcx]:=by kernel_rfl
theorem s_th:Yq prog QcJ=some [XC,XC,XC,Za8]:=by kernel_rfl
theorem s_sd:Yq prog XcN=some [XC,XC,XC,Z8,Z8,Z8,Zcy,Z8]:=by kernel_rfl
theorem s_st:Yq prog Qb8=some [XC,XC,ZbI,Za8,ZbI,Z8,XC,Qcx]:=by kernel_rfl
theorem XcK(fuel:Nat):∀xs (d:DataW H),Typed prog fuel ZcA xs d→uptoBulk d≤1048576→∃x,xs=nmC x∧nmFit x=true∧(nmP x).length≤uptoBulk d:=by
 induction fuel using Nat.strongRecOn with
 |_ fuel ih=>
 intro xs d h hb;obtain⟨f,parts,ds,rfl,rfl,rfl,r⟩:=ZA h s_nm;obtain⟨p0,parts,d0,ds,rfl,rfl,h0,r⟩:=r.cons;obtain⟨p1,parts,d1,ds,rfl,rfl,h1,r⟩:=r.cons;obtain⟨p2,parts,d2,ds,rfl,rfl,h2,r⟩:=r.cons;obtain⟨p3,parts,d3,ds,rfl,rfl,h3,r⟩:=r.cons;obtain⟨rfl,rfl⟩:=r.nil;obtain⟨v0,rfl,w0,rfl⟩:=Zs h0 Zck;obtain⟨v1,rfl,w1,rfl⟩:=Zs h1 ZI;obtain⟨v2,rfl,w2,rfl⟩:=Zs h2 Zck;simp only[XE,Xu,ZL] at hb ⊢;obtain⟨l,rfl,q,s,k⟩:=YB nmC (λx=>(nmP x).length) (λx=>nmFit x=true) h3 QcL n_nm (λf' hf=>ih f' (by omega)) (show uptoBulk d3≤1048576 by omega);refine⟨.mk v0 v1 v2 l,by rw[ZC]; rfl,?_,?_⟩
 ·simp only[nmFit,bigLe k (show uptoBulk d3≤1048576 by omega),Qa2 q,wf8 w0,wf64 w1,Bool.and_self]
 ·simp only[nmP,List.length_cons,YaR]; omega
theorem ty_cn(fuel:Nat):∀xs (d:DataW H),Typed prog fuel Qcz xs d→uptoBulk d≤1048576→∃x,xs=cnC x∧cnFit x=true∧(cnP x).length≤uptoBulk d:=by
 induction fuel using Nat.strongRecOn with
 |_ fuel ih=>
 intro xs d h hb;obtain⟨f,parts,ds,rfl,rfl,rfl,r⟩:=ZA h s_cn;obtain⟨p0,parts,d0,ds,rfl,rfl,h0,r⟩:=r.cons;obtain⟨p1,parts,d1,ds,rfl,rfl,h1,r⟩:=r.cons;obtain⟨p2,parts,d2,ds,rfl,rfl,h2,r⟩:=r.cons;obtain⟨p3,parts,d3,ds,rfl,rfl,h3,r⟩:=r.cons;obtain⟨p4,parts,d4,ds,rfl,rfl,h4,r⟩:=r.cons;obtain⟨rfl,rfl⟩:=r.nil;obtain⟨v0,rfl,w0,rfl⟩:=Zs h0 Zck;obtain⟨v1,rfl,w1,rfl⟩:=Zs h1 Zck;obtain⟨v2,rfl,rfl⟩:=Za9 h2 Xb9;simp only[XE,Xu,ZL] at hb ⊢;obtain⟨l,rfl,q,s,k⟩:=YB nmC (λx=>(nmP x).length) (λx=>nmFit x=true) h3 QcL n_nm (λf' _=>XcK f') (show uptoBulk d3≤1048576 by omega);obtain⟨l2,rfl,q2,s2,k2⟩:=YB cnC (λx=>(cnP x).length) (λx=>cnFit x=true) h4 u_cns n_cn (λf' hf=>ih f' (by omega)) (show uptoBulk d4≤1048576 by omega);refine⟨.mk v0 v1 v2 l l2,by rw[QK]; rfl,?_,?_⟩
 ·simp only[cnFit,bigLe k (show uptoBulk d3≤1048576 by omega),Qa2 q,bigLe k2 (show uptoBulk d4≤1048576 by omega),XbN q2,wf8 w0,Bool.and_self]
 ·simp only[cnP,List.length_cons,List.length_append,YaR,Zbk]; omega
theorem ty_ef(fuel:Nat):∀xs (d:DataW H),Typed prog fuel QcI xs d→uptoBulk d≤1048576→∃x,xs=efC x∧efFit x=true∧(efP x).length≤uptoBulk d:=by
 induction fuel using Nat.strongRecOn with
 |_ fuel ih=>
 intro xs d h hb;obtain⟨f,parts,ds,rfl,rfl,rfl,r⟩:=ZA h s_ef;obtain⟨p0,parts,d0,ds,rfl,rfl,h0,r⟩:=r.cons;obtain⟨p1,parts,d1,ds,rfl,rfl,h1,r⟩:=r.cons;obtain⟨p2,parts,d2,ds,rfl,rfl,h2,r⟩:=r.cons;obtain⟨p3,parts,d3,ds,rfl,rfl,h3,r⟩:=r.cons;obtain⟨p4,parts,d4,ds,rfl,rfl,h4,r⟩:=r.cons;obtain⟨p5,parts,d5,ds,rfl,rfl,h5,r⟩:=r.cons;obtain⟨p6,parts,d6,ds,rfl,rfl,h6,r⟩:=r.cons;obtain⟨rfl,rfl⟩:=r.nil;obtain⟨v0,rfl,w0,rfl⟩:=Zs h0 Zck;obtain⟨v1,rfl,w1,rfl⟩:=Zs h1 Zck;obtain⟨v3,rfl,rfl⟩:=Za9 h3 Xb9;simp only[XE,Xu,ZL] at hb ⊢;obtain⟨n,rfl,qn,kn⟩:=XcK _ _ _ h2 (by omega);obtain⟨c,rfl,qc,kc⟩:=ty_cn _ _ _ h4 (by omega);obtain⟨l,rfl,q,s,k⟩:=YB efC (λx=>(efP x).length) (λx=>efFit x=true) h5 Ycz n_ef (λf' hf=>ih f' (by omega)) (show uptoBulk d5≤1048576 by omega);obtain⟨l2,rfl,q2,s2,k2⟩:=YB efC (λx=>(efP x).length) (λx=>efFit x=true) h6 Ycz n_ef (λf' hf=>ih f' (by omega)) (show uptoBulk d6≤1048576 by omega);refine⟨.mk v0 v1 n v3 c l l2,by rw[YE,ZC,QK]; rfl,?_,?_⟩
 ·simp only[efFit,qn,qc,bigLe k (show uptoBulk d5≤1048576 by omega),Xaw q,bigLe k2 (show uptoBulk d6≤1048576 by omega),Xaw q2,wf8 w0,Bool.and_self]
 ·have e1:(if cntOp v0 then nmP n else []).length≤(nmP n).length:=by split<;>simp
  have e2:(if v0=8 then cnP c++(efPs l++efPs l2) else []).length≤(cnP c).length+(efPs l).length+(efPs l2).length:=by
   split
   ·simp only[List.length_append]; omega
   ·simp
  rw[Zar,Zar] at e2;simp only[efP,List.length_cons,List.length_append];omega
theorem Zb9{fuel:Nat}{xs:List AVal}{d:DataW H}(h:Typed prog fuel Ya8 xs d)(hb:uptoBulk d≤1048576):∃l,xs=[efV l]∧lsFit l=true∧(efPs l).length≤uptoBulk d:=by
 obtain⟨l,rfl,q,s,k⟩:=YB efC (λx=>(efP x).length) (λx=>efFit x=true) h Ycz n_ef (λf' _=>ty_ef f') hb;exact⟨l,rfl,by simp only[lsFit,bigLe k hb,Xaw q,Bool.and_self],by rw[Zar]; exact s⟩
theorem ty_cd(fuel:Nat)(xs:List AVal)(d:DataW H)(h:Typed prog fuel XcI xs d)(hb:uptoBulk d≤1048576):∃x,xs=cdC x∧(cdFit x=true∧(cdP x).length≤1048576)∧0≤uptoBulk d:=by
 obtain⟨f,parts,ds,rfl,rfl,rfl,r⟩:=ZA h s_cd;obtain⟨p0,parts,d0,ds,rfl,rfl,h0,r⟩:=r.cons;obtain⟨p1,parts,d1,ds,rfl,rfl,h1,r⟩:=r.cons;obtain⟨p2,parts,d2,ds,rfl,rfl,h2,r⟩:=r.cons;obtain⟨p3,parts,d3,ds,rfl,rfl,h3,r⟩:=r.cons;obtain⟨p4,parts,d4,ds,rfl,rfl,h4,r⟩:=r.cons;obtain⟨p5,parts,d5,ds,rfl,rfl,h5,r⟩:=r.cons;obtain⟨p6,parts,d6,ds,rfl,rfl,h6,r⟩:=r.cons;obtain⟨p7,parts,d7,ds,rfl,rfl,h7,r⟩:=r.cons;obtain⟨p8,parts,d8,ds,rfl,rfl,h8,r⟩:=r.cons;obtain⟨p9,parts,d9,ds,rfl,rfl,h9,r⟩:=r.cons;obtain⟨p10,parts,d10,ds,rfl,rfl,h10,r⟩:=r.cons;obtain⟨p11,parts,d11,ds,rfl,rfl,h11,r⟩:=r.cons;obtain⟨rfl,rfl⟩:=r.nil;obtain⟨v0,rfl,rfl⟩:=Za9 h0 Xb9;obtain⟨v1,rfl,rfl⟩:=Xbh h1 Ya9;obtain⟨v2,rfl,w2,rfl⟩:=Zs h2 ZI;obtain⟨v3,rfl,w3,rfl⟩:=Zs h3 ZI;obtain⟨v4,rfl,w4,rfl⟩:=Zs h4 ZI;obtain⟨v5,rfl,w5,rfl⟩:=Zs h5 ZI;obtain⟨v6,rfl,w6,rfl⟩:=Zs h6 ZI;obtain⟨v7,rfl,w7,rfl⟩:=Zs h7 ZI;obtain⟨v11,rfl,w11,rfl⟩:=Zs h11 ZI;simp only[XE,Xu,ZL] at hb ⊢;obtain⟨a,rfl,qa,ka⟩:=Zb9 h8 (by omega);obtain⟨b,rfl,qb,kb⟩:=Zb9 h9 (by omega);obtain⟨c,rfl,qc,kc⟩:=Zb9 h10 (by omega);refine⟨⟨v0,v1,v2,v3,v4,v5,v6,v7,a,b,c,v11⟩,rfl,⟨?_,?_⟩,by omega⟩
 ·simp only[cdFit,bigLe (Nat.le_refl v0.length) (by omega),qa,qb,qc,Bool.and_self]
 ·simp only[cdP,List.length_append]; omega
theorem YcL(fuel:Nat)(xs:List AVal)(d:DataW H)(h:Typed prog fuel QaT xs d)(_:uptoBulk d≤1048576):∃x,xs=txC x∧True∧0≤uptoBulk d:=by
 obtain⟨s,rfl,rfl⟩:=Za9 h Xb9;exact⟨s,rfl,trivial,by omega⟩
theorem ty_fo(fuel:Nat)(xs:List AVal)(d:DataW H)(h:Typed prog fuel ZcJ xs d)(hb:uptoBulk d≤1048576):∃x,xs=foC x∧foFit x=true∧0≤uptoBulk d:=by
 obtain⟨f,parts,ds,rfl,rfl,rfl,r⟩:=ZA h s_fo;obtain⟨p0,parts,d0,ds,rfl,rfl,h0,r⟩:=r.cons;obtain⟨p1,parts,d1,ds,rfl,rfl,h1,r⟩:=r.cons;obtain⟨p2,parts,d2,ds,rfl,rfl,h2,r⟩:=r.cons;obtain⟨p3,parts,d3,ds,rfl,rfl,h3,r⟩:=r.cons;obtain⟨p4,parts,d4,ds,rfl,rfl,h4,r⟩:=r.cons;obtain⟨p5,parts,d5,ds,rfl,rfl,h5,r⟩:=r.cons;obtain⟨p6,parts,d6,ds,rfl,rfl,h6,r⟩:=r.cons;obtain⟨rfl,rfl⟩:=r.nil;obtain⟨v0,rfl,rfl⟩:=Za9 h0 Xb9;obtain⟨v1,rfl,w1,rfl⟩:=Zs h1 ZI;obtain⟨v2,rfl,w2,rfl⟩:=Zs h2 ZI;obtain⟨v3,rfl,w3,rfl⟩:=Zs h3 ZI;obtain⟨v6,rfl,w6,rfl⟩:=Zs h6 ZI;simp only[XE,Xu,ZL] at hb ⊢;obtain⟨a,rfl,_,_,ka⟩:=YB txC (λ_=>0) (λ_=>True) h4 ZcM ZcH (λf' _=>YcL f') (show uptoBulk d4≤1048576 by omega);obtain⟨b,rfl,_,_,kb⟩:=YB txC (λ_=>0) (λ_=>True) h5 ZcM ZcH (λf' _=>YcL f') (show uptoBulk d5≤1048576 by omega);refine⟨⟨v0,v1,v2,v3,a,b,v6⟩,rfl,?_,by omega⟩;simp only[foFit,bigLe (Nat.le_refl v0.length) (by omega),bigLe ka (show uptoBulk d4≤1048576 by omega),bigLe kb (show uptoBulk d5≤1048576 by omega),Bool.and_self]
theorem ty_bk{fuel:Nat}{xs:List AVal}{d:DataW H}(h:Typed prog fuel Xb8 xs d)(hb:uptoBulk d≤1048576):∃x,xs=bkC x∧bkFit x=true∧QC x.cards:=by
 obtain⟨f,parts,ds,rfl,rfl,rfl,r⟩:=ZA h s_bk;obtain⟨p0,parts,d0,ds,rfl,rfl,h0,r⟩:=r.cons;obtain⟨p1,parts,d1,ds,rfl,rfl,h1,r⟩:=r.cons;obtain⟨rfl,rfl⟩:=r.nil;simp only[XE,Xu,ZL] at hb ⊢;obtain⟨a,rfl,q,_,k⟩:=YB cdC (λ_=>0) (λx=>cdFit x=true∧(cdP x).length≤1048576) h0 u_cds n_cd (λf' _=>ty_cd f') (show uptoBulk d0≤1048576 by omega);obtain⟨b,rfl,q2,_,k2⟩:=YB foC (λ_=>0) (λx=>foFit x=true) h1 u_fos n_fo (λf' _=>ty_fo f') (show uptoBulk d1≤1048576 by omega);refine⟨⟨a,b⟩,rfl,?_,λc hc=>Nat.le_trans (q c hc).2 (by decide)⟩;simp only[bkFit,XI,bigLe k (show uptoBulk d0≤1048576 by omega),bigLe k2 (show uptoBulk d1≤1048576 by omega),Bool.true_and,Bool.and_eq_true,List.all_eq_true];exact⟨λc hc=>(q c hc).1,q2⟩
theorem ty_th(fuel:Nat)(xs:List AVal)(d:DataW H)(h:Typed prog fuel QcJ xs d)(hb:uptoBulk d≤1048576):∃x,xs=thC x∧True∧0≤uptoBulk d:=by
 obtain⟨f,parts,ds,rfl,rfl,rfl,r⟩:=ZA h s_th;obtain⟨p0,parts,d0,ds,rfl,rfl,h0,r⟩:=r.cons;obtain⟨p1,parts,d1,ds,rfl,rfl,h1,r⟩:=r.cons;obtain⟨p2,parts,d2,ds,rfl,rfl,h2,r⟩:=r.cons;obtain⟨p3,parts,d3,ds,rfl,rfl,h3,r⟩:=r.cons;obtain⟨rfl,rfl⟩:=r.nil;obtain⟨v0,rfl,w0,rfl⟩:=Zs h0 ZI;obtain⟨v1,rfl,w1,rfl⟩:=Zs h1 ZI;obtain⟨v2,rfl,w2,rfl⟩:=Zs h2 ZI;obtain⟨v3,rfl,rfl⟩:=Xbh h3 Ya9;simp only[XE,Xu,ZL] at hb ⊢;exact⟨⟨v0,v1,v2,v3⟩,rfl,trivial,by omega⟩
theorem ty_i(fuel:Nat)(xs:List AVal)(d:DataW H)(h:Typed prog fuel XC xs d)(_:uptoBulk d≤1048576):∃x,xs=cel x∧True∧0≤uptoBulk d:=by
 obtain⟨s,rfl,_,rfl⟩:=Zs h ZI;exact⟨s,rfl,trivial,by omega⟩
theorem ZaM{fuel:Nat}{xs:List AVal}{d:DataW H}(h:Typed prog fuel Z8 xs d)(hb:uptoBulk d≤1048576):∃l,xs=[rowV l]∧l.length≤2000000:=by
 obtain⟨l,rfl,_,_,k⟩:=YB cel (λ_=>0) (λ_=>True) h XcL n_int (λf' _=>ty_i f') hb;exact⟨l,rfl,by omega⟩
theorem ZcL{fuel:Nat}{xs:List AVal}{d:DataW H}(h:Typed prog fuel XcN xs d)(hb:uptoBulk d≤1048576):∃x,xs=sdC x∧SdLe 2000000 x:=by
 obtain⟨f,parts,ds,rfl,rfl,rfl,r⟩:=ZA h s_sd;obtain⟨p0,parts,d0,ds,rfl,rfl,h0,r⟩:=r.cons;obtain⟨p1,parts,d1,ds,rfl,rfl,h1,r⟩:=r.cons;obtain⟨p2,parts,d2,ds,rfl,rfl,h2,r⟩:=r.cons;obtain⟨p3,parts,d3,ds,rfl,rfl,h3,r⟩:=r.cons;obtain⟨p4,parts,d4,ds,rfl,rfl,h4,r⟩:=r.cons;obtain⟨p5,parts,d5,ds,rfl,rfl,h5,r⟩:=r.cons;obtain⟨p6,parts,d6,ds,rfl,rfl,h6,r⟩:=r.cons;obtain⟨p7,parts,d7,ds,rfl,rfl,h7,r⟩:=r.cons;obtain⟨rfl,rfl⟩:=r.nil;obtain⟨v0,rfl,w0,rfl⟩:=Zs h0 ZI;obtain⟨v1,rfl,w1,rfl⟩:=Zs h1 ZI;obtain⟨v2,rfl,w2,rfl⟩:=Zs h2 ZI;simp only[XE,Xu,ZL] at hb ⊢;obtain⟨a,rfl,ka⟩:=ZaM h3 (by omega);obtain⟨b,rfl,kb⟩:=ZaM h4 (by omega);obtain⟨c,rfl,kc⟩:=ZaM h5 (by omega);obtain⟨u,rfl,_,_,ku⟩:=YB thC (λ_=>0) (λ_=>True) h6 u_ths n_th (λf' _=>ty_th f') (show uptoBulk d6≤1048576 by omega);obtain⟨t,rfl,kt⟩:=ZaM h7 (by omega);exact⟨⟨v0,v1,v2,a,b,c,u,t⟩,rfl,ka,kb,kc,by show u.length≤_; omega,kt⟩
theorem ty_st{fuel:Nat}{xs:List AVal}{d:DataW H}(h:Typed prog fuel Qb8 xs d)(hb:uptoBulk d≤1048576):∃x,xs=stC x∧StLe 2000000 x:=by
 obtain⟨f,parts,ds,rfl,rfl,rfl,r⟩:=ZA h s_st;obtain⟨p0,parts,d0,ds,rfl,rfl,h0,r⟩:=r.cons;obtain⟨p1,parts,d1,ds,rfl,rfl,h1,r⟩:=r.cons;obtain⟨p2,parts,d2,ds,rfl,rfl,h2,r⟩:=r.cons;obtain⟨p3,parts,d3,ds,rfl,rfl,h3,r⟩:=r.cons;obtain⟨p4,parts,d4,ds,rfl,rfl,h4,r⟩:=r.cons;obtain⟨p5,parts,d5,ds,rfl,rfl,h5,r⟩:=r.cons;obtain⟨p6,parts,d6,ds,rfl,rfl,h6,r⟩:=r.cons;obtain⟨p7,parts,d7,ds,rfl,rfl,h7,r⟩:=r.cons;obtain⟨rfl,rfl⟩:=r.nil;obtain⟨v0,rfl,w0,rfl⟩:=Zs h0 ZI;obtain⟨v1,rfl,w1,rfl⟩:=Zs h1 ZI;obtain⟨v2,rfl,w2,rfl⟩:=Zs h2 Zck;obtain⟨v3,rfl,rfl⟩:=Xbh h3 Ya9;obtain⟨v4,rfl,w4,rfl⟩:=Zs h4 Zck;obtain⟨v6,rfl,w6,rfl⟩:=Zs h6 ZI;simp only[XE,Xu,ZL] at hb ⊢;obtain⟨a,rfl,ka⟩:=ZaM h5 (by omega);obtain⟨f',p,q,da,db,rfl,rfl,rfl,hp,hq⟩:=Zcz h7 u_sds;simp only[XE,Xu] at hb;obtain⟨x,rfl,kx⟩:=ZcL hp (by omega);obtain⟨y,rfl,ky⟩:=ZcL hq (by omega);exact⟨⟨v0,v1,v2,v3,v4,a,v6,x,y⟩,rfl,ka,kx,ky⟩
end Go.Ah.Tz
end
section
namespace Go.Proofs.YtflcpnaigpgciaaGreatDoor
open Go.ChangeShapes Go.WideShapes Go.ChangeAt Go.RowKit Go.Ah Go.Ah.Tz
theorem XaR{H:Type}{enc:TypeId×Value→H}{P:Program}{f:Func}{s:ChangeSpec}{apart fresh handsOn again:Bool}{W W':World}{args:Array Value}{v:Value}{ds gs:List (DataW H)}{before pa pv:List MemPlace}
 (hW:DataW.Whole enc P f.params.toList s.vars apart W args.toList ds gs before)
 (hres:∀(b:Nat) (sp:Nat→Bool) (hd:Bool),DataW.TrodAll enc P W' b sp hd f.resultTypes.toList (v.resultList f.resultTypes.size) (s.fn H (ds++gs)).results [])
 (hargs:∀sp:Nat→Bool,(∀p∈before,sp p.block=true)→DataW.TrodAll enc P W' 0 sp true f.params.toList args.toList (s.fn H (ds++gs)).args pa)
 (hvars:∀sp:Nat→Bool,(∀p∈before,sp p.block=true)→DataW.TrodVars enc P W' sp s.vars (s.fn H (ds++gs)).vars pv)
 (hps:before=pa++pv)(hb:Below W.heap.size W W')
 (hok:∀(j:Nat) (t:TypeId) (r:Value),f.resultTypes[j]?=some t→(v.resultList f.resultTypes.size)[j]?=some r→Value.okWide P W' .any 0 t r) :
  s.post enc P f apart fresh handsOn again W args v W':=by
 have hold:∀p∈before,(λb=>decide (b<W.heap.size)) p.block=true:=λp hp=>by simpa using hW.lt p hp
 refine⟨ds,gs,before,[],pa,pv,hW,hres _ _ _,hargs _ hold,hvars _ hold,World.keptBut_mono (λp hp=>⟨hp,?_⟩) (hb.frame (·∈before)),λ_=>?_⟩
 ·rw[hps,List.mem_append] at hp;exact Or.inr hp
 ·have hlt:=hW.lt;obtain⟨_,_,_,_,_,hz,hn⟩:=hW;refine⟨hok,_,_,([]++pa)++pv,⟨[]++pa,pv,trodAll_append (hargs _ (λ_ _=>rfl)) (hres _ _ _),hvars _ (λ_ _=>rfl),rfl,?_,?_⟩,?_⟩
  ·intro b off hp;have hin:MemPlace.cell b off∈before:=by rw[hps]; simpa using hp
   rw[hb.frozen (p:=⟨b,off,none⟩) (show b<W.heap.size from hlt _ hin)];exact hz b off hin
  ·intro ha;have:=hn ha;rw[hps] at this;simpa using this
  ·intro p hp _;rw[hps];simpa using hp
set_option maxRecDepth 100000
abbrev t_u8:TypeId:=5
abbrev XcJ:TypeId:=318
theorem d_own:ownKnob Tryz.prog.godebug=none:=by kernel_rfl
theorem YcC:Tryz.prog.globalNamed "strings.asciiSpace" = some 0:=by kernel_rfl
theorem YbQ:(Tryz.prog.globals[0]?).map (·.type)=some XcJ:=by kernel_rfl
theorem QbP:laidOutB Tryz.prog=true:=by kernel_rfl
def spaces:List Int:=(List.range 256).map λi=>match (Nat.ble 9 i&&Nat.ble i 13)||Nat.beq i 32 with|true=>1|false=>0
theorem Ycr{l:List (String×DataW Unit)}{x:String×DataW Unit}(hl:l=[x,("strings.asciiSpace",Lib.tabData .u8 spaces)]){W:World}(h:laidMet Tryz.prog l W):∀p∈GL0,Den (λb=>W.heap[b]?) noOwn (.rptr p.2 0) (.pointer (some ⟨p.1,0,none⟩)):=by
 subst hl;have ht:Lib.TabIs Tryz.prog W "strings.asciiSpace" .u8 spaces:=Lib.tabIs_of_head (rest:=[]) YcC YbQ (show Tryz.prog.underlying XcJ=some (.array 256 t_u8) by kernel_rfl) (show Tryz.prog.underlying t_u8=some (.int .u8) by kernel_rfl) (by kernel_rfl) (by kernel_rfl) h.tail;have hlen:spaces.length=256:=by simp[spaces]
 have hrow:row0=spaces.map (AVal.int .u8):=by rw[row0,spaces,List.map_map]; rfl
 intro p hp;simp only[GL0,List.mem_singleton] at hp;subst hp;refine .rptr _ row0 0 0 0 (λk=>.int .u8 (spaces.getD k 0)) (λk hk=>?_) (λk y hy=>?_)
 ·have hk':k<spaces.length:=by rw[hrow,List.length_map] at hk; exact hk
  have:=(XbL (ht.cell YcC k hk')).2;rw[Nat.zero_add]; exact this
 ·rw[hrow,List.getElem?_map] at hy;obtain⟨z,hz,rfl⟩:=Option.map_eq_some_iff.1 hy;have:spaces.getD k 0=z:=by simp[List.getD,hz]
  rw[this]; exact .int _ _ _
def ZaO:List TypeId:=[ZbI,XC,Za8,QaT,ZcA,Ycj,Qcz,Ycx,QcI,Ya8,XcI,Zcx,ZcJ,Xcx,Qcj,Xb8,QcJ,Zcy,Z8,XcN,Qcx,Qb8]
theorem QaW:ZaO.all (tyOk Tryz.prog ZaO)=true:=by kernel_rfl
theorem Zcr{M:Nat→Option Obj}{xs:List AVal}{cs:Array Value}(h:DL M xs cs.toList):Den M noOwn (.agg xs) (.agg cs):=
 .agg _ _ _ (by have:=h.1; simpa using this.symm) (λi x v h1 h2=>h.2 i x v h1 (by simpa using h2))
theorem ZaD{P:Program}{t:TypeId}{ts:List TypeId}(h:Yq P t=some ts):∃fs,P.underlying t=some (.struct fs):=by
 unfold Yq at h;split at h
 ·rename_i fs e; exact⟨fs,e⟩
 ·cases h
section
variable {H:Type} {enc:TypeId×Value→H} {W:World} {base:Nat} {v:Value} {d:DataW H} {ps:List MemPlace}
theorem ZcC(ho:Value.okWide Tryz.prog W .any base Xb8 v)(h:DataW.Trod enc Tryz.prog W 0 (λ_=>true) true Xb8 v d ps)(hb:Rows.uptoBulk d≤1048576):∃b:Bk,bkFit b=true∧QC b.cards∧Den (λk=>W.heap[k]?) noOwn (bkV b) v:=by
 obtain⟨fs,hfs⟩:=ZaD s_bk;obtain⟨cs,rfl,_⟩:=okWide_struct hfs ho;obtain⟨fuel,hf⟩:=h;obtain⟨_,xs,h1,h2⟩:=Yaf (S:=ZaO) QaW fuel Xb8 (by decide) _ _ ⟨_,hf⟩;obtain⟨b,rfl,k1,k2⟩:=ty_bk h2 hb;exact⟨b,k1,k2,Zcr h1⟩
theorem Xcr(ho:Value.okWide Tryz.prog W .any base Qb8 v)(h:DataW.Trod enc Tryz.prog W 0 (λ_=>true) true Qb8 v d ps)(hb:Rows.uptoBulk d≤1048576):∃s:St,StLe 2000000 s∧Den (λk=>W.heap[k]?) noOwn (stV s) v:=by
 obtain⟨fs,hfs⟩:=ZaD s_st;obtain⟨cs,rfl,_⟩:=okWide_struct hfs ho;obtain⟨fuel,hf⟩:=h;obtain⟨_,xs,h1,h2⟩:=Yaf (S:=ZaO) QaW fuel Qb8 (by decide) _ _ ⟨_,hf⟩;obtain⟨s,rfl,k⟩:=ty_st h2 hb;exact⟨s,k,Zcr h1⟩
end
theorem Zbc{H:Type}{enc:TypeId×Value→H}{t:TypeId}(hr:Tryz.prog.readableRec t=true)(hrow:t<Tryz.prog.types.size){W W':World}{v:Value}{d:DataW H}{ps all:List MemPlace}(h:DataW.Trod enc Tryz.prog W 0 (λ_=>true) true t v d ps)(hb:Below W.heap.size W W')(hlt:∀p∈all,p.block<W.heap.size)(hin:∀p∈ps,p∈all){sp:Nat→Bool}(hs:∀p∈all,sp p.block=true):DataW.Trod enc Tryz.prog W' 0 sp true t v d ps:=
 WideElems.Trod_stays QbP hr hrow h (λp hp=>hb.same (hlt p (hin p hp))) (λp hp=>hs p (hin p hp))
theorem ZbQ(t:TypeId)(h:(Tryz.prog.readableRec t&&decide (t<Tryz.prog.types.size))=true):Tryz.prog.readableRec t=true∧t<Tryz.prog.types.size:=by simpa using h
theorem r_bk:Tryz.prog.readableRec Xb8=true∧Xb8<Tryz.prog.types.size:=ZbQ Xb8 (by kernel_rfl)
theorem r_st:Tryz.prog.readableRec Qb8=true∧Qb8<Tryz.prog.types.size:=ZbQ Qb8 (by kernel_rfl)
def Qcc:List Int:=[9,13,1,32,133,101,160,5760,5600,8192,8202,1,8232,8233,1,8239,8287,48,12288,12288,1]
noncomputable def Ybc (os:Os):World:=
 let w0:=World.holding Tryz.prog os ⟨#[],#[],[]⟩
 let put (h:Array Obj) (g:Nat) (cs:Array Value):Array Obj:=h.modify g fun
  |.cells _ t frozen=>.cells cs t frozen
  |o=>o
 let h1:=put w0.heap 0 (spaces.map λz=>Value.int .u8 z).toArray
 let h2:=put h1 1 #[.pointer (some ⟨w0.heap.size,0,none⟩)]
 { w0 with heap:=(h2.push (.cells #[.slice (some ⟨w0.heap.size+1,0,none⟩) 7 7,.slice none 0 0,.int .i64 2] 328 (0,0))).push (.cells (Qcc.map λz=>Value.int .u16 z).toArray 331 (0,0)) }
theorem Zm{a b:Bool}(h:a=true)(k:b=true):(a&&b)=true:=by rw[h,k]; rfl
end Go.Proofs.YtflcpnaigpgciaaGreatDoor
end
section
namespace Go.Ah.Tz
open Go.Proofs.Tryz (prog)
def ptQ:Pt→Bool
 |.ef x=>decide (x.who=2)&&(decide (x.op=0)||decide (x.op=1))
 |.nm x=>decide (x.op=7)
 |.cn _=>false
end Go.Ah.Tz
end
section
namespace Go.Ah.Tz
open Go.Proofs.Tryz (prog)
attribute [local irreducible] Ans.rd Ans.pu Ans.wr Ans.dr Ans.gr Ans.gw Ans.gl Ans.gd Ans.opt joinK W
set_option maxHeartbeats 1000000
def stepN(f:Bool)(p:Pt):Bool×Bool:=(f||ptQ p,!(f||ptQ p))
theorem XcH:∀(l:List Pt) (f:Bool),f=false→(runL stepN f l).1=l.any ptQ
 |[],f,h=>by subst h; rfl
 |p::l,f,h=>by
  subst h;simp only[runL,stepN,Bool.false_or,List.any_cons];cases h:ptQ p
  ·simp only[Bool.not_false,if_true,Bool.false_or]; exact XcH l false rfl
  ·simp
theorem clo233(b:Nat):Clo (.func (.func 233) [] [.bptr b 0]) b (λf:Bool=>[.bool f]) stepN:=by
 intro p v hv f σ K hb hK;refine Qx hP rfl g233_ok rfl ?_;show g233 VV [v,.bptr b 0] σ K;unfold g233;have hlt:=Xn hb (by simp);have hend:∀τ,Bt b σ τ→hget τ b=.box [.bool (f||ptQ p)]→VV.rd (Xc false 1 [.bptr b 0] τ) λt=>VV.rd (Yn .not [t] τ) λu=>K u τ:=λτ h1 h2=>Za (ld h2 rfl) (Za rfl (hK _ h1 h2));have hb0:∀x,hget (σ++[ABlk.box x]) b=.box [.bool f]:=λx=>Xi _ hb (by simp);have bt0:∀x,Bt b σ (σ++[ABlk.box x]):=λx=>⟨by simp,λc hc _=>Yt _ hc⟩;cases hv with
 |ef x=>
  refine Za rfl (Za rfl (Za rfl ?_));refine Qs (row:=[.rptr (efC x) 0]) (row':=[.rptr (efC x) 0]) rfl rfl rfl ?_;refine Qk λk4 hk4=>Ze ?_;have hx:=Zj σ (ABlk.box [.rptr (efC x) 0]);have k4d:∀τ,Bt b σ τ→hget τ b=.box [.bool (f||ptQ (.ef x))]→k4 [] τ:=by
   intro τ h1 h2;rw[hk4];refine Za rfl (Za rfl (Za rfl ?_));refine Qs (row:=[.nilp]) (row':=[.nilp]) rfl rfl rfl ?_;refine XQ (Qh (hend _ (h1.trans ⟨by simp,λc hc _=>Yt _ hc⟩) (Xi _ h2 (by simp))))
  clear hk4;refine Za (ld (hb0 _) rfl) ?_;have hst:∀q,q=(f||ptQ (.ef x))→VV.wr (Qb 1 [.bptr b 0,.bool q] (σ++[ABlk.box [.rptr (efC x) 0]])) (σ++[ABlk.box [.rptr (efC x) 0]]) λ_ τ=>k4 [] τ:=by
   rintro q rfl;exact Qg (stv (hb0 _) rfl rfl rfl) (Zt _ (by simp; omega)) (k4d _ ((bt0 _).trans ⟨by simp,λc hc hne=>Ys _ hc hne⟩) (Xr _ (by simp; omega)))
  cases f with
  |true=>
   repeat first|refine Zb rfl ?_|refine Qc rfl ?_|refine Yc rfl ?_|refine Zd rfl ?_
   exact Za rfl (hst _ rfl)
  |false=>
   refine Xa (Za rfl (Xa (Za (ld hx rfl) (Xa (Za rfl (Xa (Za rfl (Xa (Za (ldr (efLd1 x)) (Xa (Za (Qe ..) (Xa (Za rfl ?_)))))))))))));rcases YBE (decide (x.who=2)) with h|h
   rotate_left
   ·rw[h];repeat first|refine Zb rfl ?_|refine Qc rfl ?_|refine Yc rfl ?_|refine Zd rfl ?_
    exact Xa (Za rfl (Za rfl (hst _ (by simp[ptQ,h]))))
   rw[h];refine Xa (Za rfl (Xa (Za (ld hx rfl) (Xa (Za rfl (Xa (Za rfl (Xa (Za (ldr (efLd0 x)) (Xa (Za (Qe ..) (Xa (Za rfl ?_)))))))))))));rcases YBE (decide (x.op=0)) with h0|h0
   ·rw[h0];repeat first|refine Zb rfl ?_|refine Qc rfl ?_|refine Yc rfl ?_|refine Zd rfl ?_
    exact Xa (Za rfl (Xa (Za rfl (Za rfl (hst _ (by simp[ptQ,h,h0]))))))
   rw[h0];exact Xa (Za rfl (Xa (Za (ld hx rfl) (Xa (Za rfl (Xa (Za rfl (Xa (Za (ldr (efLd0 x)) (Xa (Za (Qe ..) (Xa (Za rfl (Xa (Za rfl (Za rfl (hst _ (by simp[ptQ,h,h0]))))))))))))))))))
 |nm row j x hx=>
  refine Za rfl (Za rfl (Za rfl ?_));refine Qs (row:=[.nilp]) (row':=[.nilp]) rfl rfl rfl ?_;refine XQ (Qh ?_);have hb1:=hb0 [.nilp];have bt1:=bt0 [.nilp];generalize σ++[ABlk.box [.nilp]]=τ at hb1 bt1 ⊢;have hlt1:=Xn hb1 (by simp);refine Za rfl (Za rfl (Za rfl ?_));refine Qs (row:=[.rptr row j]) (row':=[.rptr row j]) rfl rfl rfl ?_;refine Qk λk34 hk34=>Ze ?_;have hy:=Zj τ (ABlk.box [.rptr row j]);have hb2:hget (τ++[ABlk.box [.rptr row j]]) b=.box [.bool f]:=Xi _ hb1 (by simp);refine Za (ld hb2 rfl) ?_;have hst:∀q,q=(f||ptQ (.nm x))→VV.wr (Qb 1 [.bptr b 0,.bool q] (τ++[ABlk.box [.rptr row j]])) (τ++[ABlk.box [.rptr row j]]) λ_ τ=>k34 [] τ:=by
   rintro q rfl;refine Qg (stv hb2 rfl rfl rfl) (Zt _ (by simp; omega)) ?_;rw[hk34];exact hend _ ((bt1.trans ⟨by simp,λc hc _=>Yt _ hc⟩).trans ⟨by simp,λc hc hne=>Ys _ hc hne⟩) (Xr _ (by simp; omega))
  cases f with
  |true=>
   repeat first|refine Zb rfl ?_|refine Qc rfl ?_|refine Yc rfl ?_|refine Zd rfl ?_
   exact Za rfl (hst _ rfl)
  |false=>
   exact Xa (Za rfl (Xa (Za (ld hy rfl) (Xa (Za rfl (Xa (Za rfl (Xa (Za (ldr hx.h0) (Xa (Za (Qe ..) (Za rfl (hst _ rfl)))))))))))))
 |cn row j x hx=>
  refine Za rfl (Za rfl (Za rfl ?_));refine Qs (row:=[.nilp]) (row':=[.nilp]) rfl rfl rfl ?_;refine XQ (Qh ?_);refine Za rfl (Za rfl (Za rfl ?_));refine Qs (row:=[.nilp]) (row':=[.nilp]) rfl rfl rfl ?_;refine XQ (Qh (hend _ ((bt0 _).trans ⟨by simp,λc hc _=>Yt _ hc⟩) ?_));rw[show (f||ptQ (.cn x))=f by simp[ptQ]];exact Xi _ (hb0 _) (by simp)
theorem c214(c:Cd)(f1:lsFit c.played=true)(f2:lsFit c.dead=true)(f3:lsFit c.dawn=true)(hN:(cdP c).length≤500000000):PC 214 [.agg (cdC c)] (.bool ((cdP c).any ptQ)):=by
 refine Xd hP g214_ok rfl rfl ?_;unfold g214;refine Qg rfl rfl (Qg rfl rfl (Qg rfl rfl (Za rfl ?_)));refine Qx hP rfl g155_ok rfl ?_;refine c155 (clo233 1) c f1 f2 f3 hN (s:=false) rfl rfl (λσ' _ hb=>?_);rw[XcH _ false rfl] at hb;exact Za (ld hb rfl) rfl
end Go.Ah.Tz
end
section
namespace Go.Ah.Tz
open Go.Proofs.Tryz (prog)
attribute [local irreducible] Ans.rd Ans.pu Ans.wr Ans.dr Ans.gr Ans.gw Ans.gl Ans.gd Ans.opt joinK W
set_option maxHeartbeats 4000000
@[reducible] def aR(y0 y1 y2:AVal)(side place target:Int):List AVal:=[y0,iv side,iv place,iv target,y1,y2]
def YZ(b:Bk)(x:Sd)(place:Int):Cd:=(b.cards[((x.hand[place.toNat]?).getD 0).toNat]?).getD default
def aimF(s:St)(target:Int):Bool:=decide (target = -2)||(decide (target = -3)||(decide (target>0)&&(unitR s target).2.2))
def playF(b:Bk)(s:St)(x:Sd)(place target:Int):Bool:=
 (decide (s.phase=0)&&(decide (0≤place)&&decide (place<(x.hand.length:Int))))&&(!(decide ((YZ b x place).cost>x.mana)||((YZ b x place).unit&&decide ((x.units.length:Int) ≥ 7)))&&(if (cdP (YZ b x place)).any ptQ=true then aimF s target else decide (target = -1)))
@[reducible] def zCdC:List AVal:=[.str [],.bool false,iv 0,iv 0,iv 0,iv 0,iv 0,iv 0,.nils,.nils,.nils,iv 0]
theorem Qcp{row:List AVal}{j:Nat}{x:Sd}(hx:SdAt row j x)(u:Bool){σ:List ABlk}{K:AVal→Prop}(hK:K (.bool (u&&decide ((x.units.length:Int) ≥ 7)))) :
  VV.gr (.bool u) true (λk=>VV.rd (Zh [.rptr row j] σ) k) λt74_74=>
  VV.gr (.bool u) true (λk=>VV.rd (Qa [t74_74] σ) k) λt75_75=>
  VV.gr (.bool u) true (λk=>VV.rd (Ya 6 [t75_75] σ) k) λt76_76=>
  VV.gr (.bool u) true (λk=>VV.rd (Xc false 1 [t76_76] σ) k) λt77_77=>
  VV.gr (.bool u) true (λk=>VV.rd (Yf [t77_77] σ) k) λt78_78=>
  VV.gr (.bool u) true (λk=>VV.rd (Xh .geq false [t78_78,(.int .i64 7)] σ) k) λt79_79=>
  VV.gr (.bool false) false (λk=>VV.rd (Yi [(.bool u),t79_79,(.bool false)] σ) k) λt80_80=>
  VV.rd (Yi [(.bool false),(.bool true),t80_80] σ) K:=by
 cases u with
 |false=>
  repeat first|refine Zb rfl ?_|refine Qc rfl ?_|refine Yc rfl ?_|refine Zd rfl ?_
  exact Xa (Za rfl (Za rfl hK))
 |true=>
  exact Xa (Za rfl (Xa (Za rfl (Xa (Za rfl (Xa (Za (ldr hx.h6) (Xa (Za (v:=iv x.units.length) (rd:=[]) (by simp[Yg]) (Xa (Za (Yag ..) (Xa (Za rfl (Za rfl hK))))))))))))))
theorem Zcq{y1 y2 z0 z1 z2:AVal}{side place target:Int}{c ok:Bool}{σ:List ABlk}(hB:hget σ 0=.box [y1,y2,.rptr (aR z0 z1 z2 side place target) 0]){K:AVal→Prop}(hK:K (.bool (c||(decide (target>0)&&ok)))) :
  VV.gr (.bool c) false (λk=>VV.rd (Ya 2 [.bptr 0 0] σ) k) λt120_122=>
  VV.gr (.bool c) false (λk=>VV.rd (Xc false 1 [t120_122] σ) k) λt121_123=>
  VV.gr (.bool c) false (λk=>VV.rd (Qa [t121_123] σ) k) λt122_124=>
  VV.gr (.bool c) false (λk=>VV.rd (Ya 3 [t122_124] σ) k) λt123_125=>
  VV.gr (.bool c) false (λk=>VV.rd (Xc false 1 [t123_125] σ) k) λt124_126=>
  VV.gr (.bool c) false (λk=>VV.rd (Xh .gtr false [t124_126,(.int .i64 0)] σ) k) λt125_127=>
  VV.gr (.bool c) false (λk=>VV.rd (Zh [t125_127] σ) k) λt126_128=>
  VV.gr t126_128 true (λk=>VV.rd (Zh [(.bool ok)] σ) k) λt127_129=>
  VV.gr (.bool c) false (λk=>VV.rd (Yi [t126_128,t127_129,(.bool false)] σ) k) λt128_130=>
  VV.rd (Yi [(.bool c),(.bool true),t128_130] σ) K:=by
 cases c with
 |true=>
  repeat first|refine Zb rfl ?_|refine Qc rfl ?_|refine Yc rfl ?_|refine Zd rfl ?_
  exact Za rfl hK
 |false=>
  refine Xa (Za rfl (Xa (Za (ld hB rfl) (Xa (Za rfl (Xa (Za rfl (Xa (Za (ldr rfl) (Xa (Za (ZG ..) (Xa (Za rfl ?_)))))))))))));generalize decide (target>0)=p at hK ⊢;cases p with
  |true=>exact Xa (Za rfl (Xa (Za rfl (Za rfl hK))))
  |false=>
   repeat first|refine Zb rfl ?_|refine Qc rfl ?_|refine Yc rfl ?_|refine Zd rfl ?_
   exact Xa (Za rfl (Za rfl hK))
theorem c158(b:Bk)(hf:bkFit b=true)(hsm:QC b.cards)(s:St)(hs:StLe 1000000000 s)(side:Int)(j:Nat)(x:Sd)(hx:SdAt (stC s) j x)(hj:∀σ,Yh 2 8 [.rptr (stC s) (0+7),iv side] σ=.ok (.rptr (stC s) j) [] [])(hc:∀c∈x.hand,0≤c∧c.toNat<b.cards.length)(place target:Int){y0 y1 y2:AVal}:PC 158 [.agg [.rptr (bkC b) 0,.rptr (stC s) 0,.rptr (aR y0 y1 y2 side place target) 0]] (.bool (playF b s x place target)):=by
 refine Xd hP g158_ok rfl rfl ?_;unfold g158;refine Qg (v:=.bptr 0 0) (rd:=[]) (up:=[(0,.box [.rptr (bkC b) 0,.rptr (stC s) 0,.rptr (aR y0 y1 y2 side place target) 0])]) rfl rfl ?_;refine Za rfl (Za rfl (Za rfl (Za rfl (Za rfl (Za rfl (Za rfl (Za rfl (Za rfl (Za (hj _) ?_)))))))));refine Za rfl (Za rfl (Za rfl (Za rfl (Za rfl (Za (YH ..) ?_)))));refine Za7 (λ_=>rfl) (λ_=>rfl) (λ_=>rfl) (λ_=>rfl) (λ_=>rfl) (λ_=>QB ..) ?_;refine Qcw (λ_=>rfl) (λ_=>rfl) (λ_=>rfl) (λ_=>rfl) (λ_=>rfl) (λ_=>rfl) (λ_=>rfl) (λ_=>rfl) (λ_=>ldr hx.h4) (v10:=iv x.hand.length) (q10:=[]) (λ_=>by simp[Yg]) (λ_=>Yag ..) ?_;refine Zc (λh=>?_) (λh=>?_)
 ·refine congrArg AVal.bool (Eq.symm ?_);have h:¬(s.phase=0∧0≤place∧place<(x.hand.length:Int)):=by simp at h; omega
  unfold playF;rw[show (decide (s.phase=0)&&(decide (0≤place)&&decide (place<(x.hand.length:Int))))=false by simpa using h,Bool.false_and]
 have h:s.phase=0∧0≤place∧place<(x.hand.length:Int):=by simp at h; omega
 have hpl:playF b s x place target=(!(decide ((YZ b x place).cost>x.mana)||((YZ b x place).unit&&decide ((x.units.length:Int) ≥ 7)))&&(if (cdP (YZ b x place)).any ptQ=true then aimF s target else decide (target = -1))):=by
  unfold playF;rw[show (decide (s.phase=0)&&(decide (0≤place)&&decide (place<(x.hand.length:Int))))=true by simpa using h,Bool.true_and]
 obtain⟨_,h0,h1⟩:=h;have h2:place.toNat<x.hand.length:=by omega
 have hcc:=hc _ (List.getElem_mem h2);have hcard:YZ b x place=b.cards[(x.hand[place.toNat]).toNat]'hcc.2:=by simp[YZ,List.getElem?_eq_getElem h2,List.getElem?_eq_getElem hcc.2]
 rw[hcard] at hpl;have hfc:cdFit (b.cards[(x.hand[place.toNat]).toNat]'hcc.2)=true:=by
  simp only[bkFit,XI,Bool.and_eq_true,List.all_eq_true] at hf;exact hf.1.2 _ (List.getElem_mem hcc.2)
 have hsc:=hsm _ (List.getElem_mem hcc.2);have hix:=λ(τ:List ABlk)=>ZbS τ cel false false 1 x.hand .i64 place h0 h2;have hix2:=λ(τ:List ABlk)=>ZbS τ cdC false false 12 b.cards .i64 _ hcc.1 hcc.2;generalize b.cards[(x.hand[place.toNat]).toNat]'hcc.2=cd at hpl hfc hsc hix2;generalize x.hand[place.toNat]=cn at hix hix2;clear hcard hcc h1 h2;refine Xj rfl (Zp rfl rfl (Xj rfl (Xj rfl (Zp rfl rfl (Xj rfl (Xj rfl (Zp (ldr hx.h4) (Zq _) ?_)))))));refine Xj rfl (Zp rfl rfl (Xj rfl (Xj rfl (Zp rfl rfl (Zp (hix _) (Zq _) (Zp (ldr rfl) (Zq _) (Zp (hix2 _) (Zq _) (Zp (ldr (cdLd _)) (Zq _) ?_))))))));refine Zp (v:=.bptr 1 0) (rd:=[]) (up:=[(1,.box zCdC)]) rfl rfl ?_;refine Zp (v:=.junk) (rd:=[]) (up:=[(1,.box (cdC cd))]) rfl rfl (XK (by rfl) ?_);refine Za rfl (Za rfl (Za rfl (Za rfl (Za (ldr hx.h1) (Za (ZG ..) ?_)))));have hend:playF b s x place target=false→(.bool false:AVal)=.bool (playF b s x place target):=λh=>by rw[h]
 generalize decide (cd.cost>x.mana)=c1 at hpl ⊢;cases c1 with
 |true=>
  repeat first|refine Zb rfl ?_|refine Qc rfl ?_|refine Yc rfl ?_|refine Zd rfl ?_
  exact Za rfl (Ze (hend (by rw[hpl]; simp)))
 |false=>
 refine Xa (Za rfl (Xa (Za (v:=.bool cd.unit) (rd:=[1]) rfl (Xa (Za rfl ?_)))));refine Qcp hx cd.unit (Zc (λh=>?_) (λh=>?_))
 ·exact hend (by rw[hpl,h]; simp)
 rw[h,Bool.or_false,Bool.not_false,Bool.true_and] at hpl;clear h;simp only[cdFit,Bool.and_eq_true] at hfc;refine Za (v:=.agg (cdC cd)) (rd:=[1]) rfl (Yd (c214 cd hfc.2.1 hfc.2.2.1 hfc.2.2.2 hsc) rfl g214_ok.plain rfl (Za rfl ?_));generalize (cdP cd).any ptQ=q at hpl ⊢;cases q with
 |false=>
  rw[if_neg (by simp)] at hpl;rw[hpl];exact Ze (Za rfl (Za rfl (Za rfl (Za rfl (Za (ldr rfl) (Za (Qe ..) rfl))))))
 |true=>
  rw[if_pos rfl] at hpl;rw[hpl];refine Qh (Xj rfl (Zp rfl rfl (Xj rfl (Zp (v:=stV s) (rd:=[]) rfl rfl (Xj rfl (Zp rfl rfl (Xj rfl (Xj rfl (Zp (ldr rfl) rfl ?_)))))))));refine Ql (c71 s hs target) rfl g71_ok.plain rfl (Xj rfl (Xj rfl (Xj rfl (XK (by rfl) ?_))));refine Za rfl (Za rfl (Za rfl (Za rfl (Za (ldr rfl) (Za (Qe ..) ?_)))));refine Za7 (λ_=>rfl) (λ_=>rfl) (λ_=>rfl) (λ_=>rfl) (λ_=>ldr rfl) (λ_=>Qe ..) ?_;refine Zcq rfl ?_;exact congrArg AVal.bool (by rw[aimF,Bool.or_assoc])
def whoF(s:St):Int:=if s.phase=0 then s.mover else if s.phase=1 then 1-s.mover else 0
theorem c37(s:St)(hm:s.mover=0∨s.mover=1):PC 37 [stV s] (iv (whoF s)):=by
 refine Xd hP g37_ok rfl rfl ?_;unfold g37;refine Qg rfl rfl (Za rfl (Za rfl ?_));refine Za (v:=iv s.mover) (rd:=[]) (by rcases hm with h|h<;>rw[h]<;>rfl) ?_;refine Za rfl (Za rfl (Za (Qe ..) ?_));refine Zc (λh=>?_) (λh=>?_)
 ·exact congrArg iv (by rw[whoF,if_pos (by simpa using h)])
 have h0:¬s.phase=0:=by simpa using h
 refine Za (Qe ..) (Zc (λh=>?_) (λh=>?_))
 ·refine Za (v:=iv (1-s.mover)) (rd:=[]) (by rcases hm with h|h<;>rw[h]<;>rfl) ?_;exact congrArg iv (by rw[whoF,if_neg h0,if_pos (by simpa using h)])
 ·exact congrArg iv (by rw[whoF,if_neg h0,if_neg (by simpa using h)])
theorem c127:PC 127 [] (.agg [.func (.func 158) [] [],.func (.func 159) [] [],.func (.func 160) [] [],.func (.func 161) [] [],.func (.func 162) [] []]):=by
 refine Xd hP g127_ok rfl rfl ?_;unfold g127;exact Qg rfl rfl (Za rfl (Qg rfl rfl (Yv rfl rfl)))
theorem c55(b:Bk)(hf:bkFit b=true)(hsm:QC b.cards)(s:St)(hs:StLe 1000000000 s):PC 55 [bkV b,stV s] (iv (bif mayR (bkR b).1 b s false then 0 else 170)):=by
 refine Xd hP g55_ok rfl rfl ?_;unfold g55;refine Qg (v:=.bptr 0 0) (rd:=[]) (up:=[(0,.box (bkC b))]) rfl rfl ?_;refine Qg (v:=.bptr 1 0) (rd:=[]) (up:=[(1,.box (stC s))]) rfl rfl ?_;refine YaM (rd:=[0,1]) (c111 b hf hsm s hs false) rfl g111_ok.plain (.cons (Bor.box (row:=bkC b) rfl (by simp) (BorL.ro rfl)) <| .cons (Bor.box (row:=stC s) rfl (by simp) (BorL.ro rfl)) <| .cons (Bor.ro rfl) .nil) rfl ?_;generalize mayR (bkR b).1 b s false=q;cases q with
 |true=>exact Za rfl (Qh rfl)
 |false=>exact Za rfl (Ze rfl)
end Go.Ah.Tz
end
section
namespace Go.Ah.Tz
open Go.Proofs.Tryz (prog)
structure Ac where
 op:Int
 side:Int
 place:Int
 target:Int
 ids:List Int
 prs:List (Int×Int)
def prC(p:Int×Int):List AVal:=[iv p.1,iv p.2]
@[reducible] def prV(l:List (Int×Int)):AVal:=.rsl false false 2 (l.map prC)
@[reducible] def acC(a:Ac):List AVal:=[iv8 a.op,iv a.side,iv a.place,iv a.target,rowV a.ids,prV a.prs]
def okU(s:St)(side id:Int):Bool:=(unitR s id).2.2&&(decide ((unitR s id).1=side) && !(((if (unitR s id).1=0 then s.s0.units else s.s1.units)[(unitR s id).2.1.toNat]?).getD default).tired)
def attGo(s:St)(side:Int):List Int→List Int→Bool
 |_,[]=>true
 |prev,a::l=>okU s side a&&(!prev.contains a&&attGo s side (prev++[a]) l)
def blkGo(s:St)(side:Int):List (Int×Int)→List (Int×Int)→Bool
 |_,[]=>true
 |prev,p::l=>((s.attack.any λx=>decide (x=p.1))&&((unitR s p.2).2.2&&decide ((unitR s p.2).1=side)))&&(!(prev.any λq=>decide (q.1=p.1)||decide (q.2=p.2))&&blkGo s side (prev++[p]) l)
def bareF(a:Ac):Bool:=!(decide (a.op≠0)&&(decide (a.place≠0)||decide (a.target≠-1)))&&((decide (a.op=1)||decide ((a.ids.length:Int)=0))&&(decide (a.op=2)||decide ((a.prs.length:Int)=0)))
attribute [local irreducible] Ans.rd Ans.pu Ans.wr Ans.dr Ans.gr Ans.gw Ans.gl Ans.gd Ans.opt joinK W
set_option maxHeartbeats 4000000
theorem c33(a:Ac):∃q:Bool,PC 33 [.agg (acC a)] (.bool q):=by
 apply Exists.intro;refine Xd hP g33_ok rfl rfl ?_;unfold g33;refine Qg rfl rfl (Za rfl (Za rfl (Za (v:=iv a.ids.length) (rd:=[]) (by simp[Yg]) (Za (ZG ..) ?_))));refine Yco (λ_=>rfl) (λ_=>rfl) (v3:=iv a.prs.length) (q3:=[]) (λ_=>by simp[Yg]) (λ_=>ZG ..) rfl
theorem Ycp(a:Ac){σ:List ABlk}{K:AVal→Prop}(hK:K (.bool (decide (a.op≠0)&&(decide (a.place≠0)||decide (a.target≠-1))))) :
  VV.gr (.bool (decide (a.op≠0))) true (λk=>VV.rd (Zh [.rptr (acC a) 0] σ) k) λt9_4=>
  VV.gr (.bool (decide (a.op≠0))) true (λk=>VV.rd (Qa [t9_4] σ) k) λt10_5=>
  VV.gr (.bool (decide (a.op≠0))) true (λk=>VV.rd (Ya 2 [t10_5] σ) k) λt11_6=>
  VV.gr (.bool (decide (a.op≠0))) true (λk=>VV.rd (Xc false 1 [t11_6] σ) k) λt12_7=>
  VV.gr (.bool (decide (a.op≠0))) true (λk=>VV.rd (Xh .neq false [t12_7,(.int .i64 0)] σ) k) λt13_8=>
  VV.gr (.bool (decide (a.op≠0))) true (λk=>VV.rd (Zh [t13_8] σ) k) λt14_9=>
  VV.gr t14_9 false (λk=>VV.rd (Zh [.rptr (acC a) 0] σ) k) λt15_10=>
  VV.gr t14_9 false (λk=>VV.rd (Qa [t15_10] σ) k) λt16_11=>
  VV.gr t14_9 false (λk=>VV.rd (Ya 3 [t16_11] σ) k) λt17_12=>
  VV.gr t14_9 false (λk=>VV.rd (Xc false 1 [t17_12] σ) k) λt18_13=>
  VV.gr t14_9 false (λk=>VV.rd (Xh .neq false [t18_13,(.int .i64 (-1))] σ) k) λt19_14=>
  VV.gr (.bool (decide (a.op≠0))) true (λk=>VV.rd (Yi [t14_9,(.bool true),t19_14] σ) k) λt20_15=>
  VV.rd (Yi [(.bool (decide (a.op≠0))),t20_15,(.bool false)] σ) K:=by
 generalize decide (a.op≠0)=c0 at hK ⊢;cases c0 with
 |false=>
  repeat first|refine Zb rfl ?_|refine Qc rfl ?_|refine Yc rfl ?_|refine Zd rfl ?_
  exact Za rfl hK
 |true=>
  refine Xa (Za rfl (Xa (Za rfl (Xa (Za rfl (Xa (Za (ldr rfl) (Xa (Za (YH ..) (Xa (Za rfl ?_)))))))))));generalize decide (a.place≠0)=c1 at hK ⊢;cases c1 with
  |true=>
   repeat first|refine Zb rfl ?_|refine Qc rfl ?_|refine Yc rfl ?_|refine Zd rfl ?_
   exact Xa (Za rfl (Za rfl hK))
  |false=>
   exact Xa (Za rfl (Xa (Za rfl (Xa (Za rfl (Xa (Za (ldr rfl) (Xa (Za (YH ..) (Xa (Za rfl (Za rfl hK))))))))))))
theorem Xcp(a:Ac){σ:List ABlk}(c:Bool){K:AVal→Prop}(hK:K (.bool (c&&(decide (a.op=2)||decide ((a.prs.length:Int)=0))))) :
  VV.gr (.bool c) true (λk=>VV.rd (Zh [.rptr (acC a) 0] σ) k) λt36_28=>
  VV.gr (.bool c) true (λk=>VV.rd (Qa [t36_28] σ) k) λt37_29=>
  VV.gr (.bool c) true (λk=>VV.rd (Ya 0 [t37_29] σ) k) λt38_30=>
  VV.gr (.bool c) true (λk=>VV.rd (Xc false 1 [t38_30] σ) k) λt39_31=>
  VV.gr (.bool c) true (λk=>VV.rd (Xh .eql false [t39_31,(.int .i8 2)] σ) k) λt40_32=>
  VV.gr (.bool c) true (λk=>VV.rd (Zh [t40_32] σ) k) λt41_33=>
  VV.gr t41_33 false (λk=>VV.rd (Zh [.rptr (acC a) 0] σ) k) λt42_34=>
  VV.gr t41_33 false (λk=>VV.rd (Qa [t42_34] σ) k) λt43_35=>
  VV.gr t41_33 false (λk=>VV.rd (Ya 5 [t43_35] σ) k) λt44_36=>
  VV.gr t41_33 false (λk=>VV.rd (Xc false 1 [t44_36] σ) k) λt45_37=>
  VV.gr t41_33 false (λk=>VV.rd (Yf [t45_37] σ) k) λt46_38=>
  VV.gr t41_33 false (λk=>VV.rd (Xh .eql false [t46_38,(.int .i64 0)] σ) k) λt47_39=>
  VV.gr (.bool c) true (λk=>VV.rd (Yi [t41_33,(.bool true),t47_39] σ) k) λt48_40=>
  VV.rd (Yi [(.bool c),t48_40,(.bool false)] σ) K:=by
 cases c with
 |false=>
  repeat first|refine Zb rfl ?_|refine Qc rfl ?_|refine Yc rfl ?_|refine Zd rfl ?_
  exact Za rfl hK
 |true=>
  refine Xa (Za rfl (Xa (Za rfl (Xa (Za rfl (Xa (Za (ldr rfl) (Xa (Za (Qe ..) (Xa (Za rfl ?_)))))))))));generalize decide (a.op=2)=c1 at hK ⊢;cases c1 with
  |true=>
   repeat first|refine Zb rfl ?_|refine Qc rfl ?_|refine Yc rfl ?_|refine Zd rfl ?_
   exact Xa (Za rfl (Za rfl hK))
  |false=>
   exact Xa (Za rfl (Xa (Za rfl (Xa (Za rfl (Xa (Za (ldr rfl) (Xa (Za (v:=iv a.prs.length) (rd:=[]) (by simp[Yg]) (Xa (Za (Qe ..) (Xa (Za rfl (Za rfl hK))))))))))))))
theorem c126g(a:Ac):PC 126 [.rptr (acC a) 0] (.bool (bareF a)):=by
 refine Xd hP g126_ok rfl rfl ?_;unfold g126;refine Za rfl (Za rfl (Za (ldr rfl) (Za (YH ..) ?_)));have hF:(decide (a.op≠0)&&(decide (a.place≠0)||decide (a.target≠-1)))=true→(AVal.bool false=.bool (bareF a)):=λh=>by
  rw[bareF,h]; rfl
 have hT:(decide (a.op≠0)&&(decide (a.place≠0)||decide (a.target≠-1)))=false→(AVal.bool ((decide (a.op=1)||decide ((a.ids.length:Int)=0))&&(decide (a.op=2)||decide ((a.prs.length:Int)=0)))=.bool (bareF a)):=λh=>by
  rw[bareF,h]; rfl
 refine Ycp a (Zc (λh=>hF h) (λh=>?_));have hT:=hT h;refine Za rfl (Za rfl (Za (ldr rfl) (Za (Qe ..) ?_)));refine Za7 (λ_=>rfl) (λ_=>rfl) (λ_=>rfl) (λ_=>ldr rfl) (v5:=iv a.ids.length) (q5:=[]) (λ_=>by simp[Yg]) (λ_=>Qe ..) ?_;exact Xcp a _ hT
end Go.Ah.Tz
end
section
namespace Go.Ah.Tz
open Go.Proofs.Tryz (prog)
def playR(b:Bk)(s:St)(x:Sd)(place target:Int):Bool:=
 (decide (0≤place)&&decide (place<(x.hand.length:Int)))&&(!(decide ((YZ b x place).cost>x.mana)||((YZ b x place).unit&&decide ((x.units.length:Int) ≥ 7)))&&(if (cdP (YZ b x place)).any ptQ=true then aimF s target else decide (target = -1)))
theorem Xcv(b:Bk)(s:St)(x:Sd)(place target:Int):playF b s x place target=(decide (s.phase=0)&&playR b s x place target):=by
 rw[playF,playR,Bool.and_assoc]
theorem YbH(s:St)(id:Int):(∃k:Nat,∃u,unitR s id=(0,(k:Int),true)∧s.s0.units[k]?=some u)∨(∃k:Nat,∃u,unitR s id=(1,(k:Int),true)∧s.s1.units[k]?=some u)∨unitR s id=(0,0,false):=by
 unfold unitR;cases q0:fnd s.s0.units id with
 |some k=>obtain⟨u,hk,_⟩:=Qbm q0; exact .inl ⟨k,u,rfl,hk⟩
 |none=>
  cases q1:fnd s.s1.units id with
  |some k=>obtain⟨u,hk,_⟩:=Qbm q1; exact .inr (.inl ⟨k,u,rfl,hk⟩)
  |none=>exact .inr (.inr rfl)
def attR(s:St)(a:Ac):Bool:=(!(s.struck||decide ((a.ids.length:Int)=0)) && !decide ((a.ids.length:Int)>7))&&attGo s a.side [] a.ids
def blkR(s:St)(a:Ac):Bool:=!(decide ((a.prs.length:Int)=0)||decide ((a.prs.length:Int)>7))&&blkGo s a.side [] a.prs
def wayF(b:Bk)(s:St)(a:Ac):Bool:=if a.op=0 then decide (s.phase=0)&&playR b s (if a.side=0 then s.s0 else s.s1) a.place a.target else if a.op=1 then decide (s.phase=0)&&attR s a else if a.op=2 then decide (s.phase=1)&&blkR s a else true
def badF(a:Ac):Bool:=(((decide (a.side<0)||decide (a.side>1))||decide (a.op<0))||decide (a.op>4)) || !bareF a
def doF(b:Bk)(s:St)(a:Ac):Int:=if badF a=true then 2 else if a.op=4 then 0 else if a.side=whoF s∧wayF b s a=true then 0 else 210
end Go.Ah.Tz
end
section
namespace Go.Ah.Tz
open Go.Proofs.Tryz (prog)
def idM(l:List Int):List (Int×Bool):=l.map λx=>(x,true)
theorem X5(t:Int):∀l:List Int,ilook t (idM l)=if l.contains t then some true else none
 |[]=>rfl
 |x::l=>by
  have ih:=X5 t l;simp only[idM,List.map_cons,ilook,List.contains_cons] at ih ⊢;cases h:t==x with
  |true=>simp
  |false=>rw[if_neg (by simp)]; simpa using ih
def attP(s:St)(a:Ac):Bool:=attGo s a.side [] a.ids&&((decide (s.phase=0) && !s.struck)&&decide ((a.ids.length:Int)>0))
attribute [local irreducible] Ans.rd Ans.pu Ans.wr Ans.dr Ans.gr Ans.gw Ans.gl Ans.gd Ans.opt joinK W
set_option maxHeartbeats 4000000
theorem Ycq(s:St)(a:Ac)(id:Int){y:AVal}{σ:List ABlk}(h0:hget σ 0=.box [y,.rptr (stC s) 0,.rptr (acC a) 0]){K:AVal→Prop}(hK:K (.bool (!okU s a.side id))) :
  VV.rd (Yn .not [.bool (unitR s id).2.2] σ) λt31_21=>
  VV.gr t31_21 false (λk=>VV.rd (Zh [iv (unitR s id).1] σ) k) λt33_22=>
  VV.gr t31_21 false (λk=>VV.rd (Ya 2 [.bptr 0 0] σ) k) λt34_23=>
  VV.gr t31_21 false (λk=>VV.rd (Xc false 1 [t34_23] σ) k) λt35_24=>
  VV.gr t31_21 false (λk=>VV.rd (Qa [t35_24] σ) k) λt36_25=>
  VV.gr t31_21 false (λk=>VV.rd (Ya 1 [t36_25] σ) k) λt37_26=>
  VV.gr t31_21 false (λk=>VV.rd (Xc false 1 [t37_26] σ) k) λt38_27=>
  VV.gr t31_21 false (λk=>VV.rd (Xh .neq false [t33_22,t38_27] σ) k) λt39_28=>
  VV.rd (Yi [t31_21,(.bool true),t39_28] σ) λt40_29=>
  VV.gr t40_29 false (λk=>VV.rd (Ya 1 [.bptr 0 0] σ) k) λt42_30=>
  VV.gr t40_29 false (λk=>VV.rd (Xc false 1 [t42_30] σ) k) λt43_31=>
  VV.gr t40_29 false (λk=>VV.rd (Zh [iv (unitR s id).1] σ) k) λt44_32=>
  VV.gr t40_29 false (λk=>VV.rd (Qa [t43_31] σ) k) λt45_33=>
  VV.gr t40_29 false (λk=>VV.rd (Ya 7 [t45_33] σ) k) λt46_34=>
  VV.gr t40_29 false (λk=>VV.rd (Yh 2 8 [t46_34,t44_32] σ) k) λt47_35=>
  VV.gr t40_29 false (λk=>VV.rd (Ya 6 [t47_35] σ) k) λt48_36=>
  VV.gr t40_29 false (λk=>VV.rd (Xc false 1 [t48_36] σ) k) λt49_37=>
  VV.gr t40_29 false (λk=>VV.rd (Zh [iv (unitR s id).2.1] σ) k) λt50_38=>
  VV.gr t40_29 false (λk=>VV.rd (Xb 4 [t49_37,t50_38] σ) k) λt51_39=>
  VV.gr t40_29 false (λk=>VV.rd (Ya 3 [t51_39] σ) k) λt52_40=>
  VV.gr t40_29 false (λk=>VV.rd (Xc false 1 [t52_40] σ) k) λt53_41=>
  VV.rd (Yi [t40_29,(.bool true),t53_41] σ) K:=by
 rcases YbH s id with ⟨k,u,hu,hk⟩|⟨k,u,hu,hk⟩|hu
 ·rw[show okU s a.side id=(decide ((0:Int)=a.side) && !u.tired) by simp[okU,hu,hk]] at hK;rw[hu];have hkl:k<s.s0.units.length:=(YLG hk).1;have hku:s.s0.units[k]=u:=(YLG hk).2;have hix:=λ(τ:List ABlk)=>Zn τ thC false false 4 s.s0.units .i64 k hkl;rw[hku] at hix;refine Za rfl (Xa (Za rfl (Xa (Za rfl (Xa (Za (ld h0 rfl) (Xa (Za rfl (Xa (Za rfl (Xa (Za (ldr rfl) (Xa (Za (YH ..) (Za rfl ?_)))))))))))))));rw[show decide ((0:Int)≠a.side) = !decide ((0:Int)=a.side) by simp];generalize decide ((0:Int)=a.side)=c at hK ⊢;cases c with
  |false=>
   repeat first|refine Zb rfl ?_|refine Qc rfl ?_|refine Yc rfl ?_|refine Zd rfl ?_
   exact Za rfl hK
  |true=>
   refine Xa (Za rfl (Xa (Za (ld h0 rfl) (Xa (Za rfl (Xa (Za rfl (Xa (Za rfl (Xa (Za rfl (Xa (Za rfl (Xa (Za (ldr rfl) (Xa (Za rfl (Xa (Za (hix _) (Xa (Za rfl (Xa (Za (v:=.bool u.tired) (rd:=[]) (ldr rfl) (Za rfl ?_))))))))))))))))))))))));have e:(true && !u.tired) = !u.tired:=by simp
   rw[e,Bool.not_not] at hK;exact hK
 ·rw[show okU s a.side id=(decide ((1:Int)=a.side) && !u.tired) by simp[okU,hu,hk]] at hK;rw[hu];have hkl:k<s.s1.units.length:=(YLG hk).1;have hku:s.s1.units[k]=u:=(YLG hk).2;have hix:=λ(τ:List ABlk)=>Zn τ thC false false 4 s.s1.units .i64 k hkl;rw[hku] at hix;refine Za rfl (Xa (Za rfl (Xa (Za rfl (Xa (Za (ld h0 rfl) (Xa (Za rfl (Xa (Za rfl (Xa (Za (ldr rfl) (Xa (Za (YH ..) (Za rfl ?_)))))))))))))));rw[show decide ((1:Int)≠a.side) = !decide ((1:Int)=a.side) by simp];generalize decide ((1:Int)=a.side)=c at hK ⊢;cases c with
  |false=>
   repeat first|refine Zb rfl ?_|refine Qc rfl ?_|refine Yc rfl ?_|refine Zd rfl ?_
   exact Za rfl hK
  |true=>
   refine Xa (Za rfl (Xa (Za (ld h0 rfl) (Xa (Za rfl (Xa (Za rfl (Xa (Za rfl (Xa (Za rfl (Xa (Za rfl (Xa (Za (ldr rfl) (Xa (Za rfl (Xa (Za (hix _) (Xa (Za rfl (Xa (Za (v:=.bool u.tired) (rd:=[]) (ldr rfl) (Za rfl ?_))))))))))))))))))))))));have e:(true && !u.tired) = !u.tired:=by simp
   rw[e,Bool.not_not] at hK;exact hK
 ·rw[show okU s a.side id=false by simp[okU,hu]] at hK;rw[hu];refine Za rfl ?_;repeat first|refine Zb rfl ?_|refine Qc rfl ?_|refine Yc rfl ?_|refine Zd rfl ?_
  refine Za rfl ?_;repeat first|refine Zb rfl ?_|refine Qc rfl ?_|refine Yc rfl ?_|refine Zd rfl ?_
  exact Za rfl hK
theorem c159(b:Bk)(s:St)(hs:StLe 1000000000 s)(a:Ac)(hl:a.ids.length≤1000000000):PC 159 [.agg [.rptr (bkC b) 0,.rptr (stC s) 0,.rptr (acC a) 0]] (.bool (attP s a)):=by
 refine Xd hP g159_ok rfl rfl ?_;unfold g159;refine Qg (v:=.bptr 0 0) (rd:=[]) (up:=[(0,.box [.rptr (bkC b) 0,.rptr (stC s) 0,.rptr (acC a) 0])]) rfl rfl ?_;refine Qg (v:=.map 1) (rd:=[]) (up:=[(1,.map (mpG AVal.bool (idM [])))]) rfl rfl ?_;have h0:hget ([]++[ABlk.box [.rptr (bkC b) 0,.rptr (stC s) 0,.rptr (acC a) 0]]++[ABlk.map (mpG AVal.bool (idM []))]) 0=.box [.rptr (bkC b) 0,.rptr (stC s) 0,.rptr (acC a) 0]:=rfl;have h1:hget ([]++[ABlk.box [.rptr (bkC b) 0,.rptr (stC s) 0,.rptr (acC a) 0]]++[ABlk.map (mpG AVal.bool (idM []))]) 1=.map (mpG AVal.bool (idM [])):=rfl;refine Za rfl (Za (ld h0 rfl) (Za rfl (Za rfl (Za (ldr rfl) (Za (v:=iv a.ids.length) (rd:=[]) (by simp[Yg]) ?_)))));generalize ([]++[ABlk.box [.rptr (bkC b) 0,.rptr (stC s) 0,.rptr (acC a) 0]]++[ABlk.map (mpG AVal.bool (idM []))]:List ABlk)=base at h0 h1 ⊢;refine Qj (ι:=Nat) (λi vs σ=>vs=[iv i]∧hget σ 0=.box [.rptr (bkC b) 0,.rptr (stC s) 0,.rptr (acC a) 0]∧hget σ 1=.map (mpG AVal.bool (idM (a.ids.take i)))∧i≤a.ids.length∧attGo s a.side [] a.ids=attGo s a.side (a.ids.take i) (a.ids.drop i)) (λi=>a.ids.length-i) 0 ⟨rfl,h0,h1,by omega,by simp⟩ ?_;clear h0 h1 base;rintro i vs σ again ⟨rfl,h0,h1,hi,hu⟩ hag;refine Za (QB ..) ?_;refine Zc (λh=>?_) (λh=>?_);rotate_left
 ·have h:i=a.ids.length:=by simp at h; omega
  subst h;rw[List.drop_length] at hu;rw[List.take_length] at h1;have hP2:attP s a=((decide (s.phase=0) && !s.struck)&&decide ((a.ids.length:Int)>0)):=by rw[attP,hu]; rfl
  rw[hP2];refine Za rfl (Za (ld h0 rfl) (Za rfl (Za rfl (Za (ldr rfl) (Za (Qe ..) ?_)))));refine ZcI (λ_=>rfl) (λ_=>ld h0 rfl) (λ_=>rfl) (λ_=>rfl) (λ_=>ldr rfl) (λ_=>rfl) ?_;refine Qcn (λ_=>rfl) (v2:=iv a.ids.length) (q2:=[1]) (λ_=>by simp[XaK,h1,mpG,idM]) (λ_=>ZG ..) ?_;rfl
 have h:i<a.ids.length:=by simp at h; omega
 have hix:=λ(τ:List ABlk)=>Zn τ cel false false 1 a.ids .i64 i h;have hdr:a.ids.drop i=a.ids[i]::a.ids.drop (i+1):=by rw[YLD h]
 have htk:a.ids.take (i+1)=a.ids.take i++[a.ids[i]]:=by rw[List.take_succ_eq_append_getElem h]
 rw[hdr,attGo,←htk] at hu;have hPf:∀ {q},attGo s a.side [] a.ids=q→q=false→(AVal.bool false=.bool (attP s a)):=λe1 e2=>by rw[attP,e1,e2]; rfl
 generalize hid:a.ids[i]=id at hix hu htk;refine Za (hix _) (Za (ldr rfl) (Za rfl (Za (ld h0 rfl) (Za rfl (Za (ldr (v:=stV s) rfl) ?_)))));refine Yd (c71 s hs id) rfl g71_ok.plain rfl (Za rfl (Za rfl (Za rfl (Ycq s a id h0 ?_))));have hlk:=Xag AVal.bool (.bool false) false h1 id;rw[X5] at hlk;refine QaC (d:=(a.ids.take i).contains id) (λ_=>rfl) (λ_=>rfl) (v2:=iv id) (λ_=>hlk.trans (by cases (a.ids.take i).contains id<;>rfl)) ?_;refine Zc (λhk=>hPf hu ?_) (λhk=>?_)
 ·revert hk
  cases okU s a.side id<;>cases (a.ids.take i).contains id<;>simp
 have hok:okU s a.side id=true∧(a.ids.take i).contains id=false:=by
  revert hk
  cases okU s a.side id<;>cases (a.ids.take i).contains id<;>simp
 rw[hok.1,hok.2] at hu;have hup:=QaX AVal.bool h1 id true (by rw[X5,hok.2]; rfl);have hlt:=Xn h1 (by simp);refine Qg hup (Zt _ hlt) (Za (Zl ..) ?_);rw[Qf (n:=i) (by omega)];refine hag (i+1) _ _ (by omega) ⟨rfl,Yo h0 (by simp) (by decide),?_,by omega,by rw[hu]; rfl⟩;rw[Xr _ hlt,htk];simp[idM]
end Go.Ah.Tz
end
section
namespace Go.Ah.Tz
open Go.Proofs.Tryz (prog)
theorem YbZ(p:Int×Int):∀l:List (Int×Int),((l.map (·.1)).contains p.1||(l.map (·.2)).contains p.2)=l.any λq=>decide (q.1=p.1)||decide (q.2=p.2)
 |[]=>rfl
 |q::l=>by
  rw[List.any_cons,←YbZ p l,List.map_cons,List.map_cons,List.contains_cons,List.contains_cons];have e1:(p.1==q.1)=decide (q.1=p.1):=by rw[Bool.eq_iff_iff,beq_iff_eq,decide_eq_true_eq]; exact eq_comm
  have e2:(p.2==q.2)=decide (q.2=p.2):=by rw[Bool.eq_iff_iff,beq_iff_eq,decide_eq_true_eq]; exact eq_comm
  rw[e1,e2];cases decide (q.1=p.1)<;>cases decide (q.2=p.2)<;>cases (l.map (·.1)).contains p.1<;>cases (l.map (·.2)).contains p.2<;>rfl
def blkP(s:St)(a:Ac):Bool:=blkGo s a.side [] a.prs&&(decide (s.phase=1)&&decide ((a.prs.length:Int)>0))
attribute [local irreducible] Ans.rd Ans.pu Ans.wr Ans.dr Ans.gr Ans.gw Ans.gl Ans.gd Ans.opt joinK W
set_option maxHeartbeats 8000000
theorem c176(l:List Int)(hl:l.length≤1000000000)(x:Int):∃n:Int,PC 176 [rowV l,iv x] (iv n)∧decide (n ≥ 0)=l.any λy=>decide (y=x):=by
 have key:∀n:Int,(∀i:Nat,i≤l.length→((l.take i).any λy=>decide (y=x))=false→(∀h:i<l.length,l[i]=x→n=i)∧(i=l.length→n = -1))→PC 176 [rowV l,iv x] (iv n):=by
  intro n hn;refine Xd hP g176_ok rfl rfl ?_;unfold g176;refine Za (v:=iv l.length) (rd:=[]) (by simp[Yg]) ?_;refine Qj (ι:=Nat) (λi vs σ=>vs=[iv i]∧i≤l.length∧((l.take i).any λy=>decide (y=x))=false) (λi=>l.length-i) 0 ⟨rfl,by omega,rfl⟩ ?_;rintro i vs σ again ⟨rfl,hi,hu⟩ hag;refine Za (QB ..) (Zc (λh=>?_) (λh=>?_))
  ·have h:i<l.length:=by simpa using h
   refine Za (Zn _ cel false false 1 l .i64 i h) (Za (ldr rfl) (Za (Qe ..) (Zc (λhe=>?_) (λhe=>?_))))
   ·have he:l[i]=x:=by simp at he; exact he.symm
    rw[(hn i hi hu).1 h he];rfl
   ·refine Za (Zl ..) ?_;rw[Qf (n:=i) (by omega)];refine hag (i+1) _ _ (by omega) ⟨rfl,by omega,?_⟩;rw[List.take_succ_eq_append_getElem h,List.any_append,hu];have he:¬x=l[i]:=by simpa using he
    simpa using λk=>he k.symm
  ·have h:i=l.length:=by simp at h; omega
   rw[(hn i hi hu).2 h]
 cases hf:l.findIdx? (λy=>decide (y=x)) with
 |none=>
  have hn:∀y∈l,¬y=x:=by simpa[List.findIdx?_eq_none_iff] using hf
  refine⟨-1,key _ (λi hi _=>⟨λh e=>(hn _ (List.getElem_mem h) e).elim,λ_=>rfl⟩),?_⟩;have:(l.any λy=>decide (y=x))=false:=by simpa using hn
  rw[this]; rfl
 |some k=>
  obtain⟨hk,h2,h3⟩:=List.findIdx?_eq_some_iff_getElem.1 hf;have h2:l[k]=x:=by simpa using h2
  refine⟨k,key _ (λi hi hu=>⟨λh e=>?_,λh=>?_⟩),?_⟩
  ·rcases Nat.lt_trichotomy i k with q|q|q
   ·have h4:¬l[i]=x:=by simpa using h3 i q
    exact(h4 e).elim
   ·rw[q]
   ·have:((l.take i).any λy=>decide (y=x))=true:=List.any_eq_true.2 ⟨_,List.mem_take_iff_getElem.2 ⟨k,by omega,rfl⟩,by simpa using h2⟩;rw[this] at hu; cases hu
  ·have:((l.take i).any λy=>decide (y=x))=true:=List.any_eq_true.2 ⟨_,List.mem_take_iff_getElem.2 ⟨k,by omega,rfl⟩,by simpa using h2⟩;rw[this] at hu; cases hu
  ·have:(l.any λy=>decide (y=x))=true:=List.any_eq_true.2 ⟨_,List.getElem_mem hk,by simpa using h2⟩;rw[this]; simp
theorem c138(l:List Int)(hl:l.length≤1000000000)(x:Int):PC 138 [rowV l,iv x] (.bool (l.any λy=>decide (y=x))):=by
 obtain⟨n,h1,h2⟩:=c176 l hl x;refine Xd hP g138_ok rfl rfl ?_;unfold g138;rw[←h2];exact Yd h1 rfl g176_ok.plain rfl (Za (Yag ..) rfl)
theorem Xcq(s:St)(hs:StLe 1000000000 s)(a:Ac)(p:Int×Int)(sd:Int)(ok:Bool){y:AVal}{np:Nat}{mA mB:Bool}{σ:List ABlk}(h0:hget σ 0=.box [y,.rptr (stC s) 0,.rptr (acC a) 0])(hB:hget σ np=.box (prC p))(hA:Qn false false (.bool false) [.map 1,iv p.1] σ=.ok (.bool mA) [1] [])(hM:Qn false false (.bool false) [.map 2,iv p.2] σ=.ok (.bool mB) [2] []){K:List ABlk→AVal→Prop}
 (hK:K σ (.bool ((((!(s.attack.any λx=>decide (x=p.1)) || !ok)||decide (sd≠a.side))||mA)||mB))) :
  VV.pu (Ya 1 [.bptr 0 0] σ) λt33_29=>
  VV.dr (Xc false 1 [t33_29] σ) σ λt34_30 l31 σ=>
  VV.pu (Qa [t34_30] σ) λt35_32=>
  VV.pu (Ya 5 [t35_32] σ) λt36_33=>
  VV.dr (Xc false 1 [t36_33] σ) σ λt37_34 l35 σ=>
  VV.pu (Ya 0 [.bptr np 0] σ) λt38_36=>
  VV.dr (Xc false 1 [t38_36] σ) σ λt39_37 l38 σ=>
  VV.dcall (.call 138) [t37_34,t39_37] σ λt40_39 l40 σ=>
  VV.pu (Yn .not [t40_39] σ) λt41_41=>
  VV.gr t41_41 false (λk=>VV.pu (Zh [.bool ok] σ) k) λt43_42=>
  VV.gr t41_41 false (λk=>VV.pu (Yn .not [t43_42] σ) k) λt44_43=>
  VV.pu (Yi [t41_41,(.bool true),t44_43] σ) λt45_44=>
  VV.gr t45_44 false (λk=>VV.pu (Zh [iv sd] σ) k) λt47_45=>
  VV.gr t45_44 false (λk=>VV.pu (Ya 2 [.bptr 0 0] σ) k) λt48_46=>
  VV.gl t45_44 false (λk=>VV.dr (Xc false 1 [t48_46] σ) σ k) σ λt49_47 l48 σ=>
  VV.gr t45_44 false (λk=>VV.pu (Qa [t49_47] σ) k) λt50_49=>
  VV.gr t45_44 false (λk=>VV.pu (Ya 1 [t50_49] σ) k) λt51_50=>
  VV.gl t45_44 false (λk=>VV.dr (Xc false 1 [t51_50] σ) σ k) σ λt52_51 l52 σ=>
  VV.gr t45_44 false (λk=>VV.pu (Xh .neq false [t47_45,t52_51] σ) k) λt53_53=>
  VV.pu (Yi [t45_44,(.bool true),t53_53] σ) λt54_54=>
  VV.gr t54_54 false (λk=>VV.pu (Zh [.map 1] σ) k) λt56_55=>
  VV.gr t54_54 false (λk=>VV.pu (Ya 0 [.bptr np 0] σ) k) λt57_56=>
  VV.gl t54_54 false (λk=>VV.dr (Xc false 1 [t57_56] σ) σ k) σ λt58_57 l58 σ=>
  VV.gl t54_54 false (λk=>VV.dr (Qn false false (.bool false) [t56_55,t58_57] σ) σ k) σ λt59_59 l60 σ=>
  VV.pu (Yi [t54_54,(.bool true),t59_59] σ) λt60_61=>
  VV.gr t60_61 false (λk=>VV.pu (Zh [.map 2] σ) k) λt62_62=>
  VV.gr t60_61 false (λk=>VV.pu (Ya 1 [.bptr np 0] σ) k) λt63_63=>
  VV.gl t60_61 false (λk=>VV.dr (Xc false 1 [t63_63] σ) σ k) σ λt64_64 l65 σ=>
  VV.gl t60_61 false (λk=>VV.dr (Qn false false (.bool false) [t62_62,t64_64] σ) σ k) σ λt65_66 l67 σ=>
  VV.pu (Yi [t60_61,(.bool true),t65_66] σ) λt66_68=>
  VV.gd (Xg [[],[0],[0,1],[0,1,2],[0,1,2,3],[],[5],[0,1,2,3,4,5,6],[0,1,2,3,4,5,6,7],[0,1,2,3,4,5,6,7,8],[0,1,2,3,4,5,6,7,8,9],[0,1,2,3,4,5,6,7,8,9,10],[0,1,2,3,4,5,6,7,8,9,10,11],[0,1,2,3,4,5,6,7,8,9,10,11,12],[0,1,2,3,4,5,6,7,8,9,10,11,12,13],[0,1,2,3,4,5,6,7,8,9,10,11,12,13],[0,1,2,3,4,5,6,7,8,9,10,11,12,13,15],[0,1,2,3,4,5,6,7,8,9,10,11,12,13,15,16],[0,1,2,3,4,5,6,7,8,9,10,11,12,13,15,16,17],[0,1,2,3,4,5,6,7,8,9,10,11,12,13,15,16,17,18],[0,1,2,3,4,5,6,7,8,9,10,11,12,13,14,15,16,17,18,19],[0,1,2,3,4,5,6,7,8,9,10,11,12,13,14,15,16,17,18,19,20],[0,1,2,3,4,5,6,7,8,9,10,11,12,13,14,15,16,17,18,19,20,21],[0,1,2,3,4,5,6,7,8,9,10,11,12,13,14,15,16,17,18,19,20,21,22],[0,1,2,3,4,5,6,7,8,9,10,11,12,13,14,15,16,17,18,19,20,21,22],[0,1,2,3,4,5,6,7,8,9,10,11,12,13,14,15,16,17,18,19,20,21,22,24],[0,1,2,3,4,5,6,7,8,9,10,11,12,13,14,15,16,17,18,19,20,21,22,23,24,25],[0,1,2,3,4,5,6,7,8,9,10,11,12,13,14,15,16,17,18,19,20,21,22,23,24,25,26],[0,1,2,3,4,5,6,7,8,9,10,11,12,13,14,15,16,17,18,19,20,21,22,23,24,25,26,27],[0,1,2,3,4,5,6,7,8,9,10,11,12,13,14,15,16,17,18,19,20,21,22,23,24,25,26,27,28],[0,1,2,3,4,5,6,7,8,9,10,11,12,13,14,15,16,17,18,19,20,21,22,23,24,25,26,27,28],[0,1,2,3,4,5,6,7,8,9,10,11,12,13,14,15,16,17,18,19,20,21,22,23,24,25,26,27,28,30],[0,1,2,3,4,5,6,7,8,9,10,11,12,13,14,15,16,17,18,19,20,21,22,23,24,25,26,27,28,29,30,31],[0,1,2,3,4,5,6,7,8,9,10,11,12,13,14,15,16,17,18,19,20,21,22,23,24,25,26,27,28,29,30,31,32]] [([],[]),l31,([],[]),([],[]),l35,([],[]),l38,l40,([],[]),([],[]),([],[]),([],[]),([],[]),([],[]),([],[]),([],[]),l48,([],[]),([],[]),l52,([],[]),([],[]),([],[]),([],[]),([],[]),l58,l60,([],[]),([],[]),([],[]),([],[]),l65,l67,([],[])]) <| K σ t66_68:=by
 refine Xj rfl (Zp (ld h0 rfl) rfl (Xj rfl (Xj rfl (Zp (ldr (v:=rowV s.attack) rfl) rfl (Xj rfl (Zp (ld hB rfl) rfl ?_))))));refine Ql (c138 s.attack hs.attack p.1) rfl g138_ok.plain rfl (Xj rfl ?_);generalize (s.attack.any λx=>decide (x=p.1))=att at hK ⊢;cases att with
 |false=>
  repeat first|refine Zb rfl ?_|refine Zaf rfl ?_|refine Qc rfl ?_|refine Xj rfl ?_
  exact XK (by kernel_rfl) hK
 |true=>
 refine Xa (Xj rfl (Xa (Xj rfl (Xj rfl ?_))));cases ok with
 |false=>
  repeat first|refine Zb rfl ?_|refine Zaf rfl ?_|refine Qc rfl ?_|refine Xj rfl ?_
  exact XK (by kernel_rfl) hK
 |true=>
 refine Xa (Xj rfl (Xa (Xj rfl (ZM (Zp (ld h0 rfl) rfl ?_)))));refine Xa (Xj rfl (Xa (Xj rfl (ZM (Zp (ldr rfl) rfl (Xa (Xj (YH ..) (Xj rfl ?_))))))));generalize decide (sd≠a.side)=c at hK ⊢;cases c with
 |true=>
  repeat first|refine Zb rfl ?_|refine Zaf rfl ?_|refine Qc rfl ?_|refine Xj rfl ?_
  exact XK (by kernel_rfl) hK
 |false=>
 refine Xa (Xj rfl (Xa (Xj rfl (ZM (Zp (ld hB rfl) rfl (ZM (Zp hA rfl (Xj rfl ?_))))))));cases mA with
 |true=>
  repeat first|refine Zb rfl ?_|refine Zaf rfl ?_|refine Qc rfl ?_|refine Xj rfl ?_
  exact XK (by kernel_rfl) hK
 |false=>
 refine Xa (Xj rfl (Xa (Xj rfl (ZM (Zp (ld hB rfl) rfl (ZM (Zp hM rfl (Xj rfl (XK (by kernel_rfl) ?_)))))))));exact hK
theorem c160(b:Bk)(s:St)(hs:StLe 1000000000 s)(a:Ac)(hl:a.prs.length≤1000000000):PC 160 [.agg [.rptr (bkC b) 0,.rptr (stC s) 0,.rptr (acC a) 0]] (.bool (blkP s a)):=by
 refine Xd hP g160_ok rfl rfl ?_;unfold g160;refine Qg (v:=.bptr 0 0) (rd:=[]) (up:=[(0,.box [.rptr (bkC b) 0,.rptr (stC s) 0,.rptr (acC a) 0])]) rfl rfl ?_;refine Qg (v:=.map 1) (rd:=[]) (up:=[(1,.map (mpG AVal.bool (idM [])))]) rfl rfl ?_;refine Qg (v:=.map 2) (rd:=[]) (up:=[(2,.map (mpG AVal.bool (idM [])))]) rfl rfl ?_;have h0:hget ([]++[ABlk.box [.rptr (bkC b) 0,.rptr (stC s) 0,.rptr (acC a) 0]]++[ABlk.map (mpG AVal.bool (idM []))]++[ABlk.map (mpG AVal.bool (idM []))]) 0=.box [.rptr (bkC b) 0,.rptr (stC s) 0,.rptr (acC a) 0]:=rfl;have h1:hget ([]++[ABlk.box [.rptr (bkC b) 0,.rptr (stC s) 0,.rptr (acC a) 0]]++[ABlk.map (mpG AVal.bool (idM []))]++[ABlk.map (mpG AVal.bool (idM []))]) 1=.map (mpG AVal.bool (idM [])):=rfl;have h2:hget ([]++[ABlk.box [.rptr (bkC b) 0,.rptr (stC s) 0,.rptr (acC a) 0]]++[ABlk.map (mpG AVal.bool (idM []))]++[ABlk.map (mpG AVal.bool (idM []))]) 2=.map (mpG AVal.bool (idM [])):=rfl;refine Za rfl (Za (ld h0 rfl) (Za rfl (Za rfl (Za (ldr rfl) (Za (v:=iv a.prs.length) (rd:=[]) (by simp[Yg]) ?_)))));generalize ([]++[ABlk.box [.rptr (bkC b) 0,.rptr (stC s) 0,.rptr (acC a) 0]]++[ABlk.map (mpG AVal.bool (idM []))]++[ABlk.map (mpG AVal.bool (idM []))]:List ABlk)=base at h0 h1 h2 ⊢;refine Qj (ι:=Nat) (λi vs σ=>vs=[iv i]∧hget σ 0=.box [.rptr (bkC b) 0,.rptr (stC s) 0,.rptr (acC a) 0]∧hget σ 1=.map (mpG AVal.bool (idM ((a.prs.take i).map (·.1))))∧hget σ 2=.map (mpG AVal.bool (idM ((a.prs.take i).map (·.2))))∧i≤a.prs.length∧blkGo s a.side [] a.prs=blkGo s a.side (a.prs.take i) (a.prs.drop i)) (λi=>a.prs.length-i) 0 ⟨rfl,h0,h1,h2,by omega,by simp⟩ ?_;clear h0 h1 h2 base;rintro i vs σ again ⟨rfl,h0,h1,h2,hi,hu⟩ hag;refine Za (QB ..) ?_;refine Zc (λh=>?_) (λh=>?_);rotate_left
 ·have h:i=a.prs.length:=by simp at h; omega
  subst h;rw[List.drop_length] at hu;rw[List.take_length] at h1;have hP2:blkP s a=(decide (s.phase=1)&&decide ((a.prs.length:Int)>0)):=by rw[blkP,hu]; rfl
  rw[hP2];refine Za rfl (Za (ld h0 rfl) (Za rfl (Za rfl (Za (ldr rfl) (Za (Qe ..) ?_)))));refine Qcn (λ_=>rfl) (v2:=iv a.prs.length) (q2:=[1]) (λ_=>by simp[XaK,h1,mpG,idM]) (λ_=>ZG ..) ?_;rfl
 have h:i<a.prs.length:=by simp at h; omega
 have hix:=λ(τ:List ABlk)=>Zn τ prC false false 2 a.prs .i64 i h;have hdr:a.prs.drop i=a.prs[i]::a.prs.drop (i+1):=by rw[YLD h]
 have htk:a.prs.take (i+1)=a.prs.take i++[a.prs[i]]:=by rw[List.take_succ_eq_append_getElem h]
 rw[hdr,blkGo,←htk,←YbZ] at hu;have hPf:∀ {q},blkGo s a.side [] a.prs=q→q=false→(AVal.bool false=.bool (blkP s a)):=λe1 e2=>by rw[blkP,e1,e2]; rfl
 generalize hid:a.prs[i]=p at hix hu htk;have hlt:=Xn h2 (by simp);refine Za (hix _) (Za (v:=.agg (prC p)) (rd:=[]) (ldr rfl) ?_);refine Qs (row:=prC p) (row':=prC p) rfl rfl rfl ?_;have hB:=Zj σ (ABlk.box (prC p));have h0:hget (σ++[ABlk.box (prC p)]) 0=.box [.rptr (bkC b) 0,.rptr (stC s) 0,.rptr (acC a) 0]:=Xi _ h0 (by simp);have h1:=Xi [ABlk.box (prC p)] h1 (by simp);have h2:=Xi [ABlk.box (prC p)] h2 (by simp);generalize σ++[ABlk.box (prC p)]=τ at hB h0 h1 h2 ⊢;obtain⟨np,hnp⟩:∃np,σ.length=np+3:=⟨σ.length-3,by omega⟩;rw[hnp] at hB ⊢;clear hnp hlt;refine Xj rfl (Zp (ld h0 rfl) rfl (Xj rfl (Zp (ldr (v:=stV s) rfl) rfl (Xj rfl (Zp (ld hB rfl) rfl ?_)))));refine Ql (c71 s hs p.2) rfl g71_ok.plain rfl (Xj rfl (Xj rfl (Xj rfl (XK (by kernel_rfl) ?_))));have hA:=Xag AVal.bool (.bool false) false h1 p.1;have hM:=Xag AVal.bool (.bool false) false h2 p.2;rw[X5] at hA hM;refine Xcq s hs a p (unitR s p.2).1 (unitR s p.2).2.2 h0 hB (mA:=((a.prs.take i).map (·.1)).contains p.1) (mB:=((a.prs.take i).map (·.2)).contains p.2) (hA.trans (by cases ((a.prs.take i).map (·.1)).contains p.1<;>rfl)) (hM.trans (by cases ((a.prs.take i).map (·.2)).contains p.2<;>rfl)) ?_;have hne:decide ((unitR s p.2).1≠a.side) = !decide ((unitR s p.2).1=a.side):=by simp
 rw[hne];refine Zc (λhk=>hPf hu ?_) (λhk=>?_)
 ·revert hk
  cases (s.attack.any λx=>decide (x=p.1))<;>cases (unitR s p.2).2.2<;>cases decide ((unitR s p.2).1=a.side)<;>cases ((a.prs.take i).map (·.1)).contains p.1<;>cases ((a.prs.take i).map (·.2)).contains p.2<;>simp
 have hok:((s.attack.any λx=>decide (x=p.1))&&((unitR s p.2).2.2&&decide ((unitR s p.2).1=a.side)))=true∧((a.prs.take i).map (·.1)).contains p.1=false∧((a.prs.take i).map (·.2)).contains p.2=false:=by
  revert hk
  cases (s.attack.any λx=>decide (x=p.1))<;>cases (unitR s p.2).2.2<;>cases decide ((unitR s p.2).1=a.side)<;>cases ((a.prs.take i).map (·.1)).contains p.1<;>cases ((a.prs.take i).map (·.2)).contains p.2<;>simp
 rw[hok.1,hok.2.1,hok.2.2] at hu;have hup:=QaX AVal.bool h1 p.1 true (by rw[X5,hok.2.1]; rfl);have hl1:=Xn h1 (by simp);have hl2:=Xn h2 (by simp);have h2':=Yo (c:=1) (x:=.map (mpG AVal.bool (idM ((a.prs.take i).map (·.1))++[(p.1,true)]))) h2 (by simp) (by decide);have hup2:=QaX AVal.bool h2' p.2 true (by rw[X5,hok.2.2]; rfl);refine Xj rfl (Zp (ld hB rfl) rfl (Xj rfl (Zp (ld hB rfl) rfl (Zp hup (Zt _ hl1) (Zp hup2 (Zt _ (by simp; omega)) (XK (by kernel_rfl) (Za (Zl ..) ?_)))))));rw[Qf (n:=i) (by omega)];refine hag (i+1) _ _ (by omega) ⟨rfl,Yo (Yo h0 (by simp) (by decide)) (by simp) (by decide),?_,?_,by omega,by rw[hu]; rfl⟩
 ·rw[Yo (Xr _ hl1) (by simp) (by decide),htk];simp[idM]
 ·rw[Xr _ (by simp; omega),htk];simp[idM]
end Go.Ah.Tz
end
section
namespace Go.Ah.Tz
open Go.Proofs.Tryz (prog)
theorem Qaz:∀ {l m:List Int},l.Nodup→(∀x∈l,x∈m)→l.length≤m.length
 |[],m,_,_=>by simp
 |x::l,m,h,hs=>by
  rw[List.nodup_cons] at h;have hx:x∈m:=hs x (by simp);have:=Qaz (l:=l) (m:=m.erase x) h.2 (λy hy=>by
   have hne:y≠x:=λe=>h.1 (e ▸ hy);exact(List.mem_erase_of_ne hne).2 (hs y (by simp[hy])))
  rw[List.length_erase_of_mem hx] at this;have:=List.length_pos_of_mem hx;simp only[List.length_cons]; omega
theorem ZaU{s:St}{side id:Int}(h:(unitR s id).2.2=true)(h2:(unitR s id).1=side):id∈(if side=0 then s.s0.units else s.s1.units).map Th.id:=by
 unfold unitR at h h2;cases q0:fnd s.s0.units id with
 |some k=>
  rw[q0] at h2;obtain⟨u,hk,e⟩:=Qbm q0;have h2:(0:Int)=side:=h2;rw[if_pos h2.symm];exact List.mem_map.2 ⟨u,List.mem_of_getElem? hk,e⟩
 |none=>
  rw[q0] at h h2;cases q1:fnd s.s1.units id with
  |some k=>
   rw[q1] at h2;obtain⟨u,hk,e⟩:=Qbm q1;have h2:(1:Int)=side:=h2;rw[if_neg (by omega)];exact List.mem_map.2 ⟨u,List.mem_of_getElem? hk,e⟩
  |none=>rw[q1] at h; cases h
theorem YaV{s:St}{side:Int}:∀ {l prev:List Int},attGo s side prev l=true→(∀x∈l,okU s side x=true)∧l.Nodup∧∀x∈l,x∉prev
 |[],prev,_=>by simp
 |x::l,prev,h=>by
  simp only[attGo,Bool.and_eq_true,Bool.not_eq_true'] at h;obtain⟨h1,h2,h3⟩:=h;obtain⟨k1,k2,k3⟩:=YaV h3;have hx:x∉prev:=by simpa using h2
  refine⟨λy hy=>?_,?_,λy hy=>?_⟩
  ·rcases List.mem_cons.1 hy with rfl|hy
   ·exact h1
   ·exact k1 y hy
  ·rw[List.nodup_cons];exact⟨λhm=>k3 x hm (by simp),k2⟩
  ·rcases List.mem_cons.1 hy with rfl|hy
   ·exact hx
   ·exact λhm=>k3 y hy (by simp[hm])
theorem XbJ{b:Bk}{s:St}(hM:MayP b s){side:Int}{l:List Int}(h:attGo s side [] l=true):l.length≤7:=by
 obtain⟨h1,h2,_⟩:=YaV h;have hin:∀x∈l,x∈(if side=0 then s.s0.units else s.s1.units).map Th.id:=λx hx=>by
  have:=h1 x hx;simp only[okU,Bool.and_eq_true,decide_eq_true_eq] at this;exact ZaU this.1 this.2.1
 have:=Qaz h2 hin;rw[List.length_map] at this;have u0:=hM.s0.units;have u1:=hM.s1.units;split at this<;>omega
theorem XaV{s:St}{side:Int}:∀ {l prev:List (Int×Int)},blkGo s side prev l=true→(∀p∈l,p.1∈s.attack)∧(l.map (·.1)).Nodup∧∀p∈l,∀q∈prev,q.1≠p.1
 |[],prev,_=>by simp
 |p::l,prev,h=>by
  simp only[blkGo,Bool.and_eq_true,Bool.not_eq_true'] at h;obtain⟨⟨h1,_⟩,h2,h3⟩:=h;obtain⟨k1,k2,k3⟩:=XaV h3;have hp:p.1∈s.attack:=by
   obtain⟨y,hy,e⟩:=List.any_eq_true.1 h1;have e:y=p.1:=by simpa using e
   rw[←e]; exact hy
  have hx:∀q∈prev,q.1≠p.1:=λq hq e=>by
   have:(prev.any λq=>decide (q.1=p.1)||decide (q.2=p.2))=true:=List.any_eq_true.2 ⟨q,hq,by simp[e]⟩;rw[this] at h2; cases h2
  refine⟨λy hy=>?_,?_,λy hy=>?_⟩
  ·rcases List.mem_cons.1 hy with rfl|hy
   ·exact hp
   ·exact k1 y hy
  ·rw[List.map_cons,List.nodup_cons];refine⟨λhm=>?_,k2⟩;obtain⟨y,hy,e⟩:=List.mem_map.1 hm;exact k3 y hy p (by simp) e.symm
  ·rcases List.mem_cons.1 hy with rfl|hy
   ·exact hx
   ·exact λq hq=>k3 y hy q (by simp[hq])
theorem XbK{b:Bk}{s:St}(hM:MayP b s){side:Int}{l:List (Int×Int)}(h:blkGo s side [] l=true):l.length≤7:=by
 obtain⟨h1,h2,_⟩:=XaV h;have:=Qaz h2 (m:=s.attack) (λx hx=>by
  obtain⟨p,hp,rfl⟩:=List.mem_map.1 hx;exact h1 p hp)
 rw[List.length_map] at this;by_cases hp:s.phase=1
 ·have:=(hM.at_.2 hp).2.1; omega
 ·rw[hM.at_.1 hp,List.length_nil] at this; omega
theorem QcA{b:Bk}{s:St}(hM:MayP b s)(a:Ac):attP s a=(decide (s.phase=0)&&attR s a):=by
 unfold attP attR;cases h:attGo s a.side [] a.ids with
 |false=>simp
 |true=>
  have hl:=XbJ hM h;rw[decide_eq_false (show ¬(a.ids.length:Int)>7 by omega)];by_cases h0:(a.ids.length:Int)=0
  ·rw[decide_eq_true h0,decide_eq_false (show ¬(a.ids.length:Int)>0 by omega)]; simp
  ·rw[decide_eq_false h0,decide_eq_true (show (a.ids.length:Int)>0 by omega)]; simp
theorem ZcB{b:Bk}{s:St}(hM:MayP b s)(a:Ac):blkP s a=(decide (s.phase=1)&&blkR s a):=by
 unfold blkP blkR;cases h:blkGo s a.side [] a.prs with
 |false=>simp
 |true=>
  have hl:=XbK hM h;rw[decide_eq_false (show ¬(a.prs.length:Int)>7 by omega)];by_cases h0:(a.prs.length:Int)=0
  ·rw[decide_eq_true h0,decide_eq_false (show ¬(a.prs.length:Int)>0 by omega)]; simp
  ·rw[decide_eq_false h0,decide_eq_true (show (a.prs.length:Int)>0 by omega)]; simp
attribute [local irreducible] Ans.rd Ans.pu Ans.wr Ans.dr Ans.gr Ans.gw Ans.gl Ans.gd Ans.opt joinK W
set_option maxHeartbeats 8000000
theorem c161(x y z:List AVal):PC 161 [.agg [.rptr x 0,.rptr y 0,.rptr z 0]] (.bool true):=by
 refine Xd hP g161_ok rfl rfl ?_;unfold g161;exact Qg (v:=.bptr 0 0) (rd:=[]) (up:=[(0,.box [.rptr x 0,.rptr y 0,.rptr z 0])]) rfl rfl rfl
theorem c162(x y z:List AVal):PC 162 [.agg [.rptr x 0,.rptr y 0,.rptr z 0]] (.bool true):=by
 refine Xd hP g162_ok rfl rfl ?_;unfold g162;exact Qg (v:=.bptr 0 0) (rd:=[]) (up:=[(0,.box [.rptr x 0,.rptr y 0,.rptr z 0])]) rfl rfl rfl
theorem Yck(b:Bk)(s:St)(a:Ac)(w:Bool)(hw:(a.op=0∧PC 158 [.agg [.rptr (bkC b) 0,.rptr (stC s) 0,.rptr (acC a) 0]] (.bool w))∨(a.op=1∧PC 159 [.agg [.rptr (bkC b) 0,.rptr (stC s) 0,.rptr (acC a) 0]] (.bool w))∨(a.op=2∧PC 160 [.agg [.rptr (bkC b) 0,.rptr (stC s) 0,.rptr (acC a) 0]] (.bool w))∨(a.op=3∧PC 161 [.agg [.rptr (bkC b) 0,.rptr (stC s) 0,.rptr (acC a) 0]] (.bool w))∨(a.op=4∧PC 162 [.agg [.rptr (bkC b) 0,.rptr (stC s) 0,.rptr (acC a) 0]] (.bool w))){K:List AVal→List ABlk→Prop}(hK:K [.bool (!w)] []) :
  VV.dcall (.call 127) [] [] λt48_40 l41 σ=>
  VV.pu (Qa [.rptr (acC a) 0] σ) λt50_42=>
  VV.pu (Ya 0 [t50_42] σ) λt51_43=>
  VV.dr (Xc false 1 [t51_43] σ) σ λt52_44 l45 σ=>
  VV.pu (QZ false 5 1 [t48_40,t52_44] σ) λt53_46=>
  VV.pu (Zf [.nilp,.nilp,.nilp] [(0,1),(1,1),(2,1)] [.rptr (bkC b) 0,.rptr (stC s) 0,.rptr (acC a) 0] σ) λt57_47=>
  VV.dcall .callv [t53_46,t57_47] σ λt58_48 l49 σ=>
  VV.pu (Yn .not [t58_48] σ) λt59_50=>
  VV.gd (Xg [[],[],[1],[1,2],[1,2,3],[0,1,2,3,4],[],[],[],[6,7,8],[0,1,2,3,4,5,6,7,8,9],[0,1,2,3,4,5,6,7,8,9,10],[0,1,2,3,4,5,6,7,8,9,10,11]] [l41,([],[]),([],[]),([],[]),l45,([],[]),([],[]),([],[]),([],[]),([],[]),l49,([],[]),([],[])]) <| K [t59_50] σ:=by
 refine Ql c127 rfl g127_ok.plain rfl (Xj rfl (Xj rfl ?_));rcases hw with ⟨e,h⟩|⟨e,h⟩|⟨e,h⟩|⟨e,h⟩|⟨e,h⟩
 ·refine Zp (v:=iv8 0) (rd:=[]) (by rw[←e]; exact ldr rfl) rfl (Xj rfl (Xj rfl ?_));exact Ql h rfl g158_ok.plain rfl (Xj rfl (XK (by rfl) hK))
 ·refine Zp (v:=iv8 1) (rd:=[]) (by rw[←e]; exact ldr rfl) rfl (Xj rfl (Xj rfl ?_));exact Ql h rfl g159_ok.plain rfl (Xj rfl (XK (by rfl) hK))
 ·refine Zp (v:=iv8 2) (rd:=[]) (by rw[←e]; exact ldr rfl) rfl (Xj rfl (Xj rfl ?_));exact Ql h rfl g160_ok.plain rfl (Xj rfl (XK (by rfl) hK))
 ·refine Zp (v:=iv8 3) (rd:=[]) (by rw[←e]; exact ldr rfl) rfl (Xj rfl (Xj rfl ?_));exact Ql h rfl g161_ok.plain rfl (Xj rfl (XK (by rfl) hK))
 ·refine Zp (v:=iv8 4) (rd:=[]) (by rw[←e]; exact ldr rfl) rfl (Xj rfl (Xj rfl ?_));exact Ql h rfl g162_ok.plain rfl (Xj rfl (XK (by rfl) hK))
theorem c83g(b:Bk)(hf:bkFit b=true)(hsm:QC b.cards)(s:St)(hs:StLe 1000000000 s)(hM:MayP b s)(a:Ac)(hl:a.ids.length≤1000000000)(hl2:a.prs.length≤1000000000):PC 83 [.rptr (bkC b) 0,.rptr (stC s) 0,.rptr (acC a) 0] (iv (doF b s a)):=by
 have hmv:s.mover=0∨s.mover=1:=by have:=hM.hd; unfold HdP at this; omega
 have hcs:∀ {l:List Int} {m:Int},Xo b.cards.length l m=true→∀c∈l,0≤c∧c.toNat<b.cards.length:=λh c hc=>by have:=(XV.1 h).2 c hc; omega
 refine Xd hP g83_ok rfl rfl ?_;unfold g83;refine Za rfl (Za rfl (Za (ldr rfl) (Za (QB ..) ?_)));refine Qk λk4 hk4=>?_;have bad:badF a=true→k4 [.bool true] []:=λh=>by
  rw[hk4];exact Ze (congrArg iv (by rw[doF,if_pos h]))
 have good:badF a=false→k4 [.bool false] []:=λhb=>by
  rw[hk4];have hd:doF b s a=if a.op=4 then 0 else if a.side=whoF s∧wayF b s a=true then 0 else 210:=by rw[doF,if_neg (by rw[hb]; simp)]
  rw[hd];have hsd:(a.side=0∨a.side=1)∧0≤a.op∧a.op≤4:=by
   simp only[badF,Bool.or_eq_false_iff,decide_eq_false_iff_not] at hb; omega
  obtain⟨hsd,hop⟩:=hsd;have hw:(a.op=0∧PC 158 [.agg [.rptr (bkC b) 0,.rptr (stC s) 0,.rptr (acC a) 0]] (.bool (wayF b s a)))∨(a.op=1∧PC 159 [.agg [.rptr (bkC b) 0,.rptr (stC s) 0,.rptr (acC a) 0]] (.bool (wayF b s a)))∨(a.op=2∧PC 160 [.agg [.rptr (bkC b) 0,.rptr (stC s) 0,.rptr (acC a) 0]] (.bool (wayF b s a)))∨(a.op=3∧PC 161 [.agg [.rptr (bkC b) 0,.rptr (stC s) 0,.rptr (acC a) 0]] (.bool (wayF b s a)))∨(a.op=4∧PC 162 [.agg [.rptr (bkC b) 0,.rptr (stC s) 0,.rptr (acC a) 0]] (.bool (wayF b s a))):=by
   rcases (show a.op=0∨a.op=1∨a.op=2∨a.op=3∨a.op=4 by omega) with e|e|e|e|e
   ·refine .inl ⟨e,?_⟩;rw[wayF,if_pos e,←Xcv];rcases hsd with e2|e2
    ·rw[if_pos e2];exact c158 b hf hsm s hs a.side 7 s.s0 (sdAt0 s) (λ_=>by rw[e2]; rfl) (hcs hM.s0.hand) a.place a.target
    ·rw[if_neg (by omega)];exact c158 b hf hsm s hs a.side 15 s.s1 (sdAt1 s) (λ_=>by rw[e2]; rfl) (hcs hM.s1.hand) a.place a.target
   ·refine .inr (.inl ⟨e,?_⟩);rw[wayF,if_neg (by omega),if_pos e,←QcA hM];exact c159 b s hs a hl
   ·refine .inr (.inr (.inl ⟨e,?_⟩));rw[wayF,if_neg (by omega),if_neg (by omega),if_pos e,←ZcB hM];exact c160 b s hs a hl2
   ·refine .inr (.inr (.inr (.inl ⟨e,?_⟩)));rw[wayF,if_neg (by omega),if_neg (by omega),if_neg (by omega)];exact c161 _ _ _
   ·refine .inr (.inr (.inr (.inr ⟨e,?_⟩)));rw[wayF,if_neg (by omega),if_neg (by omega),if_neg (by omega)];exact c162 _ _ _
  clear hk4 bad hcs;refine Qh (Xj rfl (Xj rfl (Zp (ldr rfl) rfl (Xj (YH ..) ?_))));by_cases h4:a.op=4
  ·rw[if_pos h4,show decide (a.op≠4)=false by simp[h4]];repeat first|refine Zb rfl ?_|refine Qc rfl ?_|refine Yc rfl ?_|refine Zd rfl ?_|refine Zaf rfl ?_
   refine Xj rfl (XK (by rfl) ?_);refine Qk λk38 hk38=>Qh (Yck b s a _ hw ?_);rw[hk38,wayF,if_neg (by omega),if_neg (by omega),if_neg (by omega)];exact Qh rfl
  rw[if_neg h4,show decide (a.op≠4)=true by simp[h4]];refine Xa (Xj rfl (Xa (Xj rfl (Xa (Xj rfl (ZM (Zp (ldr rfl) rfl ?_)))))));refine Xa (Xj rfl (Xa (Xj rfl (ZM (Zp (v:=stV s) (rd:=[]) rfl rfl (ZM (Ql (c37 s hmv) rfl g37_ok.plain rfl ?_)))))));refine Xa (Xj (YH ..) (Xj rfl (XK (by rfl) ?_)));refine Qk λk38 hk38=>?_;refine Zc (λh=>?_) (λh=>?_)
  ·rw[hk38];have h:¬a.side=whoF s:=by simpa using h
   rw[show decide (a.side≠whoF s)=true by simpa using h];exact Ze (congrArg iv (by rw[if_neg (λk=>h k.1)]))
  have h:a.side=whoF s:=by simpa using h
  refine Yck b s a _ hw ?_;rw[hk38];generalize wayF b s a=q;cases q with
  |true=>exact Qh (congrArg iv (by rw[if_pos ⟨h,rfl⟩]))
  |false=>exact Ze (congrArg iv (by rw[if_neg (λk=>by cases k.2)]))
 clear hk4;have hB:badF a=((((decide (a.side<0)||decide (a.side>1))||decide (a.op<0))||decide (a.op>4)) || !bareF a):=rfl;generalize decide (a.side<0)=c1 at hB ⊢;cases c1 with
 |true=>exact Ze (bad (by rw[hB]; rfl))
 |false=>
 refine Qh (Za rfl (Za rfl (Za (ldr rfl) (Za (ZG ..) ?_))));generalize decide (a.side>1)=c2 at hB ⊢;cases c2 with
 |true=>exact Ze (bad (by rw[hB]; rfl))
 |false=>
 refine Qh (Za rfl (Za rfl (Za (ldr rfl) (Za (QB ..) ?_))));generalize decide (a.op<0)=c3 at hB ⊢;cases c3 with
 |true=>exact Ze (bad (by rw[hB]; rfl))
 |false=>
 refine Qh (Za rfl (Za rfl (Za (ldr rfl) (Za (ZG ..) ?_))));generalize decide (a.op>4)=c4 at hB ⊢;cases c4 with
 |true=>exact Ze (bad (by rw[hB]; rfl))
 |false=>
 refine Qh (Yd (c126g a) rfl g126_ok.plain rfl (Za rfl ?_));generalize bareF a=c5 at hB ⊢;cases c5 with
 |true=>exact good (by rw[hB]; rfl)
 |false=>exact bad (by rw[hB]; rfl)
theorem c35g(b:Bk)(hf:bkFit b=true)(hsm:QC b.cards)(s:St)(hs:StLe 1000000000 s)(a:Ac)(hl:a.ids.length≤1000000000)(hl2:a.prs.length≤1000000000):PC 35 [bkV b,stV s,.agg (acC a)] (iv (if mayR (bkR b).1 b s false=true then (if s.phase=2 then 211 else doF b s a) else 170)):=by
 refine Xd hP g35_ok rfl rfl ?_;unfold g35;refine Qg (v:=.bptr 0 0) (rd:=[]) (up:=[(0,.box (bkC b))]) rfl rfl ?_;refine Qg (v:=.bptr 1 0) (rd:=[]) (up:=[(1,.box (stC s))]) rfl rfl ?_;refine Qg (v:=.bptr 2 0) (rd:=[]) (up:=[(2,.box (acC a))]) rfl rfl ?_;refine Za rfl (Za rfl (Yd (c55 b hf hsm s hs) rfl g55_ok.plain rfl ?_));rcases YBE (mayR (bkR b).1 b s false) with hm|hm
 rotate_left
 ·rw[hm,if_neg (by simp)];exact Za rfl (Ze rfl)
 have hM:=(ZaR.1 (Xas hm)).2;rw[hm,if_pos rfl];refine Za rfl (Qh (Za rfl (Za rfl (Za (Qe ..) ?_))));refine Zc (λh=>?_) (λh=>?_)
 ·exact congrArg iv (by rw[if_pos (by simpa using h)])
 rw[if_neg (show ¬s.phase=2 by simpa using h)];exact YaM (rd:=[0,1,2]) (c83g b hf hsm s hs hM a hl hl2) rfl g83_ok.plain (.cons (Bor.box (row:=bkC b) rfl (by simp) (BorL.ro rfl)) <| .cons (Bor.box (row:=stC s) rfl (by simp) (BorL.ro rfl)) <| .cons (Bor.box (row:=acC a) rfl (by simp) (BorL.ro rfl)) .nil) rfl rfl
end Go.Ah.Tz
end
section
namespace Go.Ah.Tz
open Go.Proofs.Tryz (prog)
set_option maxRecDepth 100000
def tb34:GT:=(.node 191 1 g191 (.node 149 1 g149 (.node 118 2 g118 (.node 77 2 g77 (.node 55 2 g55 (.node 37 1 g37 (.node 35 3 g35 (.node 34 0 g34 .leaf .leaf) .leaf) (.node 39 3 g39 .leaf .leaf)) (.node 71 2 g71 (.node 67 1 g67 (.node 57 1 g57 .leaf .leaf) .leaf) (.node 76 1 g76 .leaf .leaf))) (.node 110 1 g110 (.node 88 5 g88 (.node 83 3 g83 (.node 78 1 g78 .leaf .leaf) .leaf) (.node 89 1 g89 .leaf .leaf)) (.node 114 1 g114 (.node 113 1 g113 (.node 111 3 g111 .leaf .leaf) .leaf) (.node 115 2 g115 .leaf .leaf)))) (.node 130 1 g130 (.node 124 1 g124 (.node 121 1 g121 (.node 120 2 g120 (.node 119 2 g119 .leaf .leaf) .leaf) (.node 122 1 g122 .leaf .leaf)) (.node 128 4 g128 (.node 127 0 g127 (.node 126 1 g126 .leaf .leaf) .leaf) (.node 129 1 g129 .leaf .leaf))) (.node 145 2 g145 (.node 143 1 g143 (.node 142 1 g142 (.node 138 2 g138 .leaf .leaf) .leaf) (.node 144 4 g144 .leaf .leaf)) (.node 147 1 g147 (.node 146 2 g146 .leaf .leaf) (.node 148 2 g148 .leaf .leaf))))) (.node 169 2 g169 (.node 159 1 g159 (.node 154 2 g154 (.node 152 2 g152 (.node 151 2 g151 (.node 150 1 g150 .leaf .leaf) .leaf) (.node 153 2 g153 .leaf .leaf)) (.node 157 3 g157 (.node 156 2 g156 (.node 155 2 g155 .leaf .leaf) .leaf) (.node 158 1 g158 .leaf .leaf))) (.node 164 3 g164 (.node 162 1 g162 (.node 161 1 g161 (.node 160 1 g160 .leaf .leaf) .leaf) (.node 163 3 g163 .leaf .leaf)) (.node 167 3 g167 (.node 166 3 g166 (.node 165 3 g165 .leaf .leaf) .leaf) (.node 168 3 g168 .leaf .leaf)))) (.node 182 1 g182 (.node 176 2 g176 (.node 172 1 g172 (.node 171 4 g171 (.node 170 4 g170 .leaf .leaf) .leaf) (.node 173 1 g173 .leaf .leaf)) (.node 180 1 g180 (.node 179 1 g179 (.node 178 1 g178 .leaf .leaf) .leaf) (.node 181 1 g181 .leaf .leaf))) (.node 187 1 g187 (.node 185 2 g185 (.node 184 1 g184 (.node 183 1 g183 .leaf .leaf) .leaf) (.node 186 2 g186 .leaf .leaf)) (.node 189 2 g189 (.node 188 3 g188 .leaf .leaf) (.node 190 2 g190 .leaf .leaf)))))) (.node 230 1 g230 (.node 211 2 g211 (.node 201 2 g201 (.node 196 2 g196 (.node 194 1 g194 (.node 193 2 g193 (.node 192 1 g192 .leaf .leaf) .leaf) (.node 195 2 g195 .leaf .leaf)) (.node 199 0 g199 (.node 198 1 g198 (.node 197 1 g197 .leaf .leaf) .leaf) (.node 200 1 g200 .leaf .leaf))) (.node 206 1 g206 (.node 204 3 g204 (.node 203 2 g203 (.node 202 1 g202 .leaf .leaf) .leaf) (.node 205 1 g205 .leaf .leaf)) (.node 209 1 g209 (.node 208 2 g208 (.node 207 1 g207 .leaf .leaf) .leaf) (.node 210 1 g210 .leaf .leaf)))) (.node 221 2 g221 (.node 216 1 g216 (.node 214 1 g214 (.node 213 2 g213 (.node 212 1 g212 .leaf .leaf) .leaf) (.node 215 4 g215 .leaf .leaf)) (.node 219 5 g219 (.node 218 3 g218 (.node 217 1 g217 .leaf .leaf) .leaf) (.node 220 1 g220 .leaf .leaf))) (.node 226 2 g226 (.node 224 2 g224 (.node 223 1 g223 (.node 222 2 g222 .leaf .leaf) .leaf) (.node 225 1 g225 .leaf .leaf)) (.node 228 3 g228 (.node 227 1 g227 .leaf .leaf) (.node 229 0 g229 .leaf .leaf))))) (.node 249 1 g249 (.node 240 3 g240 (.node 235 2 g235 (.node 233 2 g233 (.node 232 1 g232 (.node 231 1 g231 .leaf .leaf) .leaf) (.node 234 4 g234 .leaf .leaf)) (.node 238 2 g238 (.node 237 2 g237 (.node 236 2 g236 .leaf .leaf) .leaf) (.node 239 2 g239 .leaf .leaf))) (.node 245 2 g245 (.node 243 2 g243 (.node 242 1 g242 (.node 241 1 g241 .leaf .leaf) .leaf) (.node 244 2 g244 .leaf .leaf)) (.node 247 1 g247 (.node 246 1 g246 .leaf .leaf) (.node 248 1 g248 .leaf .leaf)))) (.node 259 2 g259 (.node 254 1 g254 (.node 252 1 g252 (.node 251 1 g251 (.node 250 2 g250 .leaf .leaf) .leaf) (.node 253 2 g253 .leaf .leaf)) (.node 257 1 g257 (.node 256 1 g256 (.node 255 2 g255 .leaf .leaf) .leaf) (.node 258 0 g258 .leaf .leaf))) (.node 264 1 g264 (.node 262 1 g262 (.node 261 3 g261 (.node 260 1 g260 .leaf .leaf) .leaf) (.node 263 0 g263 .leaf .leaf)) (.node 266 1 g266 (.node 265 1 g265 .leaf .leaf) (.node 269 1 g269 .leaf .leaf)))))))
theorem Ycy:tb34.Ok prog GL0:=⟨g191_ok,⟨g149_ok,⟨g118_ok,⟨g77_ok,⟨g55_ok,⟨g37_ok,⟨g35_ok,⟨g34_ok,trivial,trivial⟩,trivial⟩,⟨g39_ok,trivial,trivial⟩⟩,⟨g71_ok,⟨g67_ok,⟨g57_ok,trivial,trivial⟩,trivial⟩,⟨g76_ok,trivial,trivial⟩⟩⟩,⟨g110_ok,⟨g88_ok,⟨g83_ok,⟨g78_ok,trivial,trivial⟩,trivial⟩,⟨g89_ok,trivial,trivial⟩⟩,⟨g114_ok,⟨g113_ok,⟨g111_ok,trivial,trivial⟩,trivial⟩,⟨g115_ok,trivial,trivial⟩⟩⟩⟩,⟨g130_ok,⟨g124_ok,⟨g121_ok,⟨g120_ok,⟨g119_ok,trivial,trivial⟩,trivial⟩,⟨g122_ok,trivial,trivial⟩⟩,⟨g128_ok,⟨g127_ok,⟨g126_ok,trivial,trivial⟩,trivial⟩,⟨g129_ok,trivial,trivial⟩⟩⟩,⟨g145_ok,⟨g143_ok,⟨g142_ok,⟨g138_ok,trivial,trivial⟩,trivial⟩,⟨g144_ok,trivial,trivial⟩⟩,⟨g147_ok,⟨g146_ok,trivial,trivial⟩,⟨g148_ok,trivial,trivial⟩⟩⟩⟩⟩,⟨g169_ok,⟨g159_ok,⟨g154_ok,⟨g152_ok,⟨g151_ok,⟨g150_ok,trivial,trivial⟩,trivial⟩,⟨g153_ok,trivial,trivial⟩⟩,⟨g157_ok,⟨g156_ok,⟨g155_ok,trivial,trivial⟩,trivial⟩,⟨g158_ok,trivial,trivial⟩⟩⟩,⟨g164_ok,⟨g162_ok,⟨g161_ok,⟨g160_ok,trivial,trivial⟩,trivial⟩,⟨g163_ok,trivial,trivial⟩⟩,⟨g167_ok,⟨g166_ok,⟨g165_ok,trivial,trivial⟩,trivial⟩,⟨g168_ok,trivial,trivial⟩⟩⟩⟩,⟨g182_ok,⟨g176_ok,⟨g172_ok,⟨g171_ok,⟨g170_ok,trivial,trivial⟩,trivial⟩,⟨g173_ok,trivial,trivial⟩⟩,⟨g180_ok,⟨g179_ok,⟨g178_ok,trivial,trivial⟩,trivial⟩,⟨g181_ok,trivial,trivial⟩⟩⟩,⟨g187_ok,⟨g185_ok,⟨g184_ok,⟨g183_ok,trivial,trivial⟩,trivial⟩,⟨g186_ok,trivial,trivial⟩⟩,⟨g189_ok,⟨g188_ok,trivial,trivial⟩,⟨g190_ok,trivial,trivial⟩⟩⟩⟩⟩⟩,⟨g230_ok,⟨g211_ok,⟨g201_ok,⟨g196_ok,⟨g194_ok,⟨g193_ok,⟨g192_ok,trivial,trivial⟩,trivial⟩,⟨g195_ok,trivial,trivial⟩⟩,⟨g199_ok,⟨g198_ok,⟨g197_ok,trivial,trivial⟩,trivial⟩,⟨g200_ok,trivial,trivial⟩⟩⟩,⟨g206_ok,⟨g204_ok,⟨g203_ok,⟨g202_ok,trivial,trivial⟩,trivial⟩,⟨g205_ok,trivial,trivial⟩⟩,⟨g209_ok,⟨g208_ok,⟨g207_ok,trivial,trivial⟩,trivial⟩,⟨g210_ok,trivial,trivial⟩⟩⟩⟩,⟨g221_ok,⟨g216_ok,⟨g214_ok,⟨g213_ok,⟨g212_ok,trivial,trivial⟩,trivial⟩,⟨g215_ok,trivial,trivial⟩⟩,⟨g219_ok,⟨g218_ok,⟨g217_ok,trivial,trivial⟩,trivial⟩,⟨g220_ok,trivial,trivial⟩⟩⟩,⟨g226_ok,⟨g224_ok,⟨g223_ok,⟨g222_ok,trivial,trivial⟩,trivial⟩,⟨g225_ok,trivial,trivial⟩⟩,⟨g228_ok,⟨g227_ok,trivial,trivial⟩,⟨g229_ok,trivial,trivial⟩⟩⟩⟩⟩,⟨g249_ok,⟨g240_ok,⟨g235_ok,⟨g233_ok,⟨g232_ok,⟨g231_ok,trivial,trivial⟩,trivial⟩,⟨g234_ok,trivial,trivial⟩⟩,⟨g238_ok,⟨g237_ok,⟨g236_ok,trivial,trivial⟩,trivial⟩,⟨g239_ok,trivial,trivial⟩⟩⟩,⟨g245_ok,⟨g243_ok,⟨g242_ok,⟨g241_ok,trivial,trivial⟩,trivial⟩,⟨g244_ok,trivial,trivial⟩⟩,⟨g247_ok,⟨g246_ok,trivial,trivial⟩,⟨g248_ok,trivial,trivial⟩⟩⟩⟩,⟨g259_ok,⟨g254_ok,⟨g252_ok,⟨g251_ok,⟨g250_ok,trivial,trivial⟩,trivial⟩,⟨g253_ok,trivial,trivial⟩⟩,⟨g257_ok,⟨g256_ok,⟨g255_ok,trivial,trivial⟩,trivial⟩,⟨g258_ok,trivial,trivial⟩⟩⟩,⟨g264_ok,⟨g262_ok,⟨g261_ok,⟨g260_ok,trivial,trivial⟩,trivial⟩,⟨g263_ok,trivial,trivial⟩⟩,⟨g266_ok,⟨g265_ok,trivial,trivial⟩,⟨g269_ok,trivial,trivial⟩⟩⟩⟩⟩⟩⟩
end Go.Ah.Tz
end
section
namespace Go.Ah.Tz
open Go.Proofs.Tryz (prog)
set_option maxRecDepth 1000000
theorem hT34:∀f np g,tb34.get f=some (np,g)→GQ f np g:=GT.get_ok Ycy
def bV34:AVal:=(.agg [(.rsl false false 12 [[(.str [73,109,112]),(.bool true),(.int .i64 1),(.int .i64 2),(.int .i64 2),(.int .i64 0),(.int .i64 0),(.int .i64 0),.nils,.nils,.nils,(.int .i64 0)],[(.str [66,105,103]),(.bool true),(.int .i64 9),(.int .i64 9),(.int .i64 9),(.int .i64 0),(.int .i64 0),(.int .i64 0),.nils,.nils,.nils,(.int .i64 24)]]),.nils])
theorem p78:PC 78 [(.str [99,97,114,100,32,73,109,112,32,117,110,105,116,32,49,32,50,47,50,32,123,32,125,32,99,97,114,100,32,66,105,103,32,117,110,105,116,32,57,32,57,47,57,32,123,32,125])] (.tup [bV34,.agg [.int .i64 0,.int .i64 0]]):=Qbj hP hT34 (much:=1000000000) 60 (by kernel_rfl)
def kn34:Known:=[(78,[(.str [99,97,114,100,32,73,109,112,32,117,110,105,116,32,49,32,50,47,50,32,123,32,125,32,99,97,114,100,32,66,105,103,32,117,110,105,116,32,57,32,57,47,57,32,123,32,125])],.tup [bV34,.agg [.int .i64 0,.int .i64 0]])]
theorem Qcu:KnOk prog GL0 kn34:=⟨⟨⟨g78_ok.plain,rfl,rfl⟩,p78⟩,trivial⟩
theorem p34:PC 34 [] (.bool true):=Xcc hP hT34 (much:=1000000000) Qcu 60 (by kernel_rfl)
end Go.Ah.Tz
end
section
namespace Go.Ah.Tz
open Go.Proofs.Tryz (prog)
open Go.Proofs.YtflcpnaigpgciaaGreatDoor.Rows (uptoBulk uptoBulkAll)
variable {H:Type}
abbrev Yb8:TypeId:=72
abbrev Xcj:TypeId:=70
abbrev YcJ:TypeId:=151
theorem u_prs:prog.underlying Xcj=some (.slice YcJ):=by kernel_rfl
theorem n_pr:prog.cellsOf YcJ=2:=by kernel_rfl
theorem s_pr:Yq prog YcJ=some [XC,XC]:=by kernel_rfl
theorem s_ac:Yq prog Yb8=some [ZbI,XC,XC,XC,Z8,Xcj]:=by kernel_rfl
theorem ty_pr(fuel:Nat)(xs:List AVal)(d:DataW H)(h:Typed prog fuel YcJ xs d)(hb:uptoBulk d≤1048576):∃x,xs=prC x∧True∧0≤uptoBulk d:=by
 obtain⟨f,parts,ds,rfl,rfl,rfl,r⟩:=ZA h s_pr;obtain⟨p0,parts,d0,ds,rfl,rfl,h0,r⟩:=r.cons;obtain⟨p1,parts,d1,ds,rfl,rfl,h1,r⟩:=r.cons;obtain⟨rfl,rfl⟩:=r.nil;obtain⟨v0,rfl,w0,rfl⟩:=Zs h0 ZI;obtain⟨v1,rfl,w1,rfl⟩:=Zs h1 ZI;exact⟨(v0,v1),rfl,trivial,by omega⟩
theorem QcK{fuel:Nat}{xs:List AVal}{d:DataW H}(h:Typed prog fuel Xcj xs d)(hb:uptoBulk d≤1048576):∃l,xs=[prV l]∧l.length≤2000000:=by
 obtain⟨l,rfl,_,_,k⟩:=YB prC (λ_=>0) (λ_=>True) h u_prs n_pr (λf' _=>ty_pr f') hb;exact⟨l,rfl,by omega⟩
theorem ty_ac{fuel:Nat}{xs:List AVal}{d:DataW H}(h:Typed prog fuel Yb8 xs d)(hb:uptoBulk d≤1048576):∃x,xs=acC x∧x.ids.length≤2000000∧x.prs.length≤2000000:=by
 obtain⟨f,parts,ds,rfl,rfl,rfl,r⟩:=ZA h s_ac;obtain⟨p0,parts,d0,ds,rfl,rfl,h0,r⟩:=r.cons;obtain⟨p1,parts,d1,ds,rfl,rfl,h1,r⟩:=r.cons;obtain⟨p2,parts,d2,ds,rfl,rfl,h2,r⟩:=r.cons;obtain⟨p3,parts,d3,ds,rfl,rfl,h3,r⟩:=r.cons;obtain⟨p4,parts,d4,ds,rfl,rfl,h4,r⟩:=r.cons;obtain⟨p5,parts,d5,ds,rfl,rfl,h5,r⟩:=r.cons;obtain⟨rfl,rfl⟩:=r.nil;obtain⟨v0,rfl,w0,rfl⟩:=Zs h0 Zck;obtain⟨v1,rfl,w1,rfl⟩:=Zs h1 ZI;obtain⟨v2,rfl,w2,rfl⟩:=Zs h2 ZI;obtain⟨v3,rfl,w3,rfl⟩:=Zs h3 ZI;simp only[XE,Xu] at hb;obtain⟨a,rfl,ka⟩:=ZaM h4 (by omega);obtain⟨b,rfl,kb⟩:=QcK h5 (by omega);exact⟨⟨v0,v1,v2,v3,a,b⟩,rfl,ka,kb⟩
end Go.Ah.Tz
namespace Go.Proofs.YtflcpnaigpgciaaGreatDoor
open Go.ChangeShapes Go.WideShapes Go.ChangeAt Go.RowKit Go.Ah Go.Ah.Tz
set_option maxRecDepth 100000
def YaO:List TypeId:=[ZbI,XC,Yb8,Xcj,YcJ,Z8]
theorem Qbv:YaO.all (tyOk Tryz.prog YaO)=true:=by kernel_rfl
theorem r_ac:Tryz.prog.readableRec Yb8=true∧Yb8<Tryz.prog.types.size:=ZbQ Yb8 (by kernel_rfl)
section
variable {H:Type} {enc:TypeId×Value→H} {W:World} {base:Nat} {v:Value} {d:DataW H} {ps:List MemPlace}
theorem d_act(ho:Value.okWide Tryz.prog W .any base Yb8 v)(h:DataW.Trod enc Tryz.prog W 0 (λ_=>true) true Yb8 v d ps)(hb:Rows.uptoBulk d≤1048576):∃a:Ac,a.ids.length≤1000000000∧a.prs.length≤1000000000∧Den (λk=>W.heap[k]?) noOwn (.agg (acC a)) v:=by
 obtain⟨fs,hfs⟩:=ZaD s_ac;obtain⟨cs,rfl,_⟩:=okWide_struct hfs ho;obtain⟨fuel,hf⟩:=h;obtain⟨_,xs,h1,h2⟩:=Yaf (S:=YaO) Qbv fuel Yb8 (by decide) _ _ ⟨_,hf⟩;obtain⟨a,rfl,k1,k2⟩:=ty_ac h2 hb;exact⟨a,by omega,by omega,Zcr h1⟩
end
end Go.Proofs.YtflcpnaigpgciaaGreatDoor
end
section
namespace Go.Ah
open Go.Sort (Holds putRow grow putCells)
def SortC(P:Program)(f:FuncId):Prop:=∀(blk off cap:Nat) (zs:List Int) (w:World),Holds (Value.int .i64) w blk off zs.toArray→blk<w.heap.size→zs.length<4611686018427387904 →
 Calls P f #[.slice (some ⟨blk,off,none⟩) zs.length cap] w λe w'=>e=.returned (.tuple #[])∧∃n os,w'=grow (putRow (Value.int .i64) (Sort.ahead w n) blk off (zs.mergeSort λx y=>decide (x≤y)).toArray) os
def srt(l:List Int):List Int:=l.mergeSort λx y=>decide (x≤y)
theorem Ybh(l:List Int):(srt l).length=l.length:=by simp[srt]
theorem Yau(l:List Int):(srt l).Perm l:=List.mergeSort_perm l _
theorem Xcn(l:List Int):(srt l).Pairwise (·≤·):=by
 have:=List.pairwise_mergeSort (le:=λx y:Int=>decide (x≤y)) (λa b c h k=>by simp at h k ⊢; omega) (λa b=>by simp; omega) l;exact this.imp (λh=>by simpa using h)
theorem QcH{l l':List Int}(h:l'.Pairwise (·≤·))(p:l'.Perm l):srt l=l':=
 List.Perm.eq_of_pairwise (λa b _ _ h k=>by omega) (Xcn l) h ((Yau l).trans p.symm)
section
variable {P:Program} {GL:Globs}
theorem Ybt{f:FuncId}(hs:SortC P f){h0:Hp}{b:Nat}{zs:List Int}{ex:Bool}(hb:h0 b=some (.rows 1 (zs.map λz=>[.int .i64 z])))(hne:zs≠[])(hlen:zs.length<4611686018427387904) :
  ACall P GL f [.sl b 0 zs.length ex] h0 (.tup []) [] [(b,.rows 1 ((srt zs).map λz=>[.int .i64 z]))]:=by
 intro w0 L g h w vs r hx _ hup;have hb':h b=some (.rows 1 (zs.map λz=>[.int .i64 z])):=by rw[hup (b,_) (List.mem_singleton.2 rfl)]; exact hb
 have hpos:0<zs.length:=List.length_pos_iff.2 hne
 match vs,hx with
 |[v],hx=>
 have hd:=hx.1;generalize hk:zs.length=k at hd;cases hd with
 |slv _ _ _ cb a ec hv=>omega
 |sl _ _ _ _ _ cb cap ec hv h1 h2 h3=>
 subst hk;obtain⟨hM,hin,_⟩:=r.own b _ cb hb' rfl ec hv;obtain⟨hsz,arr,T,ho,ht,hle,_,hcell⟩:=r.rowsBlk hb' ec hv;simp only[List.length_map,Nat.mul_one] at hle;have htake:arr.toList.take zs.length=zs.map (Value.int .i64):=by
  apply List.ext_getElem?;intro j;by_cases hj:j<zs.length
  ·rw[List.getElem?_take_of_lt hj,List.getElem?_map,List.getElem?_eq_getElem hj,Array.getElem?_toList];obtain⟨u,hu⟩:∃u,arr[j]?=some u:=⟨arr[j]'(by omega),by simp[show j<arr.size by omega]⟩;have:=hcell j [.int .i64 zs[j]] 0 (.int .i64 zs[j]) u (by simp[hj]) rfl (by simpa using hu);rw[hu];cases this;rfl
  ·rw[List.getElem?_take_eq_none (by omega),List.getElem?_eq_none (by simp; omega)]
 have hlt:cb.blk<w.heap.size:=(Array.getElem?_eq_some_iff.1 ho).1;have h0':0*cb.sz=0:=by simp
 rw[h0'];refine(hs cb.blk 0 cap zs w (holds_of_blockI ho htake) hlt hlen).mono ?_;rintro e w' ⟨rfl,n,os,rfl⟩;refine⟨_,rfl,g,Gm.Le.refl _,?_,.tup _ [] #[] rfl (by simp)⟩;have hl2:(srt zs).length=zs.length:=Ybh zs;have r1:=r.write (b:=b) (blk':=.rows 1 ((srt zs).map λz=>[.int .i64 z])) (o':=.cells (putCells (Value.int .i64) 0 (srt zs).toArray arr) T (0,0)) (w':={ w with heap:=w.heap.setIfInBounds cb.blk (.cells (putCells (Value.int .i64) 0 (srt zs).toArray arr) T (0,0)) }) hb' rfl ec hv rfl rfl rfl rfl rfl ⟨hsz,_,T,rfl,by simp[putCells,ht],by simp; omega,by simp,?_⟩
 ·have hgr:=grownBy_sortedI (w:=w) (g:=cb.blk) (n:=n) (os:=os) (srt zs).toArray;have hh:=heap_sortedI (w:=w) (g:=cb.blk) (n:=n) (os:=os) (srt zs).toArray ho;refine r1.after (M:=λ_=>none) (M':=g.M) ?_ (MLe.refl _) (λc o ec'=>?_) (λc o ec'=>.inl ec')
  ·refine⟨rfl,rfl,rfl,?_,λk hk _=>?_⟩
   ·show (w.heap.setIfInBounds _ _).size≤_;rw[Array.size_setIfInBounds]; exact hgr.size
   ·have hk':k<w.heap.size:=by simpa using hk
    show _=(w.heap.setIfInBounds _ _)[k]?;by_cases e:k=cb.blk
    ·subst e;rw[show (w.heap.setIfInBounds cb.blk _)[cb.blk]?=_ from Array.getElem?_setIfInBounds_self_of_lt hk'];exact hh
    ·rw[Array.getElem?_setIfInBounds_ne (λq=>e q.symm)];exact hgr.block k hk' (λq=>e (Option.some.inj q))
  ·have hc:c<w.heap.size:=r.stable_lt ec';exact(hgr.block c hc (λq=>by cases q; rw[hM] at ec'; cases ec')).trans (r.stable c o ec')
 ·intro i row j x v hi hj hv';rw[List.getElem?_map] at hi;obtain⟨z,hz,rfl⟩:=Option.map_eq_some_iff.1 hi;have hj0:j=0:=by
   have:=(YLG hj).1;simpa using this
  subst hj0;cases hj;have hi':i<(srt zs).length:=(YLG hz).1;simp only[putCells,Nat.mul_one,Nat.add_zero,Array.getElem?_mapIdx] at hv';have hai:i<arr.size:=by omega
  rw[Array.getElem?_eq_getElem hai,Option.map_some,if_pos ⟨Nat.zero_le _,by simpa using hi'⟩] at hv';have:(srt zs).toArray[i-0]! = z:=by
   rw[Nat.sub_zero];rw[getElem!_pos _ i (by simpa using hi')];have:=(YLG hz).2;simpa using this
  rw[this] at hv';cases hv';exact .int _ _ _
end
end Go.Ah
end
section
namespace Go.Ah.Tz
open Go.Proofs.Tryz (prog)
theorem Bor.more{h0:Hp}{rd rd':List Nat}{x y:AVal}(h:Bor h0 rd x y)(hs:∀b∈rd,b∈rd'):Bor h0 rd' x y:=
 λGL w0 L g h' w M2 r hM hrd v d=>h GL w0 L g h' w M2 r hM (λb hb=>hrd b (hs b hb)) v d
def IdV(b:Nat)(τ:List ABlk)(x:AVal)(l:List Int):Prop:=(x=.nils∧l=[])∨∃c id,x=.sl c 0 1 true∧l=[id]∧hget τ c=.rows 1 [[iv id]]∧c≠b
def PrW(b:Nat)(τ:List ABlk)(x:AVal)(l:List (Int×Int)):Prop:=(x=.nils∧l=[])∨∃c p,x=.sl c 0 1 true∧l=[p]∧hget τ c=.rows 2 [[iv p.1,iv p.2]]∧c≠b
def RowIs(b:Nat)(τ:List ABlk)(row:List AVal)(a:Ac):Prop:=∃x y,row=[iv8 a.op,iv a.side,iv a.place,iv a.target,x,y]∧IdV b τ x a.ids∧PrW b τ y a.prs
def RX(τ τ':List ABlk):Prop:=∀c n rs,hget τ c=.rows n rs→hget τ' c=.rows n rs
theorem RX.app(τ l:List ABlk):RX τ (τ++l):=λ_ _ _ h=>Xi l h (by simp)
theorem RX.trans{a b c:List ABlk}(h:RX a b)(k:RX b c):RX a c:=λx n r e=>k x n r (h x n r e)
theorem RX.set{τ:List ABlk}{b:Nat}{r:List AVal}(x:ABlk)(h:hget τ b=.box r):RX τ (τ.set b x):=λc n rs e=>Yo e (by simp) (by rintro rfl; rw[h] at e; cases e)
theorem IdV.mono{b:Nat}{τ τ':List ABlk}{x:AVal}{l:List Int}(h:IdV b τ x l)(k:RX τ τ'):IdV b τ' x l:=by
 rcases h with h|⟨c,id,h1,h2,h3,h4⟩
 ·exact .inl h
 ·exact .inr ⟨c,id,h1,h2,k _ _ _ h3,h4⟩
theorem PrW.mono{b:Nat}{τ τ':List ABlk}{x:AVal}{l:List (Int×Int)}(h:PrW b τ x l)(k:RX τ τ'):PrW b τ' x l:=by
 rcases h with h|⟨c,id,h1,h2,h3,h4⟩
 ·exact .inl h
 ·exact .inr ⟨c,id,h1,h2,k _ _ _ h3,h4⟩
theorem RowIs.mono{b:Nat}{τ τ':List ABlk}{row:List AVal}{a:Ac}(h:RowIs b τ row a)(k:RX τ τ'):RowIs b τ' row a:=by
 obtain⟨x,y,h1,h2,h3⟩:=h; exact⟨x,y,h1,h2.mono k,h3.mono k⟩
theorem RowIs.dead{b b':Nat}{τ τ':List ABlk}{row:List AVal}{a:Ac}(h:RowIs b τ row a)(k:∀c n rs,c≠b→hget τ c=.rows n rs→hget τ' c=.rows n rs)(hb:τ.length≤b'):RowIs b' τ' row a:=by
 have lt:∀ {c n rs},hget τ c=.rows n rs→c≠b':=λh e=>by have:=Xn h (by simp); omega
 obtain⟨x,y,h1,h2,h3⟩:=h;refine⟨x,y,h1,?_,?_⟩
 ·rcases h2 with h|⟨c,id,q1,q2,q3,q4⟩
  ·exact .inl h
  ·exact .inr ⟨c,id,q1,q2,k _ _ _ q4 q3,lt q3⟩
 ·rcases h3 with h|⟨c,id,q1,q2,q3,q4⟩
  ·exact .inl h
  ·exact .inr ⟨c,id,q1,q2,k _ _ _ q4 q3,lt q3⟩
theorem RowIs.cell{b:Nat}{τ:List ABlk}{row:List AVal}{a:Ac}(h:RowIs b τ row a):row.all AVal.cell=true:=by
 obtain⟨x,y,rfl,h2,h3⟩:=h;have hx:x.cell=true:=by rcases h2 with ⟨rfl,_⟩|⟨c,id,rfl,_⟩<;>rfl
 have hy:y.cell=true:=by rcases h3 with ⟨rfl,_⟩|⟨c,id,rfl,_⟩<;>rfl
 show (true&&(true&&(true&&(true&&(x.cell&&(y.cell&&true))))))=true;rw[hx,hy]; rfl
def OI(N:Nat)(l:List Ac)(v:AVal)(τ:List ABlk):Prop:=(l=[]∧v=.nils)∨∃b rs,N≤b∧v=.sl b 0 l.length false∧l≠[]∧hget τ b=.rows 6 rs∧rs.length=l.length∧∀(i:Nat) (row:List AVal) (a:Ac),rs[i]?=some row→l[i]?=some a→RowIs b τ row a
theorem OI.nil(N:Nat)(τ:List ABlk):OI N [] .nils τ:=.inl ⟨rfl,rfl⟩
theorem OI.mono{N:Nat}{l:List Ac}{v:AVal}{τ τ':List ABlk}(h:OI N l v τ)(k:RX τ τ'):OI N l v τ':=by
 rcases h with h|⟨b,rs,h1,h2,h3,h4,h5,h6⟩
 ·exact .inl h
 ·exact .inr ⟨b,rs,h1,h2,h3,k _ _ _ h4,h5,λi row a e1 e2=>(h6 i row a e1 e2).mono k⟩
theorem OI.len{N:Nat}{l:List Ac}{v:AVal}{τ:List ABlk}(h:OI N l v τ)(σ:List ABlk):Yf [v] σ=.ok (iv l.length) [] []:=by
 rcases h with ⟨rfl,rfl⟩|⟨b,rs,h1,rfl,_⟩<;>rfl
theorem QaA:∀ {rs:List (List AVal)},(∀r∈rs,r.all AVal.cell=true)→YF rs=true
 |[],_=>rfl
 |r::rs,h=>by simp only[YF,Bool.and_eq_true]; exact⟨h r (by simp),QaA λx hx=>h x (by simp[hx])⟩
theorem XaX(n by_:Nat){σ:List ABlk}{b c len k:Nat}{ex ex2:Bool}{rs rs2:List (List AVal)}(hb:hget σ b=.rows n rs)(hc:hget σ c=.rows n rs2)(hl:rs.length=len)(hl2:rs2.length=k)(hr:YF rs2=true)(hroom:(2*(len+k)+192)*by_≤2 ^ 48) :
  Qi n by_ [.sl b 0 len ex,.sl c 0 k ex2] σ=.ok (.sl σ.length 0 (len+k) false) [c] ([(b,.dead)]++[(σ.length,.rows n (rs++rs2))])∧Qi n by_ [.nils,.sl c 0 k ex2] σ=.ok (.sl σ.length 0 k false) [c] ([]++[(σ.length,.rows n rs2)]):=by
 have h1:YQ n σ (.sl c 0 k ex2)=some (rs2,[c]):=by
  simp only[YQ,hc];simp[cut,hl2];rw[show Nat.ble k k=true from Nat.ble_eq_true_of_le (Nat.le_refl _)];simp[←hl2]
 have h2:Nat.ble ((2*(len+k)+192)*by_) (2 ^ 48)=true:=Nat.ble_eq_true_of_le hroom;have h3:Nat.ble ((2*k+192)*by_) (2 ^ 48)=true:=Nat.ble_eq_true_of_le (Nat.le_trans (Nat.mul_le_mul_right _ (by omega)) hroom);constructor
 ·have:Qi n by_ [.sl b 0 len ex,.sl c 0 k ex2] σ=ZH n by_ σ rs [(b,.dead)] (.sl c 0 k ex2):=by
   simp[Qi,YaD,hb,hl]
  rw[this];unfold ZH;simp only[h1,hr,hl2,h2,Bool.and_self,cond_true,hl]
 ·show ZH n by_ σ [] [] (.sl c 0 k ex2)=_;unfold ZH;simp only[h1,hr,hl2,List.length_nil,h3,Bool.and_self,cond_true,Nat.zero_add,List.nil_append]
theorem OI.ops{N:Nat}{l as2:List Ac}{v:AVal}{τ:List ABlk}{c:Nat}{rs2:List (List AVal)}(h:OI N l v τ)(hc:hget τ c=.rows 6 rs2)(hl2:rs2.length=as2.length)(hne:as2≠[])(hrow:∀b,(v=.sl b 0 l.length false∨b=τ.length)→∀(i:Nat) (row:List AVal) (a:Ac),rs2[i]?=some row→as2[i]?=some a→RowIs b τ row a)(hN:N≤τ.length)(hroom:l.length+as2.length≤1100000000) :
  ∃v' rd up τ',Qi 6 80 [v,.sl c 0 as2.length true] τ=.ok v' rd up∧upL τ up=some τ'∧OI N (l++as2) v' τ'∧τ.length≤τ'.length∧(∀d,d<N→hget τ' d=hget τ d)∧(∀d r,hget τ d=.box r→hget τ' d=.box r):=by
 have hcell:YF rs2=true:=QaA λr hr=>by
  obtain⟨i,hi,e⟩:=List.getElem_of_mem hr;exact(hrow τ.length (.inr rfl) i r as2[i] (by rw[←e]; simp) (by simp)).cell
 have hpos:0<as2.length:=List.length_pos_iff.2 hne;rcases h with ⟨rfl,rfl⟩|⟨b,rs,h1,rfl,h3,h4,h5,h6⟩
 ·have e:=(XaX 6 80 (len:=rs2.length) (b:=c) (ex:=true) (ex2:=true) hc hc rfl hl2 hcell (by rw[show (2:Nat) ^ 48=281474976710656 from rfl]; simp at hroom; omega)).2;refine⟨_,_,_,_,e,QD _ _,?_,by simp,λd hd=>Yt _ (by omega),λd r hd=>Xi _ hd (by simp)⟩;refine .inr ⟨τ.length,rs2,hN,rfl,by simpa using hne,Zj _ _,hl2,λi row' a' e1 e2=>?_⟩;exact(hrow _ (.inr rfl) i row' a' e1 (by simpa using e2)).mono (RX.app _ _)
 ·have hlt:=Xn h4 (by simp);have e:=(XaX 6 80 h4 hc h5 hl2 (ex:=false) (ex2:=true) hcell (by rw[show (2:Nat) ^ 48=281474976710656 from rfl]; omega)).1;have k:∀d n rs',d≠b→hget τ d=.rows n rs'→hget (τ.set b .dead++[.rows 6 (rs++rs2)]) d=.rows n rs':=λd n rs' hd q=>Xi _ (Yo q (by simp) (λe=>hd e.symm)) (by simp);refine⟨_,_,_,_,e,Zbt _ _ hlt,?_,by simp,λd hd=>?_,λd r hd=>?_⟩
  ·refine .inr ⟨τ.length,rs++rs2,hN,by simp,by simp[h3],?_,by simp[h5,hl2],λi row' a' e1 e2=>?_⟩
   ·have:=Zj (τ.set b .dead) (.rows 6 (rs++rs2));simpa using this
   ·by_cases hi:i<rs.length
    ·rw[List.getElem?_append_left hi] at e1;rw[List.getElem?_append_left (by omega)] at e2;exact(h6 i row' a' e1 e2).dead k (Nat.le_refl _)
    ·rw[List.getElem?_append_right (by omega)] at e1;rw[List.getElem?_append_right (by omega),←h5] at e2;exact(hrow b (.inl rfl) _ row' a' e1 e2).dead k (Nat.le_refl _)
  ·rw[Yt _ (by simp; omega),Ys _ (by omega) (by omega)]
  ·exact Xi _ (Yo hd (by simp) (by rintro rfl; rw[h4] at hd; cases hd)) (by simp)
theorem OI.op{N:Nat}{l:List Ac}{v:AVal}{τ:List ABlk}{c:Nat}{row:List AVal}{a:Ac}(h:OI N l v τ)(hc:hget τ c=.rows 6 [row])(hrow:∀b,(v=.sl b 0 l.length false∨b=τ.length)→RowIs b τ row a)(hN:N≤τ.length)(hroom:l.length≤1000000000) :
  ∃v' rd up τ',Qi 6 80 [v,.sl c 0 1 true] τ=.ok v' rd up∧upL τ up=some τ'∧OI N (l++[a]) v' τ'∧τ.length≤τ'.length∧(∀d,d<N→hget τ' d=hget τ d)∧(∀d r,hget τ d=.box r→hget τ' d=.box r):=
 h.ops (as2:=[a]) hc rfl (by simp) (λb hb i row' a' e1 e2=>by
  cases i with
  |succ i=>simp at e1
  | zero=>simp at e1 e2; subst e1; subst e2; exact hrow b hb) hN (by simp; omega)
theorem IdV.ri{b:Nat}{τ:List ABlk}{x:AVal}{l:List Int}(h:IdV b τ x l):∃rd,RI τ rd x l:=by
 rcases h with ⟨rfl,rfl⟩|⟨c,id,rfl,rfl,h,_⟩
 ·exact⟨[],RI.nils⟩
 ·exact⟨[c],RI.own (l:=[id]) h (by simp) rfl⟩
theorem PrW.bor{b:Nat}{τ:List ABlk}{x:AVal}{l:List (Int×Int)}(h:PrW b τ x l):∃rd,Bor (hp τ) rd x (prV l):=by
 rcases h with ⟨rfl,rfl⟩|⟨c,p,rfl,rfl,h,_⟩
 ·exact⟨[],Bor.weak (Bor.ro rfl) (λM u d=>d.nils_rsl 2)⟩
 ·exact⟨[c],Bor.own h (by simp) (by simp) rfl (by simp)⟩
theorem RowIs.bor{b:Nat}{τ:List ABlk}{row:List AVal}{a:Ac}(h:RowIs b τ row a):∃rd,BorL (hp τ) rd row (acC a):=by
 obtain⟨x,y,rfl,h2,h3⟩:=h;obtain⟨r1,k1⟩:=h2.ri;obtain⟨r2,k2⟩:=h3.bor;refine⟨r1++r2,?_⟩;exact .cons (Bor.ro rfl) <| .cons (Bor.ro rfl) <| .cons (Bor.ro rfl) <| .cons (Bor.ro rfl) <| .cons (Bor.more k1 (by simp +contextual)) <| .cons (Bor.more k2 (by simp +contextual)) .nil
@[reducible] def acV(l:List Ac):AVal:=.rsl false false 6 (l.map acC)
theorem Bor.all{h0:Hp}{τ:List ABlk}:∀ {rs:List (List AVal)} {l:List Ac} {b:Nat},h0=hp τ→rs.length=l.length→(∀(i:Nat) (row:List AVal) (a:Ac),rs[i]?=some row→l[i]?=some a→RowIs b τ row a)→∃rd,∀(i:Nat) (row:List AVal) (a:Ac),rs[i]?=some row→l[i]?=some a→BorL h0 rd row (acC a)
 |[],[],_,_,_,_=>⟨[],λi row a e=>by simp at e⟩
 |r::rs,a::l,b,hh,hl,h=>by
  obtain⟨r1,k1⟩:=(h 0 r a rfl rfl).bor;obtain⟨r2,k2⟩:=Bor.all hh (by simpa using hl) (λi row a e1 e2=>h (i+1) row a (by simpa using e1) (by simpa using e2));refine⟨r1++r2,λi row a' e1 e2=>?_⟩;cases i with
  |zero=>
   simp at e1 e2; subst e1; subst e2; subst hh;intro GL w0 L g h' w M2 r hM hrd vs d;exact k1 GL w0 L g h' w M2 r hM (λb hb=>hrd b (by simp[hb])) vs d
  |succ i=>
   intro GL w0 L g h' w M2 r hM hrd vs d;exact k2 i row a' (by simpa using e1) (by simpa using e2) GL w0 L g h' w M2 r hM (λb hb=>hrd b (by simp[hb])) vs d
 |[],_::_,_,_,hl,_=>by simp at hl
 |_::_,[],_,_,hl,_=>by simp at hl
theorem OI.bor{N:Nat}{l:List Ac}{v:AVal}{τ:List ABlk}(h:OI N l v τ):∃rd,Bor (hp τ) rd v (acV l):=by
 rcases h with ⟨rfl,rfl⟩|⟨b,rs,h1,rfl,h3,h4,h5,h6⟩
 ·exact⟨[],Bor.weak (Bor.ro rfl) (λM u d=>d.nils_rsl 6)⟩
 ·obtain⟨rd,hr⟩:=Bor.all rfl h5 h6;refine⟨b::rd,Bor.weak (y:=.rsl false false 6 (l.map acC)) ?_ (λM u d=>d)⟩;refine Bor.sl (QL h4 (by simp)) (by simp) (by omega) (by simp) (λi row row' q1 q2=>?_);rw[List.getElem?_map] at q2;obtain⟨a,ha,rfl⟩:=Option.map_eq_some_iff.1 q2;have:=hr i row a (by simpa using q1) ha;intro GL w0 L g h' w M2 r hM hrd vs d;exact this GL w0 L g h' w M2 r hM (λb hb=>hrd b (by simp[hb])) vs d
end Go.Ah.Tz
end
section
namespace Go.Ah.Tz
open Go.Proofs.Tryz (prog)
def ZZ(s:St):List Int:=s.s0.units.map Th.id++s.s1.units.map Th.id
def tgs(s:St):List Int:=[-3,-2,-1]++srt (ZZ s)
def Xau(side p t:Int):Ac:=⟨0,side,p,t,[],[]⟩
def acAtt(side:Int)(u:Th):Ac:=⟨1,side,0,-1,[u.id],[]⟩
def acBlk(side id:Int)(u:Th):Ac:=⟨2,side,0,-1,[],[(id,u.id)]⟩
def acEnd(op side:Int):Ac:=⟨op,side,0,-1,[],[]⟩
def ZF(T:List Int)(side:Int):Int→Nat→List Ac
 |_,0=>[]
 |p,k+1=>T.map (Xau side p)++ZF T side (p+1) k
def Zw(side:Int)(us:List Th):List Int→List Ac
 |[]=>[]
 |id::l=>us.map (acBlk side id)++Zw side us l
def cand(s:St)(side:Int)(x:Sd):List Ac:=ZF (tgs s) side 0 x.hand.length++(x.units.map (acAtt side)++(Zw side x.units s.attack++[acEnd 3 side,acEnd 4 side]))
def flt(b:Bk)(s:St)(l:List Ac):List Ac:=l.filter λa=>decide (doF b s a=0)
theorem XL(b:Bk)(s:St)(a:Ac)(l:List Ac):flt b s (a::l)=(if doF b s a=0 then [a] else [])++flt b s l:=by
 by_cases h:doF b s a=0<;>simp[flt,h]
def IdN(τ:List ABlk)(x:AVal)(l:List Int):Prop:=(x=.nils∧l=[])∨∃c id,x=.sl c 0 1 true∧l=[id]∧hget τ c=.rows 1 [[iv id]]
def PrN(τ:List ABlk)(x:AVal)(l:List (Int×Int)):Prop:=(x=.nils∧l=[])∨∃c p,x=.sl c 0 1 true∧l=[p]∧hget τ c=.rows 2 [[iv p.1,iv p.2]]
theorem IdN.at{τ:List ABlk}{x:AVal}{l:List Int}(h:IdN τ x l){d:Nat}(hd:d=τ.length∨∃rs,hget τ d=.rows 6 rs):IdV d τ x l:=by
 rcases h with h|⟨c,id,h1,h2,h3⟩
 ·exact .inl h
 ·refine .inr ⟨c,id,h1,h2,h3,?_⟩;rintro rfl;rcases hd with hd|⟨rs,hd⟩
  ·have:=Xn h3 (by simp); omega
  ·rw[h3] at hd; cases hd
theorem PrN.at{τ:List ABlk}{x:AVal}{l:List (Int×Int)}(h:PrN τ x l){d:Nat}(hd:d=τ.length∨∃rs,hget τ d=.rows 6 rs):PrW d τ x l:=by
 rcases h with h|⟨c,id,h1,h2,h3⟩
 ·exact .inl h
 ·refine .inr ⟨c,id,h1,h2,h3,?_⟩;rintro rfl;rcases hd with hd|⟨rs,hd⟩
  ·have:=Xn h3 (by simp); omega
  ·rw[h3] at hd; cases hd
theorem IdN.mono{τ τ':List ABlk}{x:AVal}{l:List Int}(h:IdN τ x l)(k:RX τ τ'):IdN τ' x l:=by
 rcases h with h|⟨c,id,h1,h2,h3⟩
 ·exact .inl h
 ·exact .inr ⟨c,id,h1,h2,k _ _ _ h3⟩
theorem PrN.mono{τ τ':List ABlk}{x:AVal}{l:List (Int×Int)}(h:PrN τ x l)(k:RX τ τ'):PrN τ' x l:=by
 rcases h with h|⟨c,id,h1,h2,h3⟩
 ·exact .inl h
 ·exact .inr ⟨c,id,h1,h2,k _ _ _ h3⟩
theorem OI.at{N:Nat}{l:List Ac}{v:AVal}{τ:List ABlk}(h:OI N l v τ){d:Nat}(hd:v=.sl d 0 l.length false∨d=τ.length):d=τ.length∨∃rs,hget τ d=.rows 6 rs:=by
 rcases hd with hd|hd
 ·rcases h with ⟨rfl,rfl⟩|⟨b,rs,h1,rfl,h3,h4,h5,h6⟩
  ·cases hd
  ·cases hd; exact .inr ⟨rs,h4⟩
 ·exact .inl hd
theorem ZaN{row:List AVal}(h:row.all AVal.cell=true):cellsOf (.agg row)=some row:=by simp[cellsOf,h]
theorem QcC{row:List AVal}(h:row.all AVal.cell=true)(σ:List ABlk):Ym [.agg row] σ=.ok (.bptr σ.length 0) [] [(σ.length,.box row)]:=by rw[e_box,ZaN h]
theorem Zcs(n:Nat)(σ:List ABlk)(x:AVal)(z cs:List AVal)(hx:fill z [(0,n)] [x]=some cs)(hc:chunk n 1 cs=some [cs]):Zi n 1 z [(0,n)] [x] σ=.ok (.sl σ.length 0 1 true) [] [(σ.length,.rows n [cs])]:=by simp only[Zi,hx,hc]
theorem OI.cells{N:Nat}{l:List Ac}{v:AVal}{τ:List ABlk}(h:OI N l v τ):cellsOf v=some [v]:=by
 rcases h with ⟨rfl,rfl⟩|⟨b,rs,h1,rfl,_⟩<;>rfl
attribute [local irreducible] Ans.rd Ans.pu Ans.wr Ans.dr Ans.gr Ans.gw Ans.gl Ans.gd Ans.opt joinK W
set_option maxHeartbeats 8000000
def PS(τs:List ABlk)(l:List Ac)(τ:List ABlk):Prop:=∃v,hget τ 3=.box [v]∧OI τs.length l v τ∧τs.length≤τ.length∧∀c,c<τs.length→c≠3→hget τ c=hget τs c
theorem PS.more{τs:List ABlk}{l:List Ac}{τ:List ABlk}(h:PS τs l τ)(m:List ABlk):PS τs l (τ++m):=by
 obtain⟨v,h1,h2,h3,h4⟩:=h;exact⟨v,Xi _ h1 (by simp),h2.mono (RX.app _ _),by simp; omega,λc hc hn=>by rw[Yt _ (by omega)]; exact h4 c hc hn⟩
theorem PS.get{τs:List ABlk}{l:List Ac}{τ:List ABlk}(h:PS τs l τ){c:Nat}{x:ABlk}(hx:hget τs c=x)(hd:x≠.dead)(hn:c≠3):hget τ c=x:=by
 obtain⟨v,h1,h2,h3,h4⟩:=h;rw[h4 c (Xn hx hd) hn]; exact hx
theorem Qa7{b:Bk}{s:St}{side:Int}{τs τ:List ABlk}{l:List Ac}(hp:PS τs l τ)(h0:hget τs 0=.box (bkC b))(h1:hget τs 1=.box (stC s))(h2:hget τs 2=.box [iv side])(h4:4≤τs.length)(hroom:l.length≤1000000000)
 (a:Ac)(ha:a.side=side){q:Int}{x y:AVal}(hx:IdN τ x a.ids)(hy:PrN τ y a.prs)(h83:PC 83 [.rptr (bkC b) 0,.rptr (stC s) 0,.rptr (acC a) 0] (iv (doF b s a)))
 {K:AVal→List ABlk→Prop}(hK:∀τ',PS τs (l++if doF b s a=0 then [a] else []) τ'→K (.tup []) τ') :
  VV.call .callv [.func (.func 88) [] [.bptr 2 0,.bptr 0 0,.bptr 1 0,.bptr 3 0],.agg [iv8 a.op,iv q,iv a.place,iv a.target,x,y]] τ K:=by
 have q0:=hp.get h0 (by simp) (by decide);have q1:=hp.get h1 (by simp) (by decide);have q2:=hp.get h2 (by simp) (by decide);obtain⟨v,p1,p2,p3,p4⟩:=hp;refine Qx hP rfl g88_ok rfl ?_;unfold g88;have hcl:∀z:Int,[iv8 a.op,iv z,iv a.place,iv a.target,x,y].all AVal.cell=true:=λz=>RowIs.cell (b:=τ.length) (τ:=τ) (a:={ a with side:=z }) ⟨x,y,rfl,hx.at (.inl rfl),hy.at (.inl rfl)⟩;refine Qg (QcC (hcl q) τ) (QD _ _) ?_;refine Za (ld (Xi _ q2 (by simp)) rfl) (Za rfl ?_);refine Qg (stv (Zj τ _) rfl rfl rfl) (Zt _ (by simp)) ?_;have e:(τ++[ABlk.box [iv8 a.op,iv q,iv a.place,iv a.target,x,y]]).set τ.length (.box [iv8 a.op,iv side,iv a.place,iv a.target,x,y])=τ++[.box [iv8 a.op,iv side,iv a.place,iv a.target,x,y]]:=by
  rw[List.set_append_right _ _ (Nat.le_refl _)]; simp
 rw[e];have hro:∀d,(v=.sl d 0 l.length false∨d=τ.length)→RowIs d τ [iv8 a.op,iv side,iv a.place,iv a.target,x,y] a:=λd hd=>⟨x,y,by rw[ha],hx.at (p2.at hd),hy.at (p2.at hd)⟩;have hnb:hget (τ++[.box [iv8 a.op,iv side,iv a.place,iv a.target,x,y]]) τ.length=.box [iv8 a.op,iv side,iv a.place,iv a.target,x,y]:=Zj _ _;obtain⟨rd,hbor⟩:=((hro τ.length (.inr rfl)).mono (RX.app τ [.box [iv8 a.op,iv side,iv a.place,iv a.target,x,y]])).bor;have hbor':∀rd',(∀b∈rd,b∈rd')→BorL (Go.Ah.hp (τ++[.box [iv8 a.op,iv side,iv a.place,iv a.target,x,y]])) rd' [iv8 a.op,iv side,iv a.place,iv a.target,x,y] (acC a):=λrd' hs GL w0 L g h w M2 r hM hrd vs d=>hbor GL w0 L g h w M2 r hM (λb hb=>hrd b (hs b hb)) vs d;refine YaM (rd:=0::1::τ.length::rd) h83 rfl g83_ok.plain (.cons (Bor.box (row:=bkC b) (QL (Xi _ q0 (by simp)) (by simp)) (by simp) (BorL.ro rfl)) <| .cons (Bor.box (row:=stC s) (QL (Xi _ q1 (by simp)) (by simp)) (by simp) (BorL.ro rfl)) <| .cons (Bor.box (QL hnb (by simp)) (by simp) (hbor' _ (by simp +contextual))) .nil) rfl ?_;refine Za (Qe ..) (Zc (λh=>?_) (λh=>?_));rotate_left
 ·refine hK _ ?_;rw[if_neg (by simpa using h),List.append_nil];exact PS.more ⟨v,p1,p2,p3,p4⟩ _
 rw[if_pos (by simpa using h)] at hK;refine Za (ld (Xi _ p1 (by simp)) rfl) (Za (ld hnb rfl) ?_);refine Qg (Zcs 6 _ _ _ [iv8 a.op,iv side,iv a.place,iv a.target,x,y] (by simp only[fill,ZaN (hcl side)]; rfl) rfl) (QD _ _) ?_;generalize hτ2:τ++[ABlk.box [iv8 a.op,iv side,iv a.place,iv a.target,x,y]]=τ1;have hl1:τ1.length=τ.length+1:=by rw[←hτ2]; simp
 have rx:RX τ (τ1++[.rows 6 [[iv8 a.op,iv side,iv a.place,iv a.target,x,y]]]):=by rw[←hτ2]; exact(RX.app _ _).trans (RX.app _ _)
 have p2':=p2.mono rx;have hx':=hx.mono rx;have hy':=hy.mono rx;have hold:∀c,c<τ.length→hget (τ1++[.rows 6 [[iv8 a.op,iv side,iv a.place,iv a.target,x,y]]]) c=hget τ c:=λc hc=>by
  rw[Yt _ (by omega),←hτ2,Yt _ hc]
 obtain⟨v',rd2,up,τ',o1,o2,o3,o4,o5,o6⟩:=p2'.op (row:=[iv8 a.op,iv side,iv a.place,iv a.target,x,y]) (a:=a) (c:=τ1.length) (Zj _ _) (λd hd=>⟨x,y,by rw[ha],hx'.at (p2'.at hd),hy'.at (p2'.at hd)⟩) (by simp; omega) hroom;refine Qg o1 o2 ?_;have h3':hget τ' 3=.box [v]:=o6 3 _ (by rw[hold 3 (by omega)]; exact p1);have hlt:=Xn h3' (by simp);refine Qg (stv (row':=[v']) h3' o3.cells rfl rfl) (Zt _ hlt) (hK _ ⟨v',Xr _ hlt,o3.mono (RX.set _ h3'),?_,λc hc hn=>?_⟩)
 ·rw[List.length_set]; simp at o4; omega
 ·have hc':c<τ.length:=by omega
  have:c<τ'.length:=by simp at o4; omega
  rw[Ys _ this hn,o5 c hc,hold c hc',p4 c hc hn]
end Go.Ah.Tz
end
section
namespace Go.Ah.Tz
open Go.Proofs.Tryz (prog)
attribute [local irreducible] Ans.rd Ans.pu Ans.wr Ans.dr Ans.gr Ans.gw Ans.gl Ans.gd Ans.opt joinK W
set_option maxHeartbeats 8000000
def Q7(s:St)(side:Int):Sd:=if side=0 then s.s0 else s.s1
def allF(b:Bk)(s:St)(side:Int):List Ac:=if mayR (bkR b).1 b s false=true∧s.phase≠2∧(side=0∨side=1) then flt b s (cand s side (Q7 s side)) else []
def TI(σ:List ABlk)(l:List Int)(v:AVal)(τ:List ABlk):Prop:=∃tb ex,v=.sl tb 0 l.length ex∧4≤tb∧hget τ tb=.rows 1 (l.map cel)∧∀c,c<4→hget τ c=hget σ c
theorem TI.more{σ:List ABlk}{l:List Int}{v:AVal}{τ:List ABlk}(h:TI σ l v τ)(m:List ABlk):TI σ l v (τ++m):=by
 obtain⟨tb,ex,h1,h2,h3,h4⟩:=h;have:=Xn h3 (by simp);exact⟨tb,ex,h1,h2,Xi _ h3 (by simp),λc hc=>by rw[Yt _ (by omega)]; exact h4 c hc⟩
theorem TI.put{σ:List ABlk}{l:List Int}{v:AVal}{τ:List ABlk}(h:TI σ l v τ)(hroom:l.length≤1000000000)(x:Int){K:AVal→List ABlk→Prop}(hK:∀v' τ',TI σ (l++[x]) v' τ'→K v' τ') :
  VV.wr (Zi 1 1 [iv 0] [(0,1)] [iv x] τ) τ λt σ=>VV.wr (Qi 1 8 [v,t] σ) σ K:=by
 obtain⟨tb,ex,rfl,h2,h3,h4⟩:=h;have hlt:=Xn h3 (by simp);rw[Xac _ _ _ _ _ (cel x) rfl rfl,Zba _ 1 8 τ tb l.length ex (l.map cel) (cel x) h3 (by simp) rfl (by rw[show (2:Nat) ^ 48=281474976710656 from rfl]; omega)];refine hK _ _ ⟨_,_,by rw[List.length_append,List.length_singleton],by omega,?_,λc hc=>?_⟩
 ·rw[List.map_append];have:=Zj (τ.set tb .dead++[.rows 1 [cel x]]) (.rows 1 (l.map cel++[cel x]));simpa using this
 ·rw[Yt _ (by simp; omega),Yt _ (by simp; omega),Ys _ (by omega) (by omega)]; exact h4 c hc
theorem Q9(T:List Int)(side:Int):∀(k:Nat) (p:Int),(ZF T side p k).length=k*T.length
 |0,p=>by simp[ZF]
 |k+1,p=>by rw[ZF,List.length_append,Q9 T side k,List.length_map,Nat.succ_mul]; omega
theorem Yaj(side:Int)(us:List Th):∀l:List Int,(Zw side us l).length=l.length*us.length
 |[]=>by simp[Zw]
 |id::l=>by rw[Zw,List.length_append,Yaj side us l,List.length_map,List.length_cons,Nat.succ_mul]; omega
theorem ZbU(b:Bk)(s:St)(l:List Ac):(flt b s l).length≤l.length:=List.length_filter_le _ _
theorem Ybi{b:Bk}{s:St}(hs:StLe 1000000000 s){side:Int}{x:Sd}(h83:∀a:Ac,a.ids.length≤1→a.prs.length≤1→PC 83 [.rptr (bkC b) 0,.rptr (stC s) 0,.rptr (acC a) 0] (iv (doF b s a)))
 {j:Nat}(hH:partA false (j+4) 1 (stC s)=some (rowV x.hand))(hU:partA false (j+6) 1 (stC s)=some (thV x.units))(hxl:x.hand.length≤1000000∧x.units.length≤1000000)(hl:(cand s side x).length≤1000000000){T:List Int}(hT:tgs s=T){τs:List ABlk}{tb:Nat}{ex:Bool}
 (h0:hget τs 0=.box (bkC b))(h1:hget τs 1=.box (stC s))(h2:hget τs 2=.box [iv side])(h3:hget τs 3=.box [.nils])(h4:4≤τs.length)(htb:hget τs tb=.rows 1 (T.map cel))(htb3:tb≠3) :
  VV.rd (Qa [.bptr 1 j] τs) λt68_44=>
 VV.rd (Ya 4 [t68_44] τs) λt69_45=>
 VV.rd (Xc false 1 [t69_45] τs) λt70_46=>
 VV.rd (Yf [t70_46] τs) λt71_47=>
 VV.loop (λag48 v49 σ=>
 VV.rd (Xh .lss false [(Go.Ah.h0 v49),t71_47] σ) λt73_50=>
 VV.test t73_50 (
 VV.rd (Yf [.sl tb 0 T.length ex] σ) λt76_51=>
 VV.loop (λag52 v53 σ=>
 VV.rd (Xh .lss false [(Go.Ah.h0 v53),t76_51] σ) λt78_54=>
 VV.test t78_54 (
 VV.rd (Xb 1 [.sl tb 0 T.length ex,(Go.Ah.h0 v53)] σ) λt79_55=>
 VV.rd (Xc false 1 [t79_55] σ) λt80_56=>
 VV.rd (Zf [(.int .i8 0),(.int .i64 0),(.int .i64 0),(.int .i64 0),.nils,.nils] [(0,1),(2,1),(3,1)] [(.int .i8 0),(Go.Ah.h0 v49),t80_56] σ) λt84_57=>
 VV.call .callv [.func (.func 88) [] [.bptr 2 0,.bptr 0 0,.bptr 1 0,.bptr 3 0],t84_57] σ λt85_58 σ=>
 VV.rd (Xh .add false [(Go.Ah.h0 v53),(.int .i64 1)] σ) λt86_59=>
 ag52 [t86_59] σ) (
 VV.rd (Xh .add false [(Go.Ah.h0 v49),(.int .i64 1)] σ) λt87_60=>
 ag48 [t87_60] σ)) [(.int .i64 0)] σ) (
 VV.rd (Qa [.bptr 1 j] σ) λt89_61=>
 VV.rd (Ya 6 [t89_61] σ) λt90_62=>
 VV.rd (Xc false 1 [t90_62] σ) λt91_63=>
 VV.rd (Yf [t91_63] σ) λt92_64=>
 VV.loop (λag65 v66 σ=>
 VV.rd (Xh .lss false [(Go.Ah.h0 v66),t92_64] σ) λt94_67=>
 VV.test t94_67 (
 VV.rd (Xb 4 [t91_63,(Go.Ah.h0 v66)] σ) λt95_68=>
 VV.rd (Xc true 4 [t95_68] σ) λt96_69=>
 VV.wr (Ye [(.int .i64 0),(.int .i64 0),(.int .i64 0),(.bool false)] [] σ) σ λt18_70 σ=>
 VV.wr (Qb 4 [t18_70,t96_69] σ) σ λ_ σ=>
 VV.rd (Ya 0 [t18_70] σ) λt98_71=>
 VV.rd (Xc false 1 [t98_71] σ) λt99_72=>
 VV.wr (Zi 1 1 [(.int .i64 0)] [(0,1)] [t99_72] σ) σ λt100_73 σ=>
 VV.rd (Zf [(.int .i8 0),(.int .i64 0),(.int .i64 0),(.int .i64 0),.nils,.nils] [(0,1),(3,1),(4,1)] [(.int .i8 1),(.int .i64 (-1)),t100_73] σ) λt101_74=>
 VV.call .callv [.func (.func 88) [] [.bptr 2 0,.bptr 0 0,.bptr 1 0,.bptr 3 0],t101_74] σ λt102_75 σ=>
 VV.rd (Xh .add false [(Go.Ah.h0 v66),(.int .i64 1)] σ) λt103_76=>
 ag65 [t103_76] σ) (
 VV.rd (Ya 5 [.bptr 1 0] σ) λt104_77=>
 VV.rd (Xc false 1 [t104_77] σ) λt105_78=>
 VV.rd (Yf [t105_78] σ) λt106_79=>
 VV.loop (λag80 v81 σ=>
 VV.rd (Xh .lss false [(Go.Ah.h0 v81),t106_79] σ) λt108_82=>
 VV.test t108_82 (
 VV.rd (Xb 1 [t105_78,(Go.Ah.h0 v81)] σ) λt109_83=>
 VV.rd (Xc false 1 [t109_83] σ) λt110_84=>
 VV.rd (Qa [.bptr 1 j] σ) λt112_85=>
 VV.rd (Ya 6 [t112_85] σ) λt113_86=>
 VV.rd (Xc false 1 [t113_86] σ) λt114_87=>
 VV.rd (Yf [t114_87] σ) λt115_88=>
 VV.loop (λag89 v90 σ=>
 VV.rd (Xh .lss false [(Go.Ah.h0 v90),t115_88] σ) λt117_91=>
 VV.test t117_91 (
 VV.rd (Xb 4 [t114_87,(Go.Ah.h0 v90)] σ) λt118_92=>
 VV.rd (Xc true 4 [t118_92] σ) λt119_93=>
 VV.wr (Ye [(.int .i64 0),(.int .i64 0),(.int .i64 0),(.bool false)] [] σ) σ λt22_94 σ=>
 VV.wr (Qb 4 [t22_94,t119_93] σ) σ λ_ σ=>
 VV.rd (Ya 0 [t22_94] σ) λt122_95=>
 VV.rd (Xc false 1 [t122_95] σ) λt123_96=>
 VV.rd (Zf [(.int .i64 0),(.int .i64 0)] [(0,1),(1,1)] [t110_84,t123_96] σ) λt124_97=>
 VV.wr (Zi 2 1 [(.int .i64 0),(.int .i64 0)] [(0,2)] [t124_97] σ) σ λt125_98 σ=>
 VV.rd (Zf [(.int .i8 0),(.int .i64 0),(.int .i64 0),(.int .i64 0),.nils,.nils] [(0,1),(3,1),(5,1)] [(.int .i8 2),(.int .i64 (-1)),t125_98] σ) λt126_99=>
 VV.call .callv [.func (.func 88) [] [.bptr 2 0,.bptr 0 0,.bptr 1 0,.bptr 3 0],t126_99] σ λt127_100 σ=>
 VV.rd (Xh .add false [(Go.Ah.h0 v90),(.int .i64 1)] σ) λt128_101=>
 ag89 [t128_101] σ) (
 VV.rd (Xh .add false [(Go.Ah.h0 v81),(.int .i64 1)] σ) λt129_102=>
 ag80 [t129_102] σ)) [(.int .i64 0)] σ) (
 VV.rd (Zf [(.int .i8 0),(.int .i64 0),(.int .i64 0),(.int .i64 0),.nils,.nils] [(0,1),(3,1)] [(.int .i8 3),(.int .i64 (-1))] σ) λt131_103=>
 VV.call .callv [.func (.func 88) [] [.bptr 2 0,.bptr 0 0,.bptr 1 0,.bptr 3 0],t131_103] σ λt132_104 σ=>
 VV.rd (Zf [(.int .i8 0),(.int .i64 0),(.int .i64 0),(.int .i64 0),.nils,.nils] [(0,1),(3,1)] [(.int .i8 4),(.int .i64 (-1))] σ) λt134_105=>
 VV.call .callv [.func (.func 88) [] [.bptr 2 0,.bptr 0 0,.bptr 1 0,.bptr 3 0],t134_105] σ λt135_106 σ=>
 VV.rd (Xc false 1 [.bptr 3 0] σ) λt136_107=>
(λv' σ=>∃ rd,Bor (hp σ) rd v' (acV (flt b s (cand s side x)))) t136_107 σ)) [(.int .i64 0)] σ)) [(.int .i64 0)] σ)) [(.int .i64 0)] τs:=by
 have hPS0:PS τs [] τs:=⟨.nils,h3,OI.nil _ _,Nat.le_refl _,λ_ _ _=>rfl⟩;have hbig:∀(done rest:List Ac),done++flt b s rest=flt b s (cand s side x)→done.length≤1000000000:=λdone rest h=>by
  have:=congrArg List.length h;have:=ZbU b s (cand s side x);simp at *; omega
 refine Za rfl (Za rfl (Za (ld h1 hH) (Za (Yg ..) ?_)));rw[List.length_map];refine Qj (ι:=Nat) (λp vs τ=>(∃done,vs=[iv p]∧PS τs done τ∧done++flt b s (ZF T side p (x.hand.length-p)++(x.units.map (acAtt side)++(Zw side x.units s.attack++[acEnd 3 side,acEnd 4 side])))=flt b s (cand s side x))∧p≤x.hand.length) (λp=>x.hand.length-p) 0 ⟨⟨[],rfl,hPS0,by rw[cand,hT]; rfl⟩,by omega⟩ ?_;rintro p vs τ again ⟨⟨done,rfl,hPS,hd⟩,hp⟩ hag;refine Za (QB ..) (Zc (λh=>?_) (λh=>?_))
 ·have h:p<x.hand.length:=by simpa using h
  obtain⟨k,hk⟩:∃k,x.hand.length-p=k+1:=⟨x.hand.length-p-1,by omega⟩;rw[hk,ZF,List.append_assoc] at hd;have hk':x.hand.length-(p+1)=k:=by omega
  refine Za rfl ?_;refine Qj (ι:=Nat) (λi vs τ=>(∃done,vs=[iv i]∧PS τs done τ∧done++flt b s ((T.drop i).map (Xau side p)++(ZF T side ((p:Int)+1) k++(x.units.map (acAtt side)++(Zw side x.units s.attack++[acEnd 3 side,acEnd 4 side]))))=flt b s (cand s side x))∧i≤T.length) (λi=>T.length-i) 0 ⟨⟨done,rfl,hPS,hd⟩,by omega⟩ ?_;clear hPS hd;rintro i vs τ again2 ⟨⟨done,rfl,hPS,hd⟩,hi⟩ hag2;refine Za (QB ..) (Zc (λh=>?_) (λh=>?_))
  ·have h:i<T.length:=by simpa using h
   rw[YLD h,List.map_cons,List.cons_append,XL,←List.append_assoc] at hd;have htb':=hPS.get htb (by simp) htb3;have hget:(T.map cel)[i]?=some (cel T[i]):=by simp[h]
   refine Za (v:=.ptr tb i 0) (rd:=[tb]) ?_ ?_
   ·have:=XcD τ tb 0 T.length ex 1 (T.map cel) .i64 i h htb'
    rwa [Nat.zero_add] at this
   refine Za (v:=iv T[i]) (ldp htb' hget rfl) (Za (v:=.agg [iv8 0,iv 0,iv p,iv T[i],.nils,.nils]) (rd:=[]) rfl ?_);have hl2:T.length≤1000000000:=by
    have:=Q9 T side x.hand.length 0;have e:(cand s side x).length ≥ (ZF T side 0 x.hand.length).length:=by rw[cand,hT]; simp
    have:T.length≤x.hand.length*T.length:=Nat.le_mul_of_pos_left _ (by omega);omega
   refine Qa7 hPS h0 h1 h2 h4 (hbig done _ (by rw[List.append_assoc,←XL] at hd; exact hd)) (Xau side p T[i]) rfl (.inl ⟨rfl,rfl⟩) (.inl ⟨rfl,rfl⟩) (h83 _ (by simp[Xau]) (by simp[Xau])) (λτ' hPS'=>?_);refine Za (Zl ..) ?_;rw[Qf (n:=i) (by omega)];exact hag2 (i+1) _ _ (by omega) ⟨⟨_,rfl,hPS',hd⟩,by omega⟩
  ·have h:i=T.length:=by simp at h; omega
   subst h;rw[List.drop_length,List.map_nil,List.nil_append] at hd;refine Za (Zl ..) ?_;rw[Qf (n:=p) (by omega)];refine hag (p+1) _ _ (by omega) ⟨⟨done,rfl,hPS,?_⟩,by omega⟩;rw[hk']; push_cast; exact hd
 have h:p=x.hand.length:=by simp at h; omega
 subst h;rw[Nat.sub_self,ZF,List.nil_append] at hd;clear hag again hp hPS0;refine Za rfl (Za rfl (Za (ld (hPS.get h1 (by simp) (by decide)) hU) (Za (Yg ..) ?_)));rw[List.length_map];refine Qj (ι:=Nat) (λi vs τ=>(∃done,vs=[iv i]∧PS τs done τ∧done++flt b s ((x.units.drop i).map (acAtt side)++(Zw side x.units s.attack++[acEnd 3 side,acEnd 4 side]))=flt b s (cand s side x))∧i≤x.units.length) (λi=>x.units.length-i) 0 ⟨⟨done,rfl,hPS,hd⟩,by omega⟩ ?_;clear hPS hd;rintro i vs τ again ⟨⟨done,rfl,hPS,hd⟩,hi⟩ hag;refine Za (QB ..) (Zc (λh=>?_) (λh=>?_))
 ·have h:i<x.units.length:=by simpa using h
  rw[YLD h,List.map_cons,List.cons_append,XL,←List.append_assoc] at hd;refine Za (Zn _ thC false false 4 x.units .i64 i h) ?_;generalize x.units[i]=u at hd ⊢;refine Za (v:=.agg (thC u)) (ldr rfl) (Qs (row:=thC u) (row':=thC u) rfl rfl rfl ?_);refine Za rfl (Za (v:=iv u.id) (ld (Zj _ _) rfl) ?_);refine Qg (Zcs 1 _ _ _ [iv u.id] rfl rfl) (QD _ _) (Za (v:=.agg [iv8 1,iv 0,iv 0,iv (-1),.sl (τ++[ABlk.box (thC u)]).length 0 1 true,.nils]) (rd:=[]) rfl ?_);have hPS2:PS τs done (τ++[.box (thC u)]++[.rows 1 [[iv u.id]]]):=(hPS.more _).more _;refine Qa7 hPS2 h0 h1 h2 h4 (hbig done _ (by rw[List.append_assoc,←XL] at hd; exact hd)) (acAtt side u) rfl (.inr ⟨_,u.id,rfl,rfl,Zj _ _⟩) (.inl ⟨rfl,rfl⟩) (h83 _ (by simp[acAtt]) (by simp[acAtt])) (λτ' hPS'=>?_);refine Za (Zl ..) ?_;rw[Qf (n:=i) (by omega)];exact hag (i+1) _ _ (by omega) ⟨⟨_,rfl,hPS',hd⟩,by omega⟩
 have h:i=x.units.length:=by simp at h; omega
 subst h;rw[List.drop_length,List.map_nil,List.nil_append] at hd;clear hag again hi;have hal:s.attack.length≤1000000000:=hs.attack;refine Za rfl (Za (v:=rowV s.attack) (ld (hPS.get h1 (by simp) (by decide)) rfl) (Za (Yg ..) ?_));rw[List.length_map];refine Qj (ι:=Nat) (λi vs τ=>(∃done,vs=[iv i]∧PS τs done τ∧done++flt b s (Zw side x.units (s.attack.drop i)++[acEnd 3 side,acEnd 4 side])=flt b s (cand s side x))∧i≤s.attack.length) (λi=>s.attack.length-i) 0 ⟨⟨done,rfl,hPS,hd⟩,by omega⟩ ?_;clear hPS hd;rintro i vs τ again ⟨⟨done,rfl,hPS,hd⟩,hi⟩ hag;refine Za (QB ..) (Zc (λh=>?_) (λh=>?_))
 ·have h:i<s.attack.length:=by simpa using h
  rw[YLD h,Zw,List.append_assoc] at hd;refine Za (Zn _ cel false false 1 s.attack .i64 i h) ?_;generalize s.attack[i]=id at hd ⊢;refine Za (v:=iv id) (ldr rfl) (Za rfl (Za rfl (Za (ld (hPS.get h1 (by simp) (by decide)) hU) (Za (Yg ..) ?_))));rw[List.length_map];refine Qj (ι:=Nat) (λk vs τ=>(∃done,vs=[iv k]∧PS τs done τ∧done++flt b s ((x.units.drop k).map (acBlk side id)++(Zw side x.units (s.attack.drop (i+1))++[acEnd 3 side,acEnd 4 side]))=flt b s (cand s side x))∧k≤x.units.length) (λk=>x.units.length-k) 0 ⟨⟨done,rfl,hPS,hd⟩,by omega⟩ ?_;clear hPS hd;rintro k vs τ again2 ⟨⟨done,rfl,hPS,hd⟩,hk⟩ hag2;refine Za (QB ..) (Zc (λh=>?_) (λh=>?_))
  ·have h:k<x.units.length:=by simpa using h
   rw[YLD h,List.map_cons,List.cons_append,XL,←List.append_assoc] at hd;refine Za (Zn _ thC false false 4 x.units .i64 k h) ?_;generalize x.units[k]=u at hd ⊢;refine Za (v:=.agg (thC u)) (ldr rfl) (Qs (row:=thC u) (row':=thC u) rfl rfl rfl ?_);refine Za rfl (Za (v:=iv u.id) (ld (Zj _ _) rfl) (Za (v:=.agg [iv id,iv u.id]) (rd:=[]) rfl ?_));refine Qg (Zcs 2 _ _ _ [iv id,iv u.id] rfl rfl) (QD _ _) (Za (v:=.agg [iv8 2,iv 0,iv 0,iv (-1),.nils,.sl (τ++[ABlk.box (thC u)]).length 0 1 true]) (rd:=[]) rfl ?_);have hPS2:PS τs done (τ++[.box (thC u)]++[.rows 2 [[iv id,iv u.id]]]):=(hPS.more _).more _;refine Qa7 hPS2 h0 h1 h2 h4 (hbig done _ (by rw[List.append_assoc,←XL] at hd; exact hd)) (acBlk side id u) rfl (.inl ⟨rfl,rfl⟩) (.inr ⟨_,(id,u.id),rfl,rfl,Zj _ _⟩) (h83 _ (by simp[acBlk]) (by simp[acBlk])) (λτ' hPS'=>?_);refine Za (Zl ..) ?_;rw[Qf (n:=k) (by omega)];exact hag2 (k+1) _ _ (by omega) ⟨⟨_,rfl,hPS',hd⟩,by omega⟩
  ·have h:k=x.units.length:=by simp at h; omega
   subst h;rw[List.drop_length,List.map_nil,List.nil_append] at hd;refine Za (Zl ..) ?_;rw[Qf (n:=i) (by omega)];exact hag (i+1) _ _ (by omega) ⟨⟨done,rfl,hPS,hd⟩,by omega⟩
 have h:i=s.attack.length:=by simp at h; omega
 subst h;rw[List.drop_length,Zw,List.nil_append,XL,←List.append_assoc] at hd;clear hag again hi;refine Za (v:=.agg [iv8 3,iv 0,iv 0,iv (-1),.nils,.nils]) (rd:=[]) rfl ?_;refine Qa7 hPS h0 h1 h2 h4 (hbig done _ (by rw[List.append_assoc,←XL] at hd; exact hd)) (acEnd 3 side) rfl (.inl ⟨rfl,rfl⟩) (.inl ⟨rfl,rfl⟩) (h83 _ (by simp[acEnd]) (by simp[acEnd])) (λτ' hPS'=>?_);refine Za (v:=.agg [iv8 4,iv 0,iv 0,iv (-1),.nils,.nils]) (rd:=[]) rfl ?_;have hb2:=hbig _ _ hd;rw[XL,←List.append_assoc] at hd;refine Qa7 hPS' h0 h1 h2 h4 hb2 (acEnd 4 side) rfl (.inl ⟨rfl,rfl⟩) (.inl ⟨rfl,rfl⟩) (h83 _ (by simp[acEnd]) (by simp[acEnd])) (λτ2 hPS2=>?_);obtain⟨v,p1,p2,_⟩:=hPS2;refine Za (ld p1 rfl) ?_;have e:flt b s []=[]:=rfl;rw[e,List.append_nil] at hd;rw[hd] at p2;exact p2.bor
theorem XcA{σ:List ABlk}{b:Nat}{l:List Int}{ex:Bool}(h:SortC prog 89)(hb:hget σ b=.rows 1 (l.map cel))(hne:l≠[])(hlen:l.length≤1000000000){K:AVal→List ABlk→Prop}(hK:K (.tup []) (σ.set b (.rows 1 ((srt l).map cel)))) :
  VV.call (.call 89) [.sl b 0 l.length ex] σ K:=
 Zaq rfl g89_ok.plain (Ybt h (QL hb (by simp)) hne (by omega)) (Zt _ (Xn hb (by simp))) hK
theorem YcK{s:St}(h:∀x∈ZZ s,1≤x):srt ([-3,-2,-1]++ZZ s)=tgs s:=by
 refine QcH ?_ ?_
 ·rw[tgs,List.pairwise_append];refine⟨by simp,Xcn _,λa ha c hc=>?_⟩;have:=h c ((Yau _).mem_iff.1 hc);simp at ha;omega
 ·exact(List.Perm.refl _).append (Yau _)
theorem MayP.ids{b:Bk}{s:St}(h:MayP b s):∀x∈ZZ s,1≤x:=by
 intro x hx;rw[ZZ,←List.map_append] at hx;obtain⟨u,hu,rfl⟩:=List.mem_map.1 hx;have:=h.un.1 u hu;simp only[Qv,Bool.and_eq_true,decide_eq_true_eq] at this;omega
theorem Ycc(s:St)(side:Int)(x:Sd):(cand s side x).length=x.hand.length*(tgs s).length+(x.units.length+(s.attack.length*x.units.length+2)):=by
 simp[cand,Q9,Yaj]
theorem Xcy(s:St):(tgs s).length=3+(s.s0.units.length+s.s1.units.length):=by
 simp[tgs,Ybh,ZZ]; omega
theorem MayP.cand{b:Bk}{s:St}(h:MayP b s){side:Int}{x:Sd}(hx:SideP b x):(Tz.cand s side x).length≤100000000:=by
 have h1:s.attack.length≤1000000:=by
  by_cases hp:s.phase=1
  ·have:=(h.at_.2 hp).2.1; omega
  ·rw[h.at_.1 hp]; simp
 have h2:=h.s0.units;have h3:=h.s1.units;have h4:=(XV.1 hx.hand).1;have h5:=hx.units;rw[Ycc,Xcy];have e1:x.hand.length*(3+(s.s0.units.length+s.s1.units.length))≤10*17:=Nat.mul_le_mul (by omega) (by omega);have e2:s.attack.length*x.units.length≤1000000*7:=Nat.mul_le_mul h1 h5;omega
theorem c39(h89:SortC prog 89)(b:Bk)(hf:bkFit b=true)(hsm:QC b.cards)(s:St)(hs:StLe 1000000000 s)(side:Int):PC 39 [bkV b,stV s,iv side] (acV (allF b s side)):=by
 refine Xa3 hP g39_ok rfl ?_;unfold g39;refine Qg (v:=.bptr 0 0) (rd:=[]) (up:=[(0,.box (bkC b))]) rfl rfl ?_;refine Qg (v:=.bptr 1 0) (rd:=[]) (up:=[(1,.box (stC s))]) rfl rfl ?_;refine Qg (v:=.bptr 2 0) (rd:=[]) (up:=[(2,.box [iv side])]) rfl rfl ?_;refine Za rfl (Za rfl (Yd (c55 b hf hsm s hs) rfl g55_ok.plain rfl (Za (YH ..) ?_)));refine QaC (λ_=>rfl) (λ_=>rfl) (λ_=>Qe ..) ?_;refine Zco (λ_=>rfl) (λ_=>QB ..) ?_;refine Zco (λ_=>rfl) (λ_=>ZG ..) ?_;refine Zc (λh=>?_) (λh=>?_)
 ·rw[allF,if_neg]
  ·exact⟨[],Bor.weak (Bor.ro rfl) (λM u d=>d.nils_rsl 6)⟩
  ·rintro⟨h1,h2,h3⟩;rw[h1] at h;simp only[Bool.or_eq_true,decide_eq_true_eq,cond_true] at h;omega
 have hm:mayR (bkR b).1 b s false=true:=by
  cases e:mayR (bkR b).1 b s false with
  |true=>rfl
  |false=>rw[e] at h; simp at h
 rw[hm] at h;simp only[Bool.or_eq_false_iff,decide_eq_false_iff_not,cond_true] at h;obtain⟨⟨⟨_,hph⟩,hs0⟩,hs1⟩:=h;have hsd:side=0∨side=1:=by omega
 rw[allF,if_pos ⟨hm,hph,hsd⟩];have hM:=(ZaR.1 (Xas hm)).2;refine Qg (YbR ..) (QD _ _) (Za (YbS ..) ?_);refine Qg (v:=.sl 4 0 3 true) (rd:=[]) (up:=[(4,.rows 1 [[iv (-3)],[iv (-2)],[iv (-1)]])]) rfl rfl ?_;have hTI:TI ([ABlk.box (bkC b),.box (stC s),.box [iv side],.box [.nils]]) [-3,-2,-1] (.sl 4 0 3 true) ([]++[ABlk.box (bkC b)]++[ABlk.box (stC s)]++[ABlk.box [iv side]]++[ABlk.box [.nils]]++[.rows 1 [[iv (-3)],[iv (-2)],[iv (-1)]]]):=
  ⟨4,true,rfl,by omega,rfl,λc hc=>by
   match c,hc with
   |0,_=>rfl
   |1,_=>rfl
   |2,_=>rfl
   | 3,_=>rfl⟩
 have hB1:∀ {l v τ},TI ([ABlk.box (bkC b),.box (stC s),.box [iv side],.box [.nils]]) l v τ→hget τ 1=.box (stC s):=λ⟨_,_,_,_,_,q⟩=>by rw[q 1 (by omega)]; rfl
 have hB:∀ {l v τ},TI ([ABlk.box (bkC b),.box (stC s),.box [iv side],.box [.nils]]) l v τ→hget τ 0=.box (bkC b)∧hget τ 2=.box [iv side]∧hget τ 3=.box [.nils]:=λ⟨_,_,_,_,_,q⟩=>by rw[q 0 (by omega),q 2 (by omega),q 3 (by omega)]; exact⟨rfl,rfl,rfl⟩
 generalize ([ABlk.box (bkC b),.box (stC s),.box [iv side],.box [.nils]]:List ABlk)=base at hTI hB1 hB;generalize ([]++[ABlk.box (bkC b)]++[ABlk.box (stC s)]++[ABlk.box [iv side]]++[ABlk.box [.nils]]++[.rows 1 [[iv (-3)],[iv (-2)],[iv (-1)]]]:List ABlk)=τ0 at hTI ⊢;have hu0:=hM.s0.units;have hu1:=hM.s1.units;refine QF 3 (Yl ?_);refine Za rfl (Ze (Za rfl (Za rfl (Za rfl (Za (v:=thV s.s0.units) (ld (hB1 hTI) rfl) (Za (Yg ..) ?_))))));rw[List.length_map];refine Qj (ι:=Nat) (λi vs τ=>(∃v,vs=[iv i,v]∧TI base ([-3,-2,-1]++(s.s0.units.take i).map Th.id) v τ)∧i≤s.s0.units.length) (λi=>s.s0.units.length-i) 0 ⟨⟨_,rfl,by rw[List.take_zero,List.map_nil,List.append_nil]; exact hTI⟩,by omega⟩ ?_;clear hTI;rintro i vs τ again ⟨⟨v,rfl,hTI⟩,hi⟩ hag;refine Za (QB ..) (Zc (λh=>?_) (λh=>?_))
 ·have h:i<s.s0.units.length:=by simpa using h
  refine Za (Zn _ thC false false 4 s.s0.units .i64 i h) ?_;have htk:=XA Th.id s.s0.units i h;generalize s.s0.units[i]=u at htk ⊢;refine Za (v:=.agg (thC u)) (ldr rfl) (Qs (row:=thC u) (row':=thC u) rfl rfl rfl ?_);refine Za rfl (Za (v:=iv u.id) (ld (Zj _ _) rfl) ?_);refine(hTI.more _).put (by simp; omega) u.id (λv' τ' hTI'=>?_);refine Za (Zl ..) ?_;rw[Qf (n:=i) (by omega)];refine hag (i+1) _ _ (by omega) ⟨⟨_,rfl,?_⟩,by omega⟩;rw[List.append_assoc,htk] at hTI';exact hTI'
 have h:i=s.s0.units.length:=by simp at h; omega
 subst h;rw[List.take_length] at hTI;clear hag again hi;refine Za rfl (Yl ?_);refine Za rfl (Ze (Za rfl (Za rfl (Za rfl (Za (v:=thV s.s1.units) (ld (hB1 hTI) rfl) (Za (Yg ..) ?_))))));rw[List.length_map];refine Qj (ι:=Nat) (λi vs τ=>(∃v,vs=[iv i,v]∧TI base (([-3,-2,-1]++s.s0.units.map Th.id)++(s.s1.units.take i).map Th.id) v τ)∧i≤s.s1.units.length) (λi=>s.s1.units.length-i) 0 ⟨⟨_,rfl,by rw[List.take_zero,List.map_nil,List.append_nil]; exact hTI⟩,by omega⟩ ?_;clear hTI;rintro i vs τ again ⟨⟨v,rfl,hTI⟩,hi⟩ hag;refine Za (QB ..) (Zc (λh=>?_) (λh=>?_))
 ·have h:i<s.s1.units.length:=by simpa using h
  refine Za (Zn _ thC false false 4 s.s1.units .i64 i h) ?_;have htk:=XA Th.id s.s1.units i h;generalize s.s1.units[i]=u at htk ⊢;refine Za (v:=.agg (thC u)) (ldr rfl) (Qs (row:=thC u) (row':=thC u) rfl rfl rfl ?_);refine Za rfl (Za (v:=iv u.id) (ld (Zj _ _) rfl) ?_);refine(hTI.more _).put (by simp; omega) u.id (λv' τ' hTI'=>?_);refine Za (Zl ..) ?_;rw[Qf (n:=i) (by omega)];refine hag (i+1) _ _ (by omega) ⟨⟨_,rfl,?_⟩,by omega⟩;rw[List.append_assoc,htk] at hTI';exact hTI'
 have h:i=s.s1.units.length:=by simp at h; omega
 subst h;rw[List.take_length] at hTI;clear hag again hi;refine Za rfl (Yl ?_);refine Za rfl (Qh ?_);rw[List.append_assoc] at hTI;have hTI:TI base ([-3,-2,-1]++ZZ s) v τ:=hTI;have hlen:([-3,-2,-1]++ZZ s).length≤1000000000:=by simp[ZZ]; omega
 have b1:=hB1 hTI;obtain⟨b0,b2,b3⟩:=hB hTI;obtain⟨tb,ex,rfl,t2,t3,t4⟩:=hTI;refine XcA h89 t3 (by simp) hlen ?_;rw[YcK hM.ids];have htl:=Xn t3 (by simp);have ho:∀ {c x},hget τ c=.box x→hget (τ.set tb (.rows 1 ((tgs s).map cel))) c=.box x:=λ{c x} h=>Yo h (by simp) (by rintro rfl; rw[t3] at h; cases h);have htb:=Xr (.rows 1 ((tgs s).map cel)) htl;have hlt:([-3,-2,-1]++ZZ s).length=(tgs s).length:=by simp[tgs,Ybh]
 rw[hlt];have h83:∀a:Ac,a.ids.length≤1→a.prs.length≤1→PC 83 [.rptr (bkC b) 0,.rptr (stC s) 0,.rptr (acC a) 0] (iv (doF b s a)):=λa h1 h2=>c83g b hf hsm s hs hM a (by omega) (by omega);have hl3:4≤(τ.set tb (.rows 1 ((tgs s).map cel))).length:=by rw[List.length_set]; have:=Xn b3 (by simp); omega
 refine Za (ld (ho b2) rfl) (Za rfl ?_);rcases hsd with rfl|rfl
 ·have hx:=hM.cand (side:=0) hM.s0;have:=(XV.1 hM.s0.hand).1;exact Za rfl (Ybi hs (x:=s.s0) (j:=7) h83 rfl rfl ⟨by omega,by omega⟩ (by omega) rfl (ho b0) (ho b1) (ho b2) (ho b3) hl3 htb (by rintro rfl; rw[t3] at b3; cases b3))
 ·have hx:=hM.cand (side:=1) hM.s1;have:=(XV.1 hM.s1.hand).1;exact Za rfl (Ybi hs (x:=s.s1) (j:=15) h83 rfl rfl ⟨by omega,by omega⟩ (by omega) rfl (ho b0) (ho b1) (ho b2) (ho b3) hl3 htb (by rintro rfl; rw[t3] at b3; cases b3))
def LS(σb:List ABlk)(l:List Ac)(v:AVal)(τ:List ABlk):Prop:=OI σb.length l v τ∧σb.length≤τ.length∧∀c,c<σb.length→hget τ c=hget σb c
theorem LS.get{σb:List ABlk}{l:List Ac}{v:AVal}{τ:List ABlk}(h:LS σb l v τ){c:Nat}{x:ABlk}(hx:hget σb c=x)(hd:x≠.dead):hget τ c=x:=by
 rw[h.2.2 c (Xn hx hd)]; exact hx
theorem LS.row{σb:List ABlk}{l:List Ac}{v:AVal}{τ:List ABlk}(_h:LS σb l v τ){x y:AVal}{a:Ac}(hx:IdN τ x a.ids)(hy:PrN τ y a.prs):cellsOf (.agg [iv8 a.op,iv a.side,iv a.place,iv a.target,x,y])=some [iv8 a.op,iv a.side,iv a.place,iv a.target,x,y]:=
 ZaN (RowIs.cell (b:=τ.length) (τ:=τ) (a:=a) ⟨x,y,rfl,hx.at (.inl rfl),hy.at (.inl rfl)⟩)
theorem Xbu(s:St)(side:Int)(x:Sd):∀a∈cand s side x,a.ids.length≤1∧a.prs.length≤1:=by
 have hp:∀(T:List Int) (k:Nat) (p:Int),∀a∈ZF T side p k,a.ids.length≤1∧a.prs.length≤1:=by
  intro T k
  induction k with
  |zero=>intro p a ha; cases ha
  |succ k ih=>
   intro p a ha;rcases List.mem_append.1 ha with ha|ha
   ·obtain⟨t,_,rfl⟩:=List.mem_map.1 ha;simp[Xau]
   ·exact ih _ a ha
 have hb:∀l,∀a∈Zw side x.units l,a.ids.length≤1∧a.prs.length≤1:=by
  intro l
  induction l with
  |nil=>intro a ha; cases ha
  |cons id l ih=>
   intro a ha;rcases List.mem_append.1 ha with ha|ha
   ·obtain⟨t,_,rfl⟩:=List.mem_map.1 ha;simp[acBlk]
   ·exact ih a ha
 intro a ha;rw[cand] at ha;simp only[List.mem_append] at ha;rcases ha with ha|ha|ha|ha
 ·exact hp _ _ _ a ha
 ·obtain⟨t,_,rfl⟩:=List.mem_map.1 ha;simp[acAtt]
 ·exact hb _ a ha
 ·simp at ha;rcases ha with rfl|rfl<;>simp[acEnd]
def sameA(a b:Ac):Bool:=!(((((decide (a.op≠b.op)||decide (a.side≠b.side))||decide (a.place≠b.place))||decide (a.target≠b.target)) || !decide (a.ids=b.ids))||decide ((a.prs.length:Int)≠b.prs.length))&&decide (a.prs=b.prs)
theorem Yb3(a b:Ac):sameA a b=true↔a=b:=by
 cases a; cases b;simp only[sameA,Ac.mk.injEq,Bool.and_eq_true,Bool.not_eq_true',Bool.or_eq_false_iff,decide_eq_false_iff_not,decide_eq_true_eq,Bool.not_eq_false',ne_eq,Decidable.not_not];constructor
 ·rintro⟨⟨⟨⟨⟨⟨h1,h2⟩,h3⟩,h4⟩,h5⟩,_⟩,h6⟩;exact⟨h1,h2,h3,h4,h5,h6⟩
 ·rintro⟨h1,h2,h3,h4,h5,rfl⟩;exact⟨⟨⟨⟨⟨⟨h1,h2⟩,h3⟩,h4⟩,h5⟩,rfl⟩,rfl⟩
theorem e_eqP(p q:Int×Int)(σ:List ABlk):Xb2 true [false,false] [.agg (prC p),.agg (prC q)] σ=.ok (.bool (!decide (p=q))) [] []:=by
 have:decide (p=q)=(decide (p.1=q.1)&&decide (p.2=q.2)):=by
  cases p; cases q; simp
 simp[Xb2,YI,QaG,prC,this];rw[Bool.eq_iff_iff]; simp
theorem c41(a b:Ac)(hl:a.ids.length≤1000000000)(hl2:a.prs.length≤1000000000):PC 41 [.agg (acC a),.agg (acC b)] (.bool (sameA a b)):=by
 refine Xd hP g41_ok rfl rfl ?_;unfold g41;refine Qg (v:=.bptr 0 0) (rd:=[]) (up:=[(0,.box (acC a))]) rfl rfl ?_;refine Qg (v:=.bptr 1 0) (rd:=[]) (up:=[(1,.box (acC b))]) rfl rfl ?_;refine Za rfl (Za rfl (Za rfl (Za rfl (Za (YH ..) ?_))));refine XaL (λ_=>rfl) (λ_=>rfl) (λ_=>rfl) (λ_=>rfl) (λ_=>YH ..) ?_;refine XaL (λ_=>rfl) (λ_=>rfl) (λ_=>rfl) (λ_=>rfl) (λ_=>YH ..) ?_;refine XaL (λ_=>rfl) (λ_=>rfl) (λ_=>rfl) (λ_=>rfl) (λ_=>YH ..) ?_;refine Xa7 (v2:=rowV a.ids) (v4:=rowV b.ids) (u0:=.bool (decide (a.ids=b.ids))) (λ_=>rfl) (λ_=>rfl) (λ_=>rfl) (λ_=>rfl) (λ_ k hk=>Yd (c62 a.ids b.ids (by omega)) rfl g62_ok.plain rfl hk) (λ_=>rfl) ?_;refine Qbs (v3:=iv a.prs.length) (v6:=iv b.prs.length) (q3:=[]) (q6:=[]) (λ_=>rfl) (λ_=>rfl) (λ_=>by simp[Yg]) (λ_=>rfl) (λ_=>rfl) (λ_=>by simp[Yg]) (λ_=>YH ..) ?_;refine Zc (λh=>?_) (λh=>?_)
 ·exact congrArg AVal.bool (by rw[sameA,h]; rfl)
 have hR:sameA a b=decide (a.prs=b.prs):=by rw[sameA,h]; rfl
 have hlen:a.prs.length=b.prs.length:=by
  simp only[Bool.or_eq_false_iff,decide_eq_false_iff_not,ne_eq,Decidable.not_not] at h;omega
 rw[hR];clear hR h;have h0:hget ([]++[ABlk.box (acC a)]++[ABlk.box (acC b)]) 0=.box (acC a):=rfl;have h1:hget ([]++[ABlk.box (acC a)]++[ABlk.box (acC b)]) 1=.box (acC b):=rfl;generalize ([]++[ABlk.box (acC a)]++[ABlk.box (acC b)]:List ABlk)=base at h0 h1 ⊢;refine Qj (ι:=Nat) (λi vs σ=>vs=[iv i]∧σ=base∧i≤a.prs.length∧a.prs.take i=b.prs.take i) (λi=>a.prs.length-i) 0 ⟨rfl,rfl,by omega,by simp⟩ ?_;rintro i vs σ again ⟨rfl,rfl,hi,ht⟩ hag;refine Za rfl (Za (v:=prV a.prs) (ld h0 rfl) (Za (Yg ..) ?_));rw[List.length_map];refine Za (QB ..) (Zc (λh=>?_) (λh=>?_))
 ·have h:i<a.prs.length:=by simpa using h
  have hb:i<b.prs.length:=by omega
  refine Za rfl (Za (v:=prV a.prs) (ld h0 rfl) (Za (Zn _ prC false false 2 a.prs .i64 i h) (Za (v:=.agg (prC a.prs[i])) (ldr rfl) ?_)));refine Za rfl (Za (v:=prV b.prs) (ld h1 rfl) (Za (Zn _ prC false false 2 b.prs .i64 i hb) (Za (v:=.agg (prC b.prs[i])) (ldr rfl) ?_)));refine Za (e_eqP ..) (Zc (λhq=>?_) (λhq=>?_))
  ·refine congrArg AVal.bool (Eq.symm (decide_eq_false λe=>?_));have:a.prs[i]=b.prs[i]:=by simp only[e]
   simp[this] at hq
  ·have he:a.prs[i]=b.prs[i]:=by simpa using hq
   refine Za (Zl ..) ?_;rw[Qf (n:=i) (by omega)];exact hag (i+1) _ _ (by omega) ⟨rfl,rfl,by omega,by rw[List.take_succ_eq_append_getElem h,List.take_succ_eq_append_getElem hb,ht,he]⟩
 ·have h:i=a.prs.length:=by simp at h; omega
  subst h;rw[List.take_length,hlen,List.take_length] at ht;exact congrArg AVal.bool (decide_eq_true ht).symm
theorem Xbt(b:Bk)(s:St)(side:Int):∀a∈allF b s side,a.ids.length≤1∧a.prs.length≤1:=by
 intro a ha;unfold allF at ha;split at ha
 ·exact Xbu s side _ a ((List.mem_filter.1 ha).1)
 ·cases ha
theorem Yca{b:Bk}{s:St}{side:Int}:(allF b s side).length≤1000000000:=by
 unfold allF;split
 ·rename_i h;have hM:=(ZaR.1 (Xas h.1)).2;have hx:SideP b (Q7 s side):=by
   unfold Q7; split
   ·exact hM.s0
   ·exact hM.s1
  have:=hM.cand (side:=side) hx;have:=ZbU b s (cand s side (Q7 s side));omega
 ·simp
end Go.Ah.Tz
end
section
namespace Go.Ah.Tz
theorem YaA{T:List Int}{side t:Int}(ht:t∈T):∀(k:Nat) (p q:Int),p≤q→q<p+k→Xau side q t∈ZF T side p k
 |0,p,q,h1,h2=>by omega
 |k+1,p,q,h1,h2=>by
  rw[ZF,List.mem_append];by_cases h:q=p
  ·subst h; exact .inl (List.mem_map.2 ⟨t,ht,rfl⟩)
  ·exact .inr (YaA ht k (p+1) q (by omega) (by push_cast at h2; omega))
theorem Xaj{side id:Int}{us:List Th}{u:Th}(hu:u∈us):∀ {l:List Int},id∈l→acBlk side id u∈Zw side us l
 |[],h=>by cases h
 |x::l,h=>by
  rw[Zw,List.mem_append];rcases List.mem_cons.1 h with rfl|h
  ·exact .inl (List.mem_map.2 ⟨u,hu,rfl⟩)
  ·exact .inr (Xaj hu h)
theorem Yan{T:List Int}{side:Int}:∀ {k:Nat} {p:Int},∀a∈ZF T side p k,a.side=side
 |0,_,a,h=>by cases h
 |k+1,p,a,h=>by
  rcases List.mem_append.1 h with h|h
  ·obtain⟨t,_,rfl⟩:=List.mem_map.1 h; rfl
  ·exact Yan a h
theorem Yac{side:Int}{us:List Th}:∀ {l:List Int},∀a∈Zw side us l,a.side=side
 |[],a,h=>by cases h
 |x::l,a,h=>by
  rcases List.mem_append.1 h with h|h
  ·obtain⟨t,_,rfl⟩:=List.mem_map.1 h; rfl
  ·exact Yac a h
theorem YbL{s:St}{side:Int}{x:Sd}:∀a∈cand s side x,a.side=side:=by
 intro a ha;simp only[cand,List.mem_append] at ha;rcases ha with ha|ha|ha|ha
 ·exact Yan a ha
 ·obtain⟨t,_,rfl⟩:=List.mem_map.1 ha; rfl
 ·exact Yac a ha
 ·simp at ha; rcases ha with rfl|rfl<;>rfl
theorem ZbZ{b:Bk}{s:St}{l:List Ac}{a:Ac}:a∈flt b s l↔a∈l∧doF b s a=0:=by simp[flt]
theorem XaM{b:Bk}{s:St}(hm:mayR (bkR b).1 b s false=true)(hph:s.phase≠2){side:Int}(hsd:side=0∨side=1){a:Ac}:a∈allF b s side↔a∈cand s side (Q7 s side)∧doF b s a=0:=by
 rw[allF,if_pos ⟨hm,hph,hsd⟩,ZbZ]
theorem Xab{b:Bk}{s:St}(hph:s.phase=2)(side:Int):allF b s side=[]:=if_neg (λh=>h.2.1 hph)
theorem XbH{s:St}{id:Int}(h:(unitR s id).2.2=true):id∈ZZ s:=by
 have:=ZaU h rfl;rw[ZZ,List.mem_append];split at this
 ·exact .inl this
 ·exact .inr this
theorem Qcr{b:Bk}{s:St}{a:Ac}(h:doF b s a=0)(h1:a.ids.length≤1)(h2:a.prs.length≤1):(a.side=0∨a.side=1)∧a∈cand s a.side (Q7 s a.side):=by
 unfold doF at h;split at h
 ·omega
 rename_i hb;have hb:badF a=false:=by simpa using hb
 simp only[badF,bareF,Bool.or_eq_false_iff,decide_eq_false_iff_not,Bool.not_eq_false',Bool.and_eq_true,Bool.not_eq_true',Bool.and_eq_false_iff,Bool.or_eq_true,decide_eq_true_eq,ne_eq,Decidable.not_not] at hb;obtain⟨⟨⟨⟨b1,b2⟩,b3⟩,b4⟩,b5,b6,b7⟩:=hb;have hsd:a.side=0∨a.side=1:=by omega
 refine⟨hsd,?_⟩;obtain⟨op,side,place,target,ids,prs⟩:=a;simp only at b1 b2 b3 b4 b5 b6 b7 h h1 h2 hsd ⊢;have nids:op≠1→ids=[]:=λhn=>by rcases b6 with b|b; exact(hn b).elim; exact List.length_eq_zero_iff.1 (by omega)
 have nprs:op≠2→prs=[]:=λhn=>by rcases b7 with b|b; exact(hn b).elim; exact List.length_eq_zero_iff.1 (by omega)
 have npt:op≠0→place=0∧target = -1:=λhn=>by rcases b5 with b|b; exact(hn b).elim; exact b
 simp only[cand,List.mem_append];split at h
 ·rename_i h4;obtain rfl:=nids (by omega);obtain rfl:=nprs (by omega);obtain⟨rfl,rfl⟩:=npt (by omega);subst h4;exact .inr (.inr (.inr (by simp[acEnd])))
 rename_i h4;split at h
 ·rename_i hw;obtain⟨_,hw⟩:=hw;rcases (show op=0∨op=1∨op=2∨op=3 by omega) with rfl|rfl|rfl|rfl
  ·obtain rfl:=nids (by omega);obtain rfl:=nprs (by omega);rw[wayF,if_pos rfl,playR] at hw;simp only[Bool.and_eq_true,decide_eq_true_eq] at hw;obtain⟨_,⟨p1,p2⟩,_,p4⟩:=hw;refine .inl ?_;have ht:target∈tgs s:=by
    rw[tgs,List.mem_append];have key:aimF s target=true∨target = -1:=by
     cases hc:(cdP (YZ b (if side=0 then s.s0 else s.s1) place)).any ptQ with
     |true=>rw[hc,if_pos rfl] at p4; exact .inl p4
     |false=>rw[hc,if_neg (by simp)] at p4; exact .inr (of_decide_eq_true p4)
    rcases key with p4|p4
    ·simp only[aimF,Bool.or_eq_true,Bool.and_eq_true,decide_eq_true_eq] at p4;rcases p4 with p|p|⟨_,p⟩
     ·exact .inl (by simp[p])
     ·exact .inl (by simp[p])
     ·exact .inr ((Yau _).mem_iff.2 (XbH p))
    ·exact .inl (by simp[p4])
   exact YaA ht _ 0 place p1 (by show place<0+((Q7 s side).hand.length:Int); rw[Q7]; omega)
  ·obtain rfl:=nprs (by omega);obtain⟨rfl,rfl⟩:=npt (by omega);rw[wayF,if_neg (by show ¬(1:Int)=0; omega),if_pos rfl,attR] at hw;simp only[Bool.and_eq_true,Bool.not_eq_true',Bool.or_eq_false_iff,decide_eq_false_iff_not] at hw;obtain⟨_,⟨⟨_,n0⟩,_⟩,hgo⟩:=hw
   match ids,h1,n0,hgo with
   |[],_,n0,_=>simp at n0
   |[id],_,_,hgo=>
    simp only[attGo,okU,Bool.and_eq_true,decide_eq_true_eq] at hgo;obtain⟨⟨q1,q2,_⟩,_⟩:=hgo;have:=ZaU q1 q2;obtain⟨u,hu,rfl⟩:=List.mem_map.1 this;refine .inr (.inl (List.mem_map.2 ⟨u,?_,rfl⟩));rw[Q7];split at hu<;>simp_all
   |_::_::_,h1,_,_=>simp at h1
  ·obtain rfl:=nids (by omega);obtain⟨rfl,rfl⟩:=npt (by omega);rw[wayF,if_neg (by show ¬(2:Int)=0; omega),if_neg (by show ¬(2:Int)=1; omega),if_pos rfl,blkR] at hw;simp only[Bool.and_eq_true,Bool.not_eq_true',Bool.or_eq_false_iff,decide_eq_false_iff_not] at hw;obtain⟨_,⟨n0,_⟩,hgo⟩:=hw
   match prs,h2,n0,hgo with
   |[],_,n0,_=>simp at n0
   |[(p,q)],_,_,hgo=>
    simp only[blkGo,Bool.and_eq_true,decide_eq_true_eq,List.any_eq_true] at hgo;obtain⟨⟨⟨z,hz,rfl⟩,q1,q2⟩,_⟩:=hgo;have:=ZaU q1 q2;obtain⟨u,hu,rfl⟩:=List.mem_map.1 this;refine .inr (.inr (.inl (Xaj (u:=u) ?_ hz)));rw[Q7];split at hu<;>simp_all
   |_::_::_,h1,_,_=>simp at h1
  ·obtain rfl:=nids (by omega);obtain rfl:=nprs (by omega);obtain⟨rfl,rfl⟩:=npt (by omega);exact .inr (.inr (.inr (by simp[acEnd])))
 ·omega
theorem Ybf{b:Bk}{s:St}(hM:MayP b s)(hm:mayR (bkR b).1 b s false=true)(hph:s.phase≠2):(whoF s=0∨whoF s=1)∧acEnd 3 (whoF s)∈allF b s (whoF s):=by
 have hmv:s.mover=0∨s.mover=1:=by have:=hM.hd; unfold HdP at this; omega
 have hw:whoF s=0∨whoF s=1:=by unfold whoF; split; omega; split<;>omega
 refine⟨hw,(XaM hm hph hw).2 ⟨by simp[cand],?_⟩⟩;have hb:badF (acEnd 3 (whoF s))=false:=by
  rcases hw with h|h<;>simp[badF,bareF,acEnd,h]
 rw[doF,hb,if_neg (by simp),if_neg (by show ¬(3:Int)=4; omega),if_pos ⟨rfl,by simp[wayF,acEnd]⟩]
end Go.Ah.Tz
end
section
namespace Go.Ah.Tz
open Go.Proofs.Tryz (prog)
attribute [local irreducible] Ans.rd Ans.pu Ans.wr Ans.dr Ans.gr Ans.gw Ans.gl Ans.gd Ans.opt joinK W
set_option maxHeartbeats 8000000
def nonG(l:List Ac):Nat:=(l.filter λx=>decide (x.op≠4)).length
def lst(l:List Ac)(a:Ac):Bool:=l.any λx=>sameA x a
theorem Xb0(l:List Ac)(x:Ac):nonG (l++[x])=nonG l+if x.op≠4 then 1 else 0:=by
 by_cases h:x.op=4<;>simp[nonG,h]
theorem Qbe(l:List Ac):nonG l≤l.length:=List.length_filter_le _ _
theorem Xce(l:List Ac)(x a:Ac):lst (l++[x]) a=(lst l a||sameA x a):=by simp[lst]
theorem Qay{b:Bk}{s:St}{a:Ac}{side:Int}{l:List Ac}(hall:∀x∈l,x.side=side∧(x.ids.length≤1∧x.prs.length≤1)∧PC 35 [bkV b,stV s,.agg (acC x)] (iv 0))(hl:l.length≤1000000000){n:Nat}(hn:n≤1000000000){q:Bool}{σ:List ABlk}
 (h0:hget σ 0=.box (bkC b))(h1:hget σ 1=.box (stC s))(h2:hget σ 2=.box (acC a)){R:AVal→List ABlk→Prop}{K:List AVal→List ABlk→Prop}(hK:∀τ,hget τ 0=.box (bkC b)→hget τ 1=.box (stC s)→hget τ 2=.box (acC a)→K [iv l.length,iv (n+nonG l:Nat),.bool (q||lst l a)] τ) :
 VV.loop (λag24 v25 σ=>
 VV.rd (Xh .lss false [(Go.Ah.h0 v25),iv l.length] σ) λt38_26=>
 VV.test t38_26 (
 VV.rd (Xb 6 [acV l,(Go.Ah.h0 v25)] σ) λt39_27=>
 VV.rd (Xc true 6 [t39_27] σ) λt40_28=>
 VV.wr (Ye [(.int .i8 0),(.int .i64 0),(.int .i64 0),(.int .i64 0),.nils,.nils] [] σ) σ λt11_29 σ=>
 VV.wr (Qb 6 [t11_29,t40_28] σ) σ λ_ σ=>
 VV.rd (Ya 1 [t11_29] σ) λt41_30=>
 VV.rd (Xc false 1 [t41_30] σ) λt42_31=>
 VV.rd (Xh .neq false [t42_31,iv side] σ) λt44_32=>
 VV.gr t44_32 false (λk=>VV.rd (Xc true 2 [.bptr 0 0] σ) k) λt46_33=>
 VV.gr t44_32 false (λk=>VV.rd (Xc true 23 [.bptr 1 0] σ) k) λt47_34=>
 VV.gr t44_32 false (λk=>VV.rd (Xc true 6 [t11_29] σ) k) λt48_35=>
 VV.gw t44_32 false (λk=>VV.call (.call 35) [t46_33,t47_34,t48_35] σ k) σ λt49_36 σ=>
 VV.gr t44_32 false (λk=>VV.rd (Xh .neq false [t49_36,(.int .i64 0)] σ) k) λt50_37=>
 VV.rd (Yi [t44_32,(.bool true),t50_37] σ) λt51_38=>
 VV.test t51_38 (
 R (.bool false) σ) (
 VV.rd (Ya 0 [t11_29] σ) λt52_39=>
 VV.rd (Xc false 1 [t52_39] σ) λt53_40=>
 VV.rd (Xh .neq false [t53_40,(.int .i8 4)] σ) λt54_41=>
 joinK (λk42=>
 VV.test t54_41 (
 VV.rd (Xh .add false [(Go.Ah.h1 v25),(.int .i64 1)] σ) λt56_44=>
 k42 [t56_44] σ) (
 k42 [(Go.Ah.h1 v25)] σ)) (λv43 σ=>
 VV.gr (Go.Ah.h2 v25) false (λk=>VV.rd (Xc true 6 [t11_29] σ) k) λt59_45=>
 VV.gr (Go.Ah.h2 v25) false (λk=>VV.rd (Xc true 6 [.bptr 2 0] σ) k) λt60_46=>
 VV.gw (Go.Ah.h2 v25) false (λk=>VV.call (.call 41) [t59_45,t60_46] σ k) σ λt61_47 σ=>
 VV.rd (Yi [(Go.Ah.h2 v25),(.bool true),t61_47] σ) λt62_48=>
 VV.rd (Xh .add false [(Go.Ah.h0 v25),(.int .i64 1)] σ) λt63_49=>
 ag24 [t63_49,(Go.Ah.h0 v43),t62_48] σ))) (K v25 σ)) [(.int .i64 0),iv n,.bool q] σ:=by
 refine Qj (ι:=Nat) (λi vs τ=>vs=[iv i,iv (n+nonG (l.take i):Nat),.bool (q||lst (l.take i) a)]∧i≤l.length∧hget τ 0=.box (bkC b)∧hget τ 1=.box (stC s)∧hget τ 2=.box (acC a)) (λi=>l.length-i) 0 ⟨by simp[nonG,lst],by omega,h0,h1,h2⟩ ?_;clear h0 h1 h2;rintro i vs τ again ⟨rfl,hi,h0,h1,h2⟩ hag;refine Za (QB ..) (Zc (λh=>?_) (λh=>?_));rotate_left
 ·have h:i=l.length:=by simp at h; omega
  subst h;rw[List.take_length];exact hK τ h0 h1 h2
 have h:i<l.length:=by simpa using h
 have hi1:=Zn τ acC false false 6 l .i64 i h;obtain⟨m1,m2,m3⟩:=hall l[i] (List.getElem_mem h);have htk:l.take (i+1)=l.take i++[l[i]]:=by rw[List.take_succ_eq_append_getElem h]
 generalize l[i]=x at hi1 m1 m2 m3 htk;refine Za hi1 (Za (v:=.agg (acC x)) (ldr rfl) (Qs (row:=acC x) (row':=acC x) rfl rfl rfl ?_));have hx:=Zj τ (.box (acC x));have g0:hget (τ++[.box (acC x)]) 0=_:=Xi _ h0 (by simp);have g1:hget (τ++[.box (acC x)]) 1=_:=Xi _ h1 (by simp);have g2:hget (τ++[.box (acC x)]) 2=_:=Xi _ h2 (by simp);refine Za rfl (Za (v:=iv x.side) (ld hx rfl) (Za (YH ..) ?_));rw[m1,decide_eq_false (show ¬(side≠side) by simp)];refine Xa (Za (v:=bkV b) (ld g0 rfl) (Xa (Za (v:=stV s) (ld g1 rfl) (Xa (Za (v:=.agg (acC x)) (ld hx rfl) (Yb (Yd m3 rfl g35_ok.plain rfl (Xa (Za (YH ..) (Za rfl (Qh ?_)))))))))));refine Za rfl (Za (v:=iv8 x.op) (ld hx rfl) (Za (YH ..) (Qk λk42 hk=>?_)));have key:k42 [iv (n+nonG (l.take (i+1)):Nat)] (τ++[.box (acC x)]):=by
  rw[hk];refine Xb7 (v1:=.agg (acC x)) (v2:=.agg (acC a)) (λ_=>ld hx rfl) (λ_=>ld g2 rfl) (λ_ k hk=>Yd (c41 x a (by omega) (by omega)) rfl g41_ok.plain rfl hk) (Za (Zl ..) ?_);rw[Qf (n:=i) (by omega)];refine hag (i+1) _ _ (by omega) ⟨?_,by omega,g0,g1,g2⟩;rw[htk,Xce,Bool.or_assoc];rfl
 have hle:=Qbe (l.take i);have hle2:(l.take i).length≤1000000000:=by simp; omega
 rw[htk,Xb0] at key;refine Zc (λhq=>?_) (λhq=>?_)
 ·rw[if_pos (by simpa using hq)] at key;refine Za (Zl ..) ?_;rw[Qf (n:=n+nonG (l.take i)) (by omega)];exact key
 ·rw[if_neg (by simpa using hq)] at key;exact key
theorem c8(h89:SortC prog 89)(h34:PC 34 [] (.bool true))(b:Bk)(hf:bkFit b=true)(hsm:QC b.cards)(s:St)(hs:StLe 2000000 s)(a:Ac)(hl:a.ids.length≤1000000000)(hl2:a.prs.length≤1000000000):PC 8 [bkV b,stV s,.agg (acC a)] (.bool true):=by
 have h67:=c67 b hf;have h9:StLe 1000000000 s:=hs.mono (by decide);refine Xd hP g8_ok rfl rfl ?_;unfold g8;refine Qg (v:=.bptr 0 0) (rd:=[]) (up:=[(0,.box (bkC b))]) rfl rfl ?_;refine Qg (v:=.bptr 1 0) (rd:=[]) (up:=[(1,.box (stC s))]) rfl rfl ?_;refine Qg (v:=.bptr 2 0) (rd:=[]) (up:=[(2,.box (acC a))]) rfl rfl ?_;refine Za rfl ?_;refine Qx hP rfl g14_ok rfl (c14 b hf _ _ (λq=>?_));have hend:∀σ,VV.call (.call 34) [] σ λt44_18 σ=>(λ(v':AVal) (_:List ABlk)=>v'=.bool true) t44_18 σ:=λσ=>Yd h34 rfl g34_ok.plain rfl rfl;obtain⟨q1,h15⟩:=c15 s;obtain⟨q2,h33⟩:=c33 a;refine Ya7 (v1:=stV s) (λ_=>rfl) (λ_ k hk=>Yd h15 rfl g15_ok.plain rfl hk) ?_;refine Ya7 (v1:=.agg (acC a)) (λ_=>rfl) (λ_ k hk=>Yd h33 rfl g33_ok.plain rfl hk) ?_;refine Qb7 (v1:=bkV b) (v2:=stV s) (u0:=iv (bif mayR (bkR b).1 b s false then 0 else 170)) (λ_=>rfl) (λ_=>rfl) (λ_ k hk=>Yd (c16 b s h9 _ _ h67) rfl g16_ok.plain rfl hk) (λ_=>YH ..) ?_;refine Zc (λ_=>hend _) (λh=>?_);have hm:mayR (bkR b).1 b s false=true:=by
  cases e:mayR (bkR b).1 b s false with
  |true=>rfl
  |false=>rw[e] at h; simp at h
 clear h;have hM:=(ZaR.1 (Xas hm)).2;have h0:hget ([]++[ABlk.box (bkC b)]++[ABlk.box (stC s)]++[ABlk.box (acC a)]++[ABlk.box (bkC b)]) 0=.box (bkC b):=rfl;have h1:hget ([]++[ABlk.box (bkC b)]++[ABlk.box (stC s)]++[ABlk.box (acC a)]++[ABlk.box (bkC b)]) 1=.box (stC s):=rfl;have h2:hget ([]++[ABlk.box (bkC b)]++[ABlk.box (stC s)]++[ABlk.box (acC a)]++[ABlk.box (bkC b)]) 2=.box (acC a):=rfl;generalize ([]++[ABlk.box (bkC b)]++[ABlk.box (stC s)]++[ABlk.box (acC a)]++[ABlk.box (bkC b)]:List ABlk)=base at h0 h1 h2 ⊢;have hall:∀side,∀x∈allF b s side,x.side=side∧(x.ids.length≤1∧x.prs.length≤1)∧PC 35 [bkV b,stV s,.agg (acC x)] (iv 0):=λside x hx=>by
  have hsml:=Xbt b s side x hx;have hx':=hx;unfold allF at hx';split at hx'
  ·rename_i hc;rw[ZbZ] at hx';refine⟨YbL x hx'.1,hsml,?_⟩;have:=c35g b hf hsm s h9 x (by omega) (by omega)
   rwa [if_pos hm,if_neg hc.2.1,hx'.2] at this
  ·cases hx'
 have hlen:∀side,(allF b s side).length≤1000000000:=λside=>Yca;have n0:=Qbe (allF b s 0);have n1:=Qbe (allF b s 1);have l0:=hlen 0;have l1:=hlen 1;have lenE:∀(side:Int) σ,Yf [acV (allF b s side)] σ=.ok (iv (allF b s side).length) [] []:=λside σ=>by rw[Yg,List.length_map]
 refine QF 3 (Yl ?_);refine Za rfl (Ze (Za (v:=bkV b) (ld h0 rfl) (Za (v:=stV s) (ld h1 rfl) (Yd (c39 h89 b hf hsm s h9 0) rfl g39_ok.plain rfl (Za (lenE 0 _) ?_)))));refine Qay (n:=0) (hall 0) l0 (by omega) h0 h1 h2 (R:=λv' _=>v'=.bool true) (λτ h0 h1 h2=>?_);refine Za rfl (Yl ?_);refine Za rfl (Ze (Za (v:=bkV b) (ld h0 rfl) (Za (v:=stV s) (ld h1 rfl) (Yd (c39 h89 b hf hsm s h9 1) rfl g39_ok.plain rfl (Za (lenE 1 _) ?_)))));refine Qay (n:=0+nonG (allF b s 0)) (hall 1) l1 (by omega) h0 h1 h2 (R:=λv' _=>v'=.bool true) (λτ h0 h1 h2=>?_);refine Za rfl (Yl ?_);refine Za rfl (Qh (Za (Qe ..) (Za rfl (Za (v:=iv8 s.phase) (ld h1 rfl) (Za (Qe ..) (Za rfl ?_))))));have hN:(decide (((0+nonG (allF b s 0)+nonG (allF b s 1):Nat):Int)=0)==decide (s.phase=2))=true:=by
  by_cases hph:s.phase=2
  ·rw[Xab hph,Xab hph]; simp[nonG,hph]
  ·have hp:=Ybf hM hm hph;have pos:∀ {l:List Ac},acEnd 3 (whoF s)∈l→0<nonG l:=λ{l} h=>List.length_pos_of_mem (List.mem_filter.2 ⟨h,by simp[acEnd]⟩);have:0<nonG (allF b s 0)+nonG (allF b s 1):=by
    rcases hp.1 with h|h
    ·have:=pos hp.2; rw[h] at this; omega
    ·have:=pos hp.2; rw[h] at this; omega
   rw[decide_eq_false (show ¬(((0+nonG (allF b s 0)+nonG (allF b s 1):Nat):Int)=0) by omega),decide_eq_false hph]; rfl
 rw[hN];refine Qh (Za rfl (Za (v:=rowV a.ids) (ld h2 rfl) (Za (v:=iv a.ids.length) (rd:=[]) (by simp[Yg]) (Za (ZG ..) ?_))));refine Yco (v2:=prV a.prs) (v3:=iv a.prs.length) (q3:=[]) (λ_=>rfl) (λ_=>ld h2 rfl) (λ_=>by simp[Yg]) (λ_=>ZG ..) ?_;have h35:=c35g b hf hsm s h9 a hl hl2;rw[if_pos hm] at h35;have hc:(decide ((a.ids.length:Int)>1)||decide ((a.prs.length:Int)>1))=false→(decide ((if s.phase=2 then (211:Int) else doF b s a)=0)==((false||lst (allF b s 0) a)||lst (allF b s 1) a))=true:=λh=>by
  simp only[Bool.or_eq_false_iff,decide_eq_false_iff_not] at h;have hl:∀l,lst l a=true↔a∈l:=λl=>by
   simp only[lst,List.any_eq_true,Yb3];exact⟨λ⟨x,hx,e⟩=>e▸hx,λhx=>⟨a,hx,rfl⟩⟩
  rw[beq_iff_eq,Bool.eq_iff_iff,Bool.or_eq_true,Bool.false_or,hl,hl,decide_eq_true_eq];by_cases hph:s.phase=2
  ·rw[if_pos hph,Xab hph,Xab hph]; simp
  ·rw[if_neg hph,XaM hm hph (.inl rfl),XaM hm hph (.inr rfl)];constructor
   ·intro hd;obtain⟨q1,q2⟩:=Qcr hd (by omega) (by omega);rcases q1 with e|e
    ·rw[e] at q2; exact .inl ⟨q2,hd⟩
    ·rw[e] at q2; exact .inr ⟨q2,hd⟩
   ·rintro (⟨_,hd⟩|⟨_,hd⟩)<;>exact hd
 generalize (decide ((a.ids.length:Int)>1)||decide ((a.prs.length:Int)>1))=c at hc;cases c with
 |true=>
  repeat first|refine Zb rfl ?_|refine Qc rfl ?_|refine Yc rfl ?_|refine Zd rfl ?_
  exact Za rfl (Yb (Yd h34 rfl g34_ok.plain rfl (Za rfl rfl)))
 |false=>
  refine Xa (Za (v:=bkV b) (ld h0 rfl) (Xa (Za (v:=stV s) (ld h1 rfl) (Xa (Za (v:=.agg (acC a)) (ld h2 rfl) (Yb (Yd h35 rfl g35_ok.plain rfl ?_)))))));refine Xa (Za (Qe ..) (Xa (Za rfl (Xa (Za (ZcD ..) ?_)))));rw[hc rfl];exact Za rfl (Yb (Yd h34 rfl g34_ok.plain rfl (Za rfl rfl)))
end Go.Ah.Tz
end
section
namespace Go.Ah.Tz
open Go.Shelf Go.Proofs
open Go.Proofs.Tryz (prog)
def Zbx:Go.Shelf.Ren:=⟨fun|189=>89|125=>129|257=>128|128=>172|129=>173|294=>163|295=>164|296=>165|297=>166|298=>167|299=>168|216=>169|300=>170|301=>171|328=>215|329=>216|330=>217|331=>218|332=>219|215=>220|343=>234|n=>n,fun|28=>27|3=>3|46=>202|0=>0|51=>245|53=>247|4=>4|183=>238|182=>237|131=>209|5=>5|9=>9|218=>276|222=>280|228=>296|229=>125|n=>n,fun|n=>n⟩
theorem lays89:Go.Proofs.Lays.n189 prog Zbx:={
 mixed:=by kernel_rfl,
 f125:=Tryz.func129.trans (congrArg some (by kernel_rfl)),
 f128:=Tryz.func172.trans (congrArg some (by kernel_rfl)),
 f129:=Tryz.func173.trans (congrArg some (by kernel_rfl)),
 f189:=Tryz.func89.trans (congrArg some (by kernel_rfl)),
 f215:=Tryz.func220.trans (congrArg some (by kernel_rfl)),
 f216:=Tryz.func169.trans (congrArg some (by kernel_rfl)),
 f257:=Tryz.func128.trans (congrArg some (by kernel_rfl)),
 f294:=Tryz.func163.trans (congrArg some (by kernel_rfl)),
 f295:=Tryz.func164.trans (congrArg some (by kernel_rfl)),
 f296:=Tryz.func165.trans (congrArg some (by kernel_rfl)),
 f297:=Tryz.func166.trans (congrArg some (by kernel_rfl)),
 f298:=Tryz.func167.trans (congrArg some (by kernel_rfl)),
 f299:=Tryz.func168.trans (congrArg some (by kernel_rfl)),
 f300:=Tryz.func170.trans (congrArg some (by kernel_rfl)),
 f301:=Tryz.func171.trans (congrArg some (by kernel_rfl)),
 f328:=Tryz.func215.trans (congrArg some (by kernel_rfl)),
 f329:=Tryz.func216.trans (congrArg some (by kernel_rfl)),
 f330:=Tryz.func217.trans (congrArg some (by kernel_rfl)),
 f331:=Tryz.func218.trans (congrArg some (by kernel_rfl)),
 f332:=Tryz.func219.trans (congrArg some (by kernel_rfl)),
 f343:=Tryz.func234.trans (congrArg some (by kernel_rfl)),
 t0:=Tryz.underlying0,
 a0:=Tryz.isAgg0,
 z0:=Tryz.sizeOf0,
 v0:=Tryz.zeroValue0,
 t3:=Tryz.underlying3,
 a3:=Tryz.isAgg3,
 z3:=Tryz.sizeOf3,
 v3:=Tryz.zeroValue3,
 t4:=Tryz.underlying4,
 a4:=Tryz.isAgg4,
 z4:=Tryz.sizeOf4,
 v4:=Tryz.zeroValue4,
 t5:=Tryz.underlying5,
 a5:=Tryz.isAgg5,
 z5:=Tryz.sizeOf5,
 v5:=Tryz.zeroValue5,
 t9:=Tryz.underlying9,
 a9:=Tryz.isAgg9,
 z9:=Tryz.sizeOf9,
 v9:=Tryz.zeroValue9,
 t28:=Tryz.underlying27,
 a28:=Tryz.isAgg27,
 z28:=Tryz.sizeOf27,
 v28:=Tryz.zeroValue27,
 t46:=Tryz.underlying202,
 a46:=Tryz.isAgg202,
 z46:=Tryz.sizeOf202,
 v46:=Tryz.zeroValue202,
 t51:=Tryz.underlying245,
 a51:=Tryz.isAgg245,
 z51:=Tryz.sizeOf245,
 v51:=Tryz.zeroValue245,
 t53:=Tryz.underlying247,
 a53:=Tryz.isAgg247,
 z53:=Tryz.sizeOf247,
 v53:=Tryz.zeroValue247,
 t131:=Tryz.underlying209,
 a131:=Tryz.isAgg209,
 z131:=Tryz.sizeOf209,
 v131:=Tryz.zeroValue209,
 t182:=Tryz.underlying237,
 a182:=Tryz.isAgg237,
 z182:=Tryz.sizeOf237,
 v182:=Tryz.zeroValue237,
 t183:=Tryz.underlying238,
 a183:=Tryz.isAgg238,
 z183:=Tryz.sizeOf238,
 v183:=Tryz.zeroValue238,
 t218:=Tryz.underlying276,
 a218:=Tryz.isAgg276,
 z218:=Tryz.sizeOf276,
 v218:=Tryz.zeroValue276,
 t222:=Tryz.underlying280,
 a222:=Tryz.isAgg280,
 z222:=Tryz.sizeOf280,
 v222:=Tryz.zeroValue280,
 t228:=Tryz.underlying296,
 a228:=Tryz.isAgg296,
 z228:=Tryz.sizeOf296,
 v228:=Tryz.zeroValue296,
 t229:=Tryz.underlying125,
 a229:=Tryz.isAgg125,
 z229:=Tryz.sizeOf125,
 v229:=Tryz.zeroValue125 }
theorem sort89:SortC prog 89:=λblk off cap zs w hH hb hl=>Any.slices_Sort_int lays89 blk off cap zs w hH hb hl
end Go.Ah.Tz
end
section
namespace Go.Proofs.YtflcpnaigpgciaaGreatDoor
open Go.ChangeShapes Go.WideShapes Go.ChangeAt Go.RowKit Go.Ah Go.Ah.Tz
set_option maxRecDepth 100000
theorem Qbd:Rows.turnListedUptoRow.laid=[("unicode.White_Space",Rows.laid_unicode_White_Space),("strings.asciiSpace",Lib.tabData .u8 spaces)]:=by kernel_rfl
theorem Xay(H:Type)(enc:TypeId×Value→H)(W:World)(base:Nat)(args:Array Value)(ds gs:List (DataW H))(before:List MemPlace)
 (hval:∀(j:Nat) t v,Tryz.f8.params[j]?=some t→args[j]?=some v→Value.okWide Tryz.prog W .any base t v)
 (hW:DataW.Whole enc Tryz.prog Tryz.f8.params.toList Rows.turnListedSpec.vars false W args.toList ds gs before)(hk:Rows.uptoSmall H (ds++gs)=true)(hL:laidMetH Tryz.prog Rows.turnListedUptoRow.laid W) :
  Calls Tryz.prog 8 args W λe W'=>∃v,e=.returned v∧Rows.turnListedSpec.post enc Tryz.prog Tryz.f8 false true false false W args v W':=by
 have hW':=hW;have hlt:=hW.lt;obtain⟨p,q,hA0,hV,rfl,hfz,hnd⟩:=hW;have hA:DataW.TrodAll enc Tryz.prog W 0 (λ_=>true) true Tryz.f8.params.toList args.toList ds p:=hA0;rw[Tryz.params8] at hA hval;obtain⟨v0,vs,d0,ds,p0,p,hargs,rfl,rfl,h0,r⟩:=trodAll_cons hA;obtain⟨v1,vs,d1,ds,p1,p,rfl,rfl,rfl,h1,r⟩:=trodAll_cons r;obtain⟨v2,vs,d2,ds,p2,p,rfl,rfl,rfl,h2,r⟩:=trodAll_cons r;obtain⟨rfl,rfl,rfl⟩:=trodAll_nil r;obtain rfl:args = #[v0,v1,v2]:=by cases args; simp_all
 obtain⟨rfl,rfl⟩:=trodVars_none hV;have hbk:Rows.uptoBulkAll [d0,d1,d2]≤1048576:=of_decide_eq_true hk;simp only[Rows.uptoBulkAll] at hbk;obtain⟨b,hf,hsm,e0⟩:=ZcC (hval 0 _ v0 rfl rfl) h0 (by omega);obtain⟨s,hs,e1⟩:=Xcr (hval 1 _ v1 rfl rfl) h1 (by omega);obtain⟨a2,l2,m2,e2⟩:=d_act (hval 2 _ v2 rfl rfl) h2 (by omega);have hg:=Ycr Qbd (show laidMet Tryz.prog Rows.turnListedUptoRow.laid W from hL);refine(c8 sort89 p34 b hf hsm s hs a2 l2 m2 W (λk=>W.heap[k]?) [v0,v1,v2] (λ_ _ h=>h) hg ⟨e0,e1,e2,trivial⟩).mono ?_;rintro e W' ⟨u,rfl,hkeep,M',_,_,_,hd⟩;cases hd;have hb:=hkeep.below;refine⟨_,rfl,XaR (pa:=p0++(p1++(p2++[]))) (pv:=[]) hW' (λ_ _ _=>trodAll_cons_mk (shut_bool Ya9 _) trodAll_mk0) (λsp hsp=>?_) (λ_ _=>rfl) rfl hb (ok_one (by kernel_rfl) rfl (okWide_bool_mk Ya9 _))⟩;rw[Tryz.params8];refine trodAll_cons_mk (Zbc r_bk.1 r_bk.2 h0 hb hlt (λp hp=>by simp[hp]) hsp) <| trodAll_cons_mk (Zbc r_st.1 r_st.2 h1 hb hlt (λp hp=>by simp[hp]) hsp) <| trodAll_cons_mk (Zbc r_ac.1 r_ac.2 h2 hb hlt (λp hp=>by simp[hp]) hsp) trodAll_mk0
def YX:Array Value:=#[.agg #[.slice none 0 0,.slice none 0 0],.agg #[.int .i64 0,.int .i64 0,.int .i8 0,.bool false,.int .i8 0,.slice none 0 0,.int .i64 0,.int .i64 0,.int .i64 0,.int .i64 0,.slice none 0 0,.slice none 0 0,.slice none 0 0,.slice none 0 0,.slice none 0 0,.int .i64 0,.int .i64 0,.int .i64 0,.slice none 0 0,.slice none 0 0,.slice none 0 0,.slice none 0 0,.slice none 0 0],.agg #[.int .i8 0,.int .i64 0,.int .i64 0,.int .i64 0,.slice none 0 0,.slice none 0 0]]
theorem ZbD(os:Os):laidMet Tryz.prog Rows.turnListedUptoRow.laid ((Ybc os).forCall (λ_ _=>0) ⟨#[],YX,[]⟩).memory:=
 laidMet_of_run' 8 (by kernel_rfl) (by kernel_rfl)
theorem Qa0(os:Os){H:Type}(enc:TypeId×Value→H):∃places,DataW.whole enc Tryz.prog ((Ybc os).forCall (λ_ _=>0) ⟨#[],YX,[]⟩).memory Tryz.f8.params.toList Rows.turnListedSpec.vars false YX.toList 8 =
  some ([.agg [.nil,.nil],.agg [.lit (.int .i64 0),.lit (.int .i64 0),.lit (.int .i8 0),.lit (.bool false),.lit (.int .i8 0),.nil,.lit (.int .i64 0),.agg [.agg [.lit (.int .i64 0),.lit (.int .i64 0),.lit (.int .i64 0),.nil,.nil,.nil,.nil,.nil],.agg [.lit (.int .i64 0),.lit (.int .i64 0),.lit (.int .i64 0),.nil,.nil,.nil,.nil,.nil]]],.agg [.lit (.int .i8 0),.lit (.int .i64 0),.lit (.int .i64 0),.lit (.int .i64 0),.nil,.nil]],[],places):=⟨[],by kernel_rfl⟩
theorem XaQ(os:Os)(started:os.Started)(H:Type)(enc:TypeId×Value→H)(F:Stop.Interp) :
  ReturnsInHanded {} Tryz.checked os 8 .any ((Rows.OpenSpec.upto Rows.turnListedSpec).preRow enc Tryz.prog Tryz.f8 Rows.turnListedUptoRow.domain false Rows.turnListedUptoRow.laid) (((Rows.OpenSpec.upto Rows.turnListedSpec).at F).post enc Tryz.prog Tryz.f8 false true false false):=by
 obtain⟨places,hx⟩:=Qa0 os enc;refine returnsInHanded_of_row (C:=Tryz.checked) (s:=Rows.OpenSpec.upto Rows.turnListedSpec) d_own started (by kernel_rfl) Tryz.func8
  (witness_row_atRef (enc:=enc) (C:=Tryz.checked) false (Ybc os) YX rfl (by kernel_rfl) (by kernel_rfl) (by kernel_rfl)
   (OpenSpec.preRow_of_cond 8 hx (by kernel_rfl) (λk hk=>by cases hk; kernel_rfl) (by kernel_rfl) (ZbD os))) ?_
 intro W base args ds gs before hval hW _ hcond _ hL _ _;exact Xay H enc W base args ds gs before hval hW (hcond _ rfl) hL
theorem YbV:Tryz.prog.funcNamed Rows.turnListedUptoRow.func=some 8:=by kernel_rfl
theorem XbV:(Rows.turnListedUptoRow.wf (OpenSpec.ofChange (Rows.OpenSpec.upto Rows.turnListedSpec).bare))=true:=by kernel_rfl
theorem QbV:(laidOutB Tryz.prog)=true:=by kernel_rfl
theorem ZbW:(mapsRowed Tryz.prog)=true:=by kernel_rfl
theorem YbW:(Tryz.f8.params.all (Tryz.prog.readableRec ·))=true:=by kernel_rfl
theorem XbW:(namedTie Tryz.prog Rows.turnListedUptoRow.named (Rows.OpenSpec.upto Rows.turnListedSpec).bare.vars)=true:=by kernel_rfl
theorem QbW:(Rows.turnListedUptoRow.stops==[])=true:=by kernel_rfl
theorem ZbX:(Tryz.prog.stops==[])=true:=by kernel_rfl
theorem YbX:(Rows.turnListedUptoRow.knobs==[])=true:=by kernel_rfl
theorem XbX:(Tryz.prog.stopKnobs==[])=true:=by kernel_rfl
theorem Ybx:(Rows.turnListedUptoRow.inPlace==Tryz.prog.inPlace 8)=true:=by kernel_rfl
theorem Xbx:(Rows.turnListedUptoRow.unfollowed==Tryz.prog.unfollowed 8)=true:=by kernel_rfl
theorem Qbx:(Rows.turnListedUptoRow.recurses==Tryz.prog.recurses 8)=true:=by kernel_rfl
theorem Zby:(Rows.turnListedUptoRow.named==Tryz.prog.varsNamed 8)=true:=by kernel_rfl
theorem Yby:(Rows.turnListedUptoRow.maps==(Tryz.f8.params.toList++(Rows.OpenSpec.upto Rows.turnListedSpec).bare.plain.varTypes Tryz.prog).any (Tryz.prog.mapsRec ·))=true:=by kernel_rfl
theorem Xby:(Rows.turnListedUptoRow.ifaces==(Tryz.f8.params.toList++(Rows.OpenSpec.upto Rows.turnListedSpec).bare.plain.varTypes Tryz.prog).any (Tryz.prog.ifacesRec ·))=true:=by kernel_rfl
theorem Qby:(Rows.turnListedUptoRow.mapsOut==Tryz.prog.mapsAmong Tryz.f8.resultTypes.toList)=true:=by kernel_rfl
theorem Zbz:(Rows.turnListedUptoRow.loops==(Tryz.f8.params.toList++(Rows.OpenSpec.upto Rows.turnListedSpec).bare.plain.varTypes Tryz.prog).any (Tryz.prog.loopsFrom ·))=true:=by kernel_rfl
theorem Ybz:(Rows.turnListedUptoRow.wideKeys==(Tryz.f8.params.toList++(Rows.OpenSpec.upto Rows.turnListedSpec).bare.plain.varTypes Tryz.prog++Tryz.f8.resultTypes.toList).any (Tryz.prog.wideKeysFrom ·))=true:=by kernel_rfl
theorem Xbz:((Rows.OpenSpec.upto Rows.turnListedSpec).bare.vars.all (Tryz.prog.varReadable ·))=true:=by kernel_rfl
theorem Qbz:(Tryz.f8.resultTypes.all (λt=>Tryz.prog.readableRec t&&decide (t<Tryz.prog.types.size)))=true:=by kernel_rfl
theorem ZbA:(Rows.turnListedUptoRow.ifacesOut==Tryz.f8.resultTypes.toList.any (Tryz.prog.ifacesRec ·))=true:=by kernel_rfl
theorem YbA:(Rows.turnListedUptoRow.loopsOut==Tryz.f8.resultTypes.toList.any (Tryz.prog.loopsFrom ·))=true:=by kernel_rfl
theorem XbA:(Rows.turnListedUptoRow.plainKeys==Tryz.prog.plainKeys)=true:=by kernel_rfl
theorem QbA:(Rows.turnListedUptoRow.shortTexts.isNone)=true:=by kernel_rfl
theorem ZbB:(Tryz.prog.stopsHeard)=true:=by kernel_rfl
theorem YbB:(Tryz.prog.mayEnter)=true:=by kernel_rfl
theorem XbB:(Rows.turnListedUptoRow.lifted==Tryz.prog.liftsFinal)=true:=by kernel_rfl
theorem QbB:(Tryz.prog.make==some Rows.turnListedUptoRow.make)=true:=by kernel_rfl
theorem ZbC:(Rows.turnListedUptoRow.kinds==(if Rows.turnListedUptoRow.domain.isEmpty then [] else Tryz.f8.params.toList.map λt=>match Tryz.prog.underlying t with|some (.int k)=>some k|_=>none))=true:=by kernel_rfl
theorem YbC:(Rows.turnListedUptoRow.pinned==Rows.turnListedUptoRow.pinnedBy)=true:=by kernel_rfl
theorem XbC:(Rows.turnListedUptoRow.veiled==(Tryz.f8.params.toList++(Rows.OpenSpec.upto Rows.turnListedSpec).bare.plain.varTypes Tryz.prog++Tryz.f8.resultTypes.toList).any (Tryz.prog.veiledRec ·))=true:=by kernel_rfl
theorem QbC:(Rows.turnListedUptoRow.veiledFits Tryz.prog Tryz.f8.params.toList (Tryz.f8.params.toList++(Rows.OpenSpec.upto Rows.turnListedSpec).bare.plain.varTypes Tryz.prog++Tryz.f8.resultTypes.toList))=true:=by kernel_rfl
theorem YaQ:joinedFacts Tryz.prog 8 Tryz.f8 (Rows.OpenSpec.upto Rows.turnListedSpec).bare Rows.turnListedUptoRow=true:=(Zm (Zm (Zm (Zm (Zm (Zm (Zm (Zm (Zm (Zm (Zm (Zm (Zm (Zm (Zm (Zm (Zm (Zm (Zm (Zm (Zm (Zm (Zm (Zm (Zm (Zm (Zm (Zm (Zm (Zm (Zm XbV QbV) ZbW) YbW) XbW) QbW) ZbX) YbX) XbX) Ybx) Xbx) Qbx) Zby) Yby) Xby) Qby) Zbz) Ybz) Xbz) Qbz) ZbA) YbA) XbA) QbA) ZbB) YbB) XbB) QbB) ZbC) YbC) XbC) QbC)
theorem Zbe:Rows.TurnListedUptoSaid:=
 OpenClaim.holds_of_cond 8 Tryz.f8 rfl rfl rfl rfl rfl rfl rfl ⟨rfl,rfl,rfl,rfl,rfl⟩ rfl rfl rfl rfl rfl YbV Tryz.func8 YaQ
  (of_decide_eq_true (by kernel_rfl)) (by unfold Func.isWrapper; first|(rw[if_pos (by decide +kernel)]; kernel_rfl)|(rw[if_neg (by decide +kernel)]; exact⟨rfl,rfl⟩))
  (λos started H enc _ F=>by rw[OpenClaim.pre_eq_preRow]; exact XaQ os started H enc F)
theorem Xa0(f:FuncId)(fn:Func)(hf:Tryz.pinned.checked.prog.funcNamed "baize/baizelaw21.TurnListed" = some f)(hfn:Tryz.pinned.checked.prog.funcs[f]?=some fn) :
  true=Tryz.pinned.checked.prog.looks []∧∀(j:Nat) t,fn.params[j]?=some t→Tryz.pinned.checked.prog.wantsStandIn t=false:=by
 obtain rfl:f=8:=Option.some.inj ((show Tryz.prog.funcNamed "baize/baizelaw21.TurnListed" = some 8 by kernel_rfl).symm.trans hf) |>.symm;obtain rfl:fn=Tryz.f8:=(Option.some.inj (Tryz.func8.symm.trans hfn)).symm;refine⟨by kernel_rfl,λj t ht=>?_⟩;rw[Tryz.params8] at ht;have hm:t∈[Xb8,Qb8,Yb8]:=by simpa using Array.mem_of_getElem? ht
 have hall:([Xb8,Qb8,Yb8].all λu=>!Tryz.prog.wantsStandIn u)=true:=by kernel_rfl
 exact(show Tryz.prog.wantsStandIn t=false by simpa using List.all_eq_true.1 hall t hm)
theorem turnListed_upto_card:Rows.TurnListedUptoCardSaid:=
 Claim7.holds_tied_plain_at .later [] _ _ _ _ Zbe (λ_ h=>by cases h) (by kernel_rfl) (λ_ h=>by cases h) turnListedUpto_row_tie rfl ⟨rfl,rfl⟩ (by kernel_rfl) rfl Xa0 (by kernel_rfl)
#print axioms turnListed_upto_card
end Go.Proofs.YtflcpnaigpgciaaGreatDoor
end
