/- Part of the proof that TurnPays holds of the program for arguments that together hold at most 1048576 values and letters; no other condition. -/
import Derived.Test.YtflcpnaigpgciaaGreatDoorL4
import Derived.Test.YtflcpnaigpgciaaGreatDoorRows
import Derived.Test.YtflcpnaigpgciaaGreatDoorCards
import Derived.Test.YtflcpnaigpgciaaGreatDoorTie
import Derived.ProofKit
import Derived.OpenShut
import Derived.Carry
import Derived.SevenTiedAt
import Derived.JoinedCond
import Derived.LaidMore
import Derived.SizedLaws
import Derived.Stop.LaidErr
import Derived.Deep.DeepHandedRow
import Derived.Deep.DeepWitnessRowRef
import Derived.Lib.LaidTab
set_option linter.all false
section
namespace Go.Ah.Tz
open Go.Proofs.Tryz (prog)
def ilook{α:Type}(t:Int):List (Int×α)→Option α
 |[]=>none
 |p::l=>if t==p.1 then some p.2 else ilook t l
def mpG{α:Type}(f:α→AVal)(l:List (Int×α)):List (AVal×AVal):=l.map λp=>(iv p.1,f p.2)
theorem QaM{α:Type}(f:α→AVal)(t:Int):∀l:List (Int×α),alook (iv t) (mpG f l)=some ((ilook t l).map f)
 |[]=>rfl
 |p::l=>by
  simp only[mpG,List.map_cons,alook,keyEq,ilook,ikEq,cond_true];cases h:t==p.1 with
  |true=>rfl
  |false=>exact QaM f t l
theorem Qa8{α:Type}(f:α→AVal)(t:Int)(v:α):∀l:List (Int×α),ilook t l=none→aput (iv t) (f v) (mpG f l)=some (mpG f (l++[(t,v)]))
 |[],_=>rfl
 |p::l,h=>by
  rw[ilook] at h;split at h
  ·cases h
  ·rename_i h2;have h2:(t==p.1)=false:=by simpa using h2
   have:=Qa8 f t v l h;simp only[mpG] at this;simp only[mpG,List.map_cons,List.cons_append,aput,keyEq,ikEq,cond_true,h2,this]
theorem Qag{α:Type}(t:Int):∀ (a b:List (Int × α)),ilook t (a ++ b)=(match ilook t a with
 |some v=>some v
 | none=>ilook t b)
 |[],b=>rfl
 |p::a,b=>by
  simp only[List.cons_append,ilook];split
  ·rfl
  ·exact Qag t a b
theorem Yad{α:Type}(t:Int):∀l:List (Int×α),(ilook t l).isSome=(l.map (·.1)).contains t
 |[]=>rfl
 |p::l=>by
  simp only[ilook,List.map_cons,List.contains_cons];cases h:t==p.1 with
  |true=>simp
  |false=>simp only[Bool.false_eq_true,if_false,Bool.false_or]; exact Yad t l
theorem Ya3{α:Type}(f:α→AVal)(z:AVal)(ok:Bool){σ:List ABlk}{b:Nat}{l:List (Int×α)}(h:hget σ b=.map (mpG f l))(t:Int):Qp false ok z [.map b,iv t] σ=.ok (lookV ok z ((ilook t l).map f)) [b] []:=by
 simp only[Qp,QV,mapOf,h,QaM,cond_true]
theorem Zb5{α:Type}(f:α→AVal){σ:List ABlk}{b:Nat}{l:List (Int×α)}(h:hget σ b=.map (mpG f l))(t:Int)(v:α)(hn:ilook t l=none):Yt false [.map b,iv t,f v] σ=.ok .junk [] [(b,.map (mpG f (l++[(t,v)])))]:=by
 simp only[Yt,QV,h,Qa8 f t v l hn,cond_true]
structure SdAt (row:List AVal) (j:Nat) (x:Sd):Prop where
 h0:partA false (j+0) 1 row=some (iv x.life)
 h1:partA false (j+1) 1 row=some (iv x.mana)
 h2:partA false (j+2) 1 row=some (iv x.most)
 h3:partA false (j+3) 1 row=some (rowV x.deck)
 h4:partA false (j+4) 1 row=some (rowV x.hand)
 h5:partA false (j+5) 1 row=some (rowV x.grave)
 h6:partA false (j+6) 1 row=some (thV x.units)
 h7:partA false (j+7) 1 row=some (rowV x.told)
theorem sdAt0(s:St):SdAt (stC s) 7 s.s0:=⟨rfl,rfl,rfl,rfl,rfl,rfl,rfl,rfl⟩
theorem sdAt1(s:St):SdAt (stC s) 15 s.s1:=⟨rfl,rfl,rfl,rfl,rfl,rfl,rfl,rfl⟩
attribute [local irreducible] Ans.rd Ans.pu Ans.wr Ans.dr Ans.gr Ans.gw Ans.gl Ans.gd Ans.opt joinK W
set_option maxHeartbeats 2000000
theorem c120(l:List Int)(hl:l.length≤big)(id:FuncId)(fs cs:List AVal)(hp:Qm prog id=true)(f:Int→Bool)(hc:∀x∈l,PC id (fs++[iv x]++cs) (.bool (f x)))(hr:∀x,roL (fs++[iv x]++cs)=true) :
  PC 120 [rowV l,.func (.func id) fs cs] (iv (idxF f l 0)):=by
 rw[bigE] at hl;refine Qd hP g120_ok rfl rfl ?_;unfold g120;refine Ya (v:=iv l.length) (rd:=[]) (by simp[Xh]) ?_;refine Zk (ι:=Nat) (λi vs s=>vs=[iv i]∧i≤l.length∧idxF f l 0=idxF f (l.drop i) i) (λi=>l.length-i) 0 ⟨rfl,by omega,by simp⟩ ?_;rintro i vs s again ⟨rfl,hi,hr'⟩ hag;refine Ya rfl (Yc (λh=>?_) (λh=>?_))
 ·have h:i<l.length:=by simpa using h
  refine Ya (Zp _ cel _ _ _ l _ i h) (Ya (ldr rfl) ?_);refine Yd (hc _ (List.getElem_mem h)) rfl hp (hr _) ?_;rw[YLD h,idxF] at hr';refine Yc (λh2=>?_) (λh2=>?_)
  ·rw[if_pos h2] at hr'; rw[hr']; rfl
  ·rw[if_neg (by rw[h2]; simp)] at hr';refine Ya (Ql ..) ?_;rw[Zg (n:=i) (by omega)];exact hag (i+1) _ _ (by omega) ⟨rfl,by omega,by rw[hr']; push_cast; rfl⟩
 ·have h:i=l.length:=by simp at h; omega
  subst h;rw[List.drop_length,idxF] at hr';rw[hr']
theorem c185(l:List Int)(hl:l.length≤big)(id:FuncId)(fs cs:List AVal)(hp:Qm prog id=true)(f:Int→Bool)(hc:∀x∈l,PC id (fs++[iv x]++cs) (.bool (f x)))(hr:∀x,roL (fs++[iv x]++cs)=true)(hr2:roL [rowV l,.func (.func id) fs cs]=true) :
  PC 185 [rowV l,.func (.func id) fs cs] (.bool (l.any f)):=by
 refine Qd hP g185_ok rfl rfl ?_;unfold g185;refine Yd (c120 l hl id fs cs hp f hc hr) rfl g120_ok.plain hr2 ?_;refine Ya (Yaa ..) ?_;rw[QaH f l 0 (by omega)]
theorem c186(b:Bk)(x:Int):PC 186 [iv x,.rptr [.rptr [cdV b.cards,foV b.formats] 0] 0] (.bool (decide (x<0)||decide ((b.cards.length:Int)≤x))):=by
 refine Qd hP g186_ok rfl rfl ?_;unfold g186;refine Ya (QS ..) ?_;refine YbM (λ_=>rfl) (λ_=>ldr rfl) (λ_=>rfl) (λ_=>rfl) (λ_=>ldr rfl) (v6:=iv b.cards.length) (q6:=[]) (λ_=>by simp[Xh]) (λ_=>Yaa ..) rfl
theorem Ybk(n:Nat)(l:List Int)(most:Int):(!(decide ((l.length:Int)>most)||l.any λx=>decide (x<0)||decide ((n:Int)≤x)))=Xn n l most:=by
 rw[Xn,Bool.not_or,YbF]
 congr 1
 ·rw[Bool.eq_iff_iff]; simp
 ·congr 1; funext x
  rw[Bool.eq_iff_iff]; simp
end Go.Ah.Tz
end
section
namespace Go.Ah.Tz
open Go.Proofs.Tryz (prog)
theorem YbS(f:Int→AVal)(z:AVal)(o:Option Int):lookV true z (o.map f)=.tup [(o.map f).getD z,.bool o.isSome]:=by cases o<;>rfl
theorem Xbt{σ:List ABlk}{b:Nat}{row:List AVal}(h:hget σ b=.box [.rptr row 0])(l:List Int)(id:FuncId):Yr σ 1000 [rowV l,.func (.func id) [] [.bptr b 0]]=some ([rowV l,.func (.func id) [] [.rptr [.rptr row 0] 0]],[b]):=by
 show Yr σ (997+1+1+1) _=_;simp[Yr,h,AVal.ro]
attribute [local irreducible] Ans.rd Ans.pu Ans.wr Ans.dr Ans.gr Ans.gw Ans.gl Ans.gd Ans.opt joinK W
set_option maxHeartbeats 4000000
@[reducible] def bkC(b:Bk):List AVal:=[cdV b.cards,foV b.formats]
theorem Ybf(b:Bk)(l:List Int)(hl:l.length≤big)(most:Int){σ:List ABlk}{b4:Nat}(hb:hget σ b4=.box [.rptr (bkC b) 0]){R K:List ABlk→Prop}(hR:Xn b.cards.length l most=false→∀σ',Old σ σ'→R σ')(hK:Xn b.cards.length l most=true→∀σ',Old σ σ'→K σ') :
  VV.wr (Xe [.nils,(.int .i64 0)] [] σ) σ λt11_62 σ=>VV.wr (Qb 2 [t11_62,.agg [rowV l,iv most]] σ) σ λ_ σ=>
  VV.rd (Za 0 [t11_62] σ) λt88_63=>VV.rd (Qc false 1 [t88_63] σ) λt89_64=>VV.rd (Xf [t89_64] σ) λt90_65=>
  VV.rd (Za 1 [t11_62] σ) λt91_66=>VV.rd (Qc false 1 [t91_66] σ) λt92_67=>VV.rd (Zh .gtr false [t90_65,t92_67] σ) λt93_68=>
  VV.gr t93_68 false (λk=>VV.rd (Za 0 [t11_62] σ) k) λt95_69=>VV.gr t93_68 false (λk=>VV.rd (Qc false 1 [t95_69] σ) k) λt96_70=>
  VV.gr t93_68 false (λk=>VV.rd (Yp (.func 186) 0 [.bptr b4 0] σ) k) λt97_71=>VV.gw t93_68 false (λk=>VV.call (.call 185) [t96_70,t97_71] σ k) σ λt98_72 σ=>
  VV.rd (Zi [t93_68,(.bool true),t98_72] σ) λt99_73=>VV.test t99_73 (R σ) (K σ):=by
 refine Qt (row:=[rowV l,iv most]) rfl rfl rfl ?_;have hB:=Zm σ (ABlk.box [rowV l,iv most]);have hb':hget (σ++[ABlk.box [rowV l,iv most]]) b4=.box [.rptr (bkC b) 0]:=Ym _ hb (by simp);have ho:=Old.app σ [ABlk.box [rowV l,iv most]];generalize σ++[ABlk.box [rowV l,iv most]]=τ at hB hb' ho ⊢;generalize σ.length=c at hB ⊢;refine Ya rfl (Ya (ld hB rfl) (Ya (v:=iv l.length) (rd:=[]) (by simp[Xh]) (Ya rfl (Ya (ld hB rfl) (Ya (QQ ..) ?_)))));refine XbM (d:=l.any λx=>decide (x<0)||decide ((b.cards.length:Int)≤x)) (λ_=>rfl) (λ_=>ld hB rfl) (λ_=>rfl) (λ_ k hk=>?_) ?_
 ·exact Zw (c185 l hl 186 [] [.rptr [.rptr (bkC b) 0] 0] g186_ok.plain (λx=>decide (x<0)||decide ((b.cards.length:Int)≤x)) (λx _=>c186 b x) (λx=>rfl) rfl) rfl g185_ok.plain (Xbt hb' l 186) rfl hk
 have he:=Ybk b.cards.length l most;refine Yc (λh=>hR ?_ _ ho) (λh=>hK ?_ _ ho)
 ·rw[←he,h]; rfl
 ·rw[←he,h]; rfl
theorem Ycj(b:Bk)(next:Int)(u:Th)(met:Bool) :
  (!((((((((met||decide (u.card<0))||decide ((b.cards.length:Int)≤u.card)) || !((b.cards[u.card.toNat]?).getD default).unit)||decide (u.harm<0))||decide (1000000<u.harm))||decide (u.id<1))||decide (next≤u.id))))=(Qu b next u && !met):=by
 rw[Qu];cases met with
 |true=>simp
 |false=>
  by_cases h1:u.card<0
  ·have:¬0≤u.card:=by omega
   simp[h1,this]
  by_cases h2:(b.cards.length:Int)≤u.card
  ·have:¬u.card<b.cards.length:=by omega
   simp[h2,this]
  have e1:0≤u.card:=by omega
  have e2:u.card<b.cards.length:=by omega
  have e3:u.card.toNat<b.cards.length:=by omega
  simp only[h1,h2,e1,e2,decide_true,decide_false,Bool.or_false,Bool.true_and,Bool.not_false,Bool.and_true,Bool.false_or];rw[List.getElem?_eq_getElem e3];simp only[Option.map_some,Option.getD_some];generalize b.cards[u.card.toNat].unit=q;rw[Bool.eq_iff_iff];cases q<;>simp<;>omega
theorem c144(b:Bk)(s:St)(side:Int)(j:Nat)(x:Sd)(hx:SdAt (stC s) j x)(hj:∀σ,Xg 2 8 [.rptr (stC s) (0+7),iv side] σ=.ok (.rptr (stC s) j) [] [])(hs:SdLe 1000000000 x)(ids:List (Int×Int)){m:Nat}{σ:List ABlk}(hm:hget σ m=.map (mpG iv ids)){K:AVal→List ABlk→Prop}
 (hF:(Yk b.cards.length x&&Yq b s.next (ids.map (·.1)) x.units)=false→∀σ',K (.bool false) σ')
 (hT:(Yk b.cards.length x&&Yq b s.next (ids.map (·.1)) x.units)=true→∀σ',Bt m σ σ'→hget σ' m=.map (mpG iv (ids++x.units.map λu=>(u.id,side)))→K (.bool true) σ') :
  g144 VV [.rptr (bkC b) 0,.rptr (stC s) 0,iv side,.map m] σ K:=by
 unfold g144;refine Yh rfl (QO _ _) ?_;have hB:=Zm σ (ABlk.box [.rptr (bkC b) 0]);have hm':hget (σ++[ABlk.box [.rptr (bkC b) 0]]) m=.map (mpG iv ids):=Ym _ hm (by simp);have ho:=Old.app σ [ABlk.box [.rptr (bkC b) 0]];have hml:=Qw hm (by simp);have hne:m≠σ.length:=by omega
 generalize σ++[ABlk.box [.rptr (bkC b) 0]]=τ at hB hm' ho ⊢;generalize σ.length=c at hB hne ⊢;refine Ya rfl (Ya rfl (Ya (hj _) (Ya rfl (Ya rfl (Ya (ldr hx.h0) ?_)))));refine Yd (c57 _) rfl g57_ok.plain rfl (Ya rfl ?_);refine ZbM (λ_=>rfl) (λ_=>rfl) (λ_=>rfl) (λ_=>ldr hx.h1) (λ_=>QS ..) ?_;refine QbM (λ_=>rfl) (λ_=>rfl) (λ_=>rfl) (λ_=>ldr hx.h1) (λ_ k hk=>Yd (c57 _) rfl g57_ok.plain rfl hk) (λ_=>rfl) ?_;refine ZbM (λ_=>rfl) (λ_=>rfl) (λ_=>rfl) (λ_=>ldr hx.h2) (λ_=>QS ..) ?_;refine ZbM (λ_=>rfl) (λ_=>rfl) (λ_=>rfl) (λ_=>ldr hx.h2) (λ_=>QQ ..) ?_;refine Ybj (λ_=>rfl) (λ_=>rfl) (λ_=>rfl) (λ_=>ldr hx.h6) (v5:=iv x.units.length) (q5:=[]) (λ_=>by simp[Xh]) (λ_=>QQ ..) ?_;refine Yc (λh=>hF ?_ _) (λh=>?_)
 ·have:Yk b.cards.length x=false:=by
   rw[Bool.eq_false_iff]; intro hh;simp only[Yk,Bool.and_eq_true,decide_eq_true_eq] at hh;obtain⟨p1,p2,p3,p4,p5,_,_,_,_,p6⟩:=hh;simp only[p1,p3,Bool.not_true,Bool.false_or,Bool.or_false,Bool.or_eq_true,decide_eq_true_eq] at h;omega
  rw[this]; rfl
 simp only[Bool.or_eq_false_iff,Bool.not_eq_false',decide_eq_false_iff_not] at h;obtain⟨⟨⟨⟨⟨p1,p2⟩,p3⟩,p4⟩,p5⟩,p6⟩:=h;have hh:Yk b.cards.length x=(Xn b.cards.length x.deck 60&&(Xn b.cards.length x.hand 10&&(Xn b.cards.length x.grave 1000000&&Xn b.cards.length x.told 1000000))):=by
  have q2:decide (0≤x.mana)=true:=by simp; omega
  have q4:decide (0≤x.most)=true:=by simp; omega
  have q5:decide (x.most≤10)=true:=by simp; omega
  have q6:decide (x.units.length≤7)=true:=by simp; omega
  rw[Yk,p1,p3,q2,q4,q5,q6]; simp
 rw[hh] at hF hT;clear hh p1 p2 p3 p4 p5 p6;refine Ya rfl (Ya rfl (Ya (ldr hx.h3) (Ya rfl (Ya rfl (Ya rfl (Ya (ldr hx.h4) (Ya rfl (Ya rfl (Ya rfl (Ya (ldr hx.h5) (Ya rfl (Ya rfl (Ya rfl (Ya (ldr hx.h7) (Ya rfl (Ya rfl ?_))))))))))))))));have d1:=hs.deck;have d2:=hs.hand;have d3:=hs.grave;have d4:=hs.told;have d5:=hs.units;refine YI 5 (Xm (Ya rfl (Ze (Ya rfl ?_))));refine Ybf b x.deck (by rw[bigE]; omega) 60 hB (λh _ _=>hF (by rw[h]; rfl) _) (λa1 σ1 o1=>Ya rfl (Xm (Ya rfl (Ze (Ya rfl ?_)))));refine Ybf b x.hand (by rw[bigE]; omega) 10 (o1.get hB (by simp)) (λh _ _=>hF (by rw[a1,h]; rfl) _) (λa2 σ2 o2=>Ya rfl (Xm (Ya rfl (Ze (Ya rfl ?_)))))
 replace o2:=o1.trans o2
 refine Ybf b x.grave (by rw[bigE]; omega) 1000000 (o2.get hB (by simp)) (λh _ _=>hF (by rw[a1,a2,h]; rfl) _) (λa3 σ3 o3=>Ya rfl (Xm (Ya rfl (Ze (Ya rfl ?_)))))
 replace o3:=o2.trans o3
 refine Ybf b x.told (by rw[bigE]; omega) 1000000 (o3.get hB (by simp)) (λh _ _=>hF (by rw[a1,a2,a3,h]; rfl) _) (λa4 σ4 o4=>Ya rfl (Xm (Ya rfl (Qh ?_))))
 replace o4:=o3.trans o4
 rw[a1,a2,a3,a4] at hF hT;simp only[Bool.and_self,Bool.true_and] at hF hT;have hB4:=o4.get hB (by simp);have hm4:=o4.get hm' (by simp);have oo:=ho.trans o4;clear o1 o2 o3 o4 ho hB hm' hm;refine Ya rfl (Ya rfl (Ya (ldr hx.h6) (Ya (v:=iv x.units.length) (rd:=[]) (by simp[Xh]) ?_)));refine Zk (ι:=Nat) (λi vs τ=>vs=[iv i]∧i≤x.units.length∧hget τ c=.box [.rptr (bkC b) 0]∧hget τ m=.map (mpG iv (ids++(x.units.take i).map λu=>(u.id,side)))∧Bt m σ τ∧Yq b s.next (ids.map (·.1)) x.units=Yq b s.next ((ids++(x.units.take i).map λu=>(u.id,side)).map (·.1)) (x.units.drop i)) (λi=>x.units.length-i) 0
  ⟨rfl,by omega,hB4,by simpa using hm4,⟨oo.1,λc hc _=>oo.2 c hc⟩,by simp⟩ ?_
 clear hB4 hm4 oo;rintro i vs τ1 again ⟨rfl,hi,hB,hm,hbt,hr⟩ hag;refine Ya rfl (Yc (λh=>?_) (λh=>?_));rotate_left
 ·have h:i=x.units.length:=by simp at h; omega
  subst h;rw[List.drop_length,Yq] at hr;rw[List.take_length] at hm;exact hT hr _ hbt hm
 have h:i<x.units.length:=by simpa using h
 have hix:=λ(s:List ABlk)=>Zp s thC false false 4 x.units .i64 i h;have htk:=Zu _ _ h;rw[YLD h,Yq] at hr;generalize x.units[i]=u at hix htk hr;generalize hq:ids++(x.units.take i).map (λu=>(u.id,side))=cur at hm hr;have hcur:ids++(x.units.take (i+1)).map (λu=>(u.id,side))=cur++[(u.id,side)]:=by rw[htk,List.map_append,←List.append_assoc,hq]; rfl
 refine Ya (hix _) (Ya (ldr rfl) (Qt (row:=thC u) (row':=thC u) rfl rfl rfl ?_));have hU:=Zm τ1 (ABlk.box (thC u));have hB':hget (τ1++[ABlk.box (thC u)]) c=.box [.rptr (bkC b) 0]:=Ym _ hB (by simp);have hm':hget (τ1++[ABlk.box (thC u)]) m=.map (mpG iv cur):=Ym _ hm (by simp);have hml':=Qw hm' (by simp);have hbt':Bt m σ (τ1++[ABlk.box (thC u)]):=hbt.trans (Bt.gr m (Old.app _ _).1 (Old.app _ _).2);generalize τ1++[ABlk.box (thC u)]=τ2 at hU hB' hm' hml' hbt' ⊢;generalize τ1.length=d at hU ⊢;refine Ya rfl (Ya (ld hU rfl) (Ya (Ya3 iv _ _ hm' _) ?_));rw[YbS];refine Ya rfl (Ya rfl ?_);refine QaX (λ_=>rfl) (λ_=>ld hU rfl) (λ_=>QS ..) ?_;refine Xcr (λ_=>rfl) (λ_=>ld hU rfl) (λ_=>ld hB' rfl) (λ_=>rfl) (λ_=>rfl) (λ_=>ldr rfl) (v7:=iv b.cards.length) (q7:=[]) (λ_=>by simp[Xh]) (λ_=>Yaa ..) ?_;refine Xcg (d:=!((b.cards[u.card.toNat]?).getD default).unit) (λ_=>ld hB' rfl) (λ_=>rfl) (λ_=>rfl) (λ_=>ldr rfl) (λ_=>rfl) (λ_=>ld hU rfl) (v7:=.rptr (cdC ((b.cards[u.card.toNat]?).getD default)) 0) (q7:=[]) (λhc=>?_) (λ_=>rfl) (λ_=>ldr (cdLd1 _)) (λ_=>rfl) ?_
 ·simp only[Bool.or_eq_false_iff,decide_eq_false_iff_not] at hc;have e3:u.card.toNat<b.cards.length:=by omega
  rw[List.getElem?_eq_getElem e3];exact XaG _ cdC _ _ _ b.cards _ u.card (by omega) e3
 refine QaX (λ_=>rfl) (λ_=>ld hU rfl) (λ_=>QS ..) ?_;refine QaX (λ_=>rfl) (λ_=>ld hU rfl) (λ_=>QQ ..) ?_;refine QaX (λ_=>rfl) (λ_=>ld hU rfl) (λ_=>QS ..) ?_;refine YbM (λ_=>rfl) (λ_=>ld hU rfl) (λ_=>rfl) (λ_=>rfl) (λ_=>rfl) (v6:=iv s.next) (q6:=[]) (λ_=>ldr rfl) (λ_=>Yaa ..) ?_;have hue:=Ycj b s.next u (ilook u.id cur).isSome;have hk:=Yad u.id cur;refine Yc (λh2=>hF ?_ _) (λh2=>?_)
 ·rw[h2] at hue;rw[hr,←hk];have hue:(Qu b s.next u && !(ilook u.id cur).isSome)=false:=hue.symm;cases h5:Qu b s.next u with
  |false=>rfl
  |true=>
   rw[h5] at hue;have:(ilook u.id cur).isSome=true:=by simpa using hue
   rw[this]; rfl
 ·rw[h2] at hue;have hue:(Qu b s.next u && !(ilook u.id cur).isSome)=true:=hue.symm;simp only[Bool.and_eq_true,Bool.not_eq_true'] at hue;have hnone:ilook u.id cur=none:=by
   have:=hue.2;cases h5:ilook u.id cur with
   |none=>rfl
   |some v=>rw[h5] at this; cases this
  rw[hue.1,←hk,hue.2,Bool.not_false,Bool.true_and,Bool.true_and] at hr;refine Ya rfl (Ya (ld hU rfl) (Yh (Zb5 iv hm' _ side hnone) (Xu _ hml') (Ya (Ql ..) ?_)));rw[Zg (n:=i) (by omega)];refine hag (i+1) _ _ (by omega) ⟨rfl,by omega,Yu hB' (by simp) (λe=>hne e),?_,hbt'.trans ⟨by simp,λc hc hne=>Qx _ hc hne⟩,?_⟩
  ·rw[hcur]; exact Qr _ hml'
  ·rw[hcur,hr,List.map_append]; rfl
end Go.Ah.Tz
end
section
namespace Go.Ah.Tz
open Go.Proofs.Tryz (prog)
theorem XaI(k:Int)(a:Int):∀l:List Th,ilook a (l.map λu=>(u.id,k))=(fnd l a).map λ_=>k
 |[]=>rfl
 |u::l=>by
  have:=XaI k a l;simp only[List.map_cons,ilook,fnd,List.findIdx?_cons];by_cases h:u.id=a
  ·have h2:(a==u.id)=true:=by simp[h]
   simp[h]
  ·have h2:(a==u.id)=false:=by simp; exact λe=>h e.symm
   simp only[h2,Bool.false_eq_true,if_false,decide_eq_false h,this,fnd,Option.map_map];rfl
theorem YbD(s:St)(a:Int):ilook a (s.s0.units.map (λu=>(u.id,(0:Int)))++s.s1.units.map (λu=>(u.id,(1:Int))))=if (unitR s a).2.2=true then some (unitR s a).1 else none:=by
 rw[Qag,XaI,XaI,unitR];cases fnd s.s0.units a with
 |some k=>rfl
 |none=>cases fnd s.s1.units a<;>rfl
attribute [local irreducible] Ans.rd Ans.pu Ans.wr Ans.dr Ans.gr Ans.gw Ans.gl Ans.gd Ans.opt joinK W
set_option maxHeartbeats 4000000
theorem bkLd(b:Bk):partA true 0 2 (bkC b)=some (bkV b):=rfl
theorem Xr{e:Int}{b:Bk}{s:St}{bare:Bool}(h:mayR e b s bare=true):e=0∧1≤s.turn∧s.turn≤4096∧0≤s.mover∧s.mover≤1∧0≤s.phase∧s.phase≤2∧0≤s.result∧s.result≤3∧((s.result==0)==(s.phase != 2))=true∧1≤s.next∧s.next≤1000000∧s.attack.length≤7:=by
 simp only[mayR,Bool.and_eq_true,decide_eq_true_eq] at h;obtain⟨h1,h2,h3,h4,h5,h6,h7,h8,h9,h10,h11,h12,h13,h14⟩:=h;refine⟨h1,h2,h3,h4,h5,h6,h7,h8,h9,h10,h11,h12,?_⟩;by_cases hp:s.phase≠1
 ·rw[if_pos hp] at h14; simp at h14; simp[h14]
 ·rw[if_neg hp] at h14; simp at h14; exact h14.2.2.1
theorem ZbD(o:Option Int):lookV true (iv 0) (o.map iv)=.tup [iv (o.getD 0),.bool o.isSome]:=by cases o<;>rfl
theorem QbC(o:Option Bool):lookV false (.bool false) (o.map AVal.bool)=.bool (o.getD false):=by cases o<;>rfl
theorem Zbf(t:Int):∀l:List Int,(ilook t (l.map λa=>(a,true))).getD false=l.contains t
 |[]=>rfl
 |a::l=>by
  simp only[List.map_cons,ilook,List.contains_cons];cases h:t==a with
  |true=>rfl
  |false=>simp only[Bool.false_eq_true,if_false,Bool.false_or]; exact Zbf t l
theorem c111(b:Bk)(hf:bkFit b=true)(hsm:QG b.cards)(s:St)(hs:StLe 1000000000 s)(bare:Bool):PC 111 [.rptr (bkC b) 0,.rptr (stC s) 0,.bool bare] (.bool (mayR (bkR b).1 b s bare)):=by
 have h143:=c143 b hf hsm;generalize (bkR b).1=e at h143 ⊢;generalize (bkR b).2=ep at h143;have hat:=hs.attack;refine Qd hP g111_ok rfl rfl ?_;unfold g111;refine Ya rfl (Ya rfl (Ya (ldr rfl) (Ya (QS ..) ?_)));refine Qj λk4 hk4=>?_;have kbad:(mayR e b s bare=true→False)→k4 [.bool true] []:=by
  intro h; rw[hk4]; refine Ze ?_;rw[Bool.eq_false_iff.2 (λhm=>h hm)]
 apply cutF (R:=k4 [.bool false] []) (1≤s.turn∧s.turn≤4096∧0≤s.mover∧s.mover≤1∧0≤s.phase∧s.phase≤2∧0≤s.result∧s.result≤3∧((s.result==0)==(s.phase != 2))=true∧1≤s.next∧s.next≤1000000∧s.attack.length≤7∧e=0)
 ·intro hR;clear hk4;refine Yc (λh=>by rw[h]; exact kbad (λhm=>by have:=Xr hm; simp at h; omega)) (λb1=>Ya rfl (Ya rfl (Ya (ldr rfl) (Ya (QQ ..) ?_))));refine Yc (λh=>by rw[h]; exact kbad (λhm=>by have:=Xr hm; simp at h; omega)) (λb2=>Ya rfl (Ya rfl (Ya (ldr rfl) (Ya (QS ..) ?_))));refine Yc (λh=>by rw[h]; exact kbad (λhm=>by have:=Xr hm; simp at h; omega)) (λb3=>Ya rfl (Ya rfl (Ya (ldr rfl) (Ya (QQ ..) ?_))));refine Yc (λh=>by rw[h]; exact kbad (λhm=>by have:=Xr hm; simp at h; omega)) (λb4=>Ya rfl (Ya rfl (Ya (ldr rfl) (Ya (QS ..) ?_))));refine Yc (λh=>by rw[h]; exact kbad (λhm=>by have:=Xr hm; simp at h; omega)) (λb5=>Ya rfl (Ya rfl (Ya (ldr rfl) (Ya (QQ ..) ?_))));refine Yc (λh=>by rw[h]; exact kbad (λhm=>by have:=Xr hm; simp at h; omega)) (λb6=>Ya rfl (Ya rfl (Ya (ldr rfl) (Ya (QS ..) ?_))));refine Yc (λh=>by rw[h]; exact kbad (λhm=>by have:=Xr hm; simp at h; omega)) (λb7=>Ya rfl (Ya rfl (Ya (ldr rfl) (Ya (QQ ..) ?_))));refine Yc (λh=>by rw[h]; exact kbad (λhm=>by have:=Xr hm; simp at h; omega)) (λb8=>Ya rfl (Ya rfl (Ya (ldr rfl) (Ya (Qe ..) (Ya rfl (Ya rfl (Ya (ldr rfl) (Ya (Yak ..) (Ya (Qcn ..) ?_)))))))));have hx:(!(decide (s.result=0)==decide (s.phase≠2))) = !((s.result==0)==(s.phase != 2)):=by
   congr 1
   have e1:decide (s.result=0)=(s.result==0):=by rw[Bool.eq_iff_iff]; simp
   have e2:decide (s.phase≠2)=(s.phase != 2):=by rw[Bool.eq_iff_iff]; simp
   rw[e1,e2]
  rw[hx];refine Yc (λh=>by rw[h]; exact kbad (λhm=>by have:=(Xr hm).2.2.2.2.2.2.2.2.2.1; rw[this] at h; cases h)) (λb9=>Ya rfl (Ya rfl (Ya (ldr rfl) (Ya (QS ..) ?_))));refine Yc (λh=>by rw[h]; exact kbad (λhm=>by have:=Xr hm; simp at h; omega)) (λb10=>Ya rfl (Ya rfl (Ya (ldr rfl) (Ya (QQ ..) ?_))));refine Yc (λh=>by rw[h]; exact kbad (λhm=>by have:=Xr hm; simp at h; omega)) (λb11=>Ya rfl (Ya rfl (Ya (ldr rfl) (Ya (v:=iv s.attack.length) (rd:=[]) (by simp[Xh]) (Ya (QQ ..) ?_)))));refine Yc (λh=>by rw[h]; exact kbad (λhm=>by have:=Xr hm; simp at h; omega)) (λb12=>Ya rfl (Ya (ldr (bkLd b)) ?_));refine Yd h143 rfl g143_ok.plain rfl (Ya rfl (Ya (Yak ..) ?_));by_cases he:e=0
  ·rw[show decide (e≠0)=false by simp[he]];simp at b1 b2 b3 b4 b5 b6 b7 b8 b10 b11 b12;exact hR ⟨by omega,by omega,by omega,by omega,by omega,by omega,by omega,by omega,by simpa using b9,by omega,by omega,by omega,he⟩
  ·rw[show decide (e≠0)=true by simp[he]];exact kbad (λhm=>he (Xr hm).1)
 rintro⟨p1,p2,p3,p4,p5,p6,p7,p8,p9,p10,p11,p12,p13⟩;rw[hk4]; clear hk4 kbad k4;have hmay:mayR e b s bare=(Zs b s&&(if s.phase≠1 then decide (s.attack.length=0) else !(decide (s.attack.length=0) && !bare)&&(s.struck&&attOk s [] s.attack))):=by
  rw[mayR,decide_eq_true p13,decide_eq_true p1,decide_eq_true p2,decide_eq_true p3,decide_eq_true p4,decide_eq_true p5,decide_eq_true p6,decide_eq_true p7,decide_eq_true p8,p9,decide_eq_true p10,decide_eq_true p11,decide_eq_true p12];rfl
 rw[hmay]; clear hmay h143 p1 p2 p3 p4 p5 p6 p7 p8 p9 p10 p11 p13;have w1:IntKind.i64.wrap (0+1)=1:=by decide
 have w2:IntKind.i64.wrap (1+1)=2:=by decide
 refine Qh (Yh rfl rfl (YI 3 (Xm (Ya rfl (Ze ?_)))));refine Yy hP rfl g144_ok rfl (c144 b s 0 7 s.s0 (sdAt0 s) (λ_=>rfl) hs.s0 [] (by rfl) (λh σ1=>?_) (λh σ1 t1 m1=>?_))
 ·refine Ya rfl (Ze ?_);have h:(Yk b.cards.length s.s0&&Yq b s.next [] s.s0.units)=false:=h;have:Zs b s=false:=by
   rw[Zs,←Bool.and_assoc,h]; rfl
  rw[this]; rfl
 refine Ya rfl (Qh (Ya rfl ?_));rw[w1];refine Xm (Ya rfl (Ze ?_));refine Yy hP rfl g144_ok rfl (c144 b s 1 15 s.s1 (sdAt1 s) (λ_=>rfl) hs.s1 _ m1 (λh2 σ2=>?_) (λh2 σ2 t2 m2=>?_))
 ·refine Ya rfl (Ze ?_);have e0:(([]++s.s0.units.map λu=>(u.id,(0:Int))):List (Int×Int)).map (·.1)=s.s0.units.map Th.id:=by simp[Function.comp_def]
  rw[e0] at h2;have:Zs b s=false:=by
   rw[Zs,h2]; simp
  rw[this]; rfl
 have hso:Zs b s=true:=by
  have e0:(([]++s.s0.units.map λu=>(u.id,(0:Int))):List (Int×Int)).map (·.1)=s.s0.units.map Th.id:=by simp[Function.comp_def]
  rw[e0] at h2;have h:(Yk b.cards.length s.s0&&Yq b s.next [] s.s0.units)=true:=h;rw[Zs,←Bool.and_assoc,h,h2]; rfl
 rw[hso,Bool.true_and];clear hso h h2 m1 t1 t2;refine Ya rfl (Qh (Ya rfl ?_));rw[w2];refine Xm (Ya rfl (Qh (Ya rfl (Ya rfl (Ya (ldr rfl) (Ya (Yak ..) ?_))))));refine Yc (λhp=>?_) (λhp=>?_)
 ·have hp:s.phase≠1:=by simpa using hp
  rw[if_pos hp];refine Ya rfl (Ya rfl (Ya (ldr rfl) (Ya (v:=iv s.attack.length) (rd:=[]) (by simp[Xh]) (Ya (Qe ..) ?_))))
  congr 1
  rw[Bool.eq_iff_iff]; simp
 have hp:¬s.phase≠1:=by simpa using hp
 rw[if_neg hp];refine Yh rfl (QO _ _) (Ya rfl (Ya rfl (Ya (ldr rfl) (Ya (v:=iv s.attack.length) (rd:=[]) (by simp[Xh]) ?_))));have hnew:hget (σ2++[ABlk.map []]) σ2.length=.map (mpG AVal.bool (([]:List Int).map λa=>(a,true))):=Zm _ _;have hold:=Ym [ABlk.map []] m2 (by simp);have hne:σ2.length≠0:=by have:=Qw m2 (by simp); omega
 generalize σ2++[ABlk.map []]=τ at hnew hold ⊢;generalize σ2.length=mb at hnew hne ⊢;refine Zk (ι:=Nat) (λi vs τ=>vs=[iv i]∧i≤s.attack.length∧hget τ 0=.map (mpG iv (([]++s.s0.units.map λu=>(u.id,(0:Int)))++s.s1.units.map λu=>(u.id,(1:Int))))∧hget τ mb=.map (mpG AVal.bool ((s.attack.take i).map λa=>(a,true)))∧attOk s [] s.attack=attOk s (s.attack.take i) (s.attack.drop i)) (λi=>s.attack.length-i) 0
  ⟨rfl,by omega,hold,by simpa using hnew,by simp⟩ ?_
 clear hnew hold m2;rintro i vs τ1 again ⟨rfl,hi,hm0,hmb,hr⟩ hag;refine Ya rfl (Yc (λh=>?_) (λh=>?_));rotate_left
 ·have h:i=s.attack.length:=by simp at h; omega
  subst h;rw[List.drop_length,attOk] at hr;rw[hr,Bool.and_true];refine Ya rfl (Ya rfl (Ya (ldr rfl) ?_));cases hst:s.struck with
  |false=>
   refine Yb rfl (Yb rfl (Xc rfl (Xc rfl (Xc rfl (Xc rfl (Xc rfl (Xc rfl (Yb rfl (Ya rfl ?_)))))))));simp
  |true=>
   refine Xa (Ya rfl (Xa (Ya rfl ?_)));cases bare with
   |true=>
    refine Yb rfl (Yb rfl (Yb rfl (Yb rfl (Yb rfl (Yb rfl (Xa (Ya rfl (Ya rfl ?_))))))));simp
   |false=>
    refine Xa (Ya rfl (Xa (Ya rfl (Xa (Ya rfl (Xa (Ya (ldr rfl) (Xa (Ya (v:=iv s.attack.length) (rd:=[]) (by simp[Xh]) (Xa (Ya (QQ ..) (Xa (Ya rfl (Ya rfl ?_))))))))))))));show AVal.bool _=_
    congr 1
    rw[Bool.eq_iff_iff];simp[List.length_pos_iff]
 have h:i<s.attack.length:=by simpa using h
 have htk:=Zu _ _ h;rw[YLD h,attOk] at hr;refine Ya (Zp _ cel _ _ _ s.attack _ i h) (Ya (ldr rfl) (Ya (Ya3 iv _ _ hm0 _) ?_));rw[ZbD,List.nil_append,YbD];generalize s.attack[i]=a at htk hr ⊢;generalize ho:(if (unitR s a).2.2=true then some (unitR s a).1 else none)=o;have ho1:o.isSome=(unitR s a).2.2:=by rw[←ho]; cases (unitR s a).2.2<;>rfl
 have ho2:(unitR s a).2.2=true→o.getD 0=(unitR s a).1:=by intro q; rw[←ho,if_pos q]; rfl
 refine Ya rfl (Ya rfl (Ya rfl ?_));refine Ybj (λ_=>rfl) (λ_=>rfl) (λ_=>rfl) (λ_=>rfl) (λ_=>ldr rfl) (λ_=>Yak ..) ?_;refine QaX (d:=(ilook a ((s.attack.take i).map λa=>(a,true))).getD false) (λ_=>rfl) (λ_=>rfl) (λ_=>by rw[Ya3 AVal.bool _ _ hmb,QbC]) ?_;have hmet:=Zbf a (s.attack.take i);refine Yc (λh2=>?_) (λh2=>?_)
 ·have:attOk s [] s.attack=false:=by
   rw[hr,Bool.eq_false_iff]; intro q;simp only[Bool.and_eq_true,decide_eq_true_eq,Bool.not_eq_true'] at q;obtain⟨⟨q1,q2⟩,q3,q4⟩:=q;rw[ho1,ho2 q1,q1,q2,hmet,q3] at h2;simp at h2
  rw[this]; simp
 ·simp only[Bool.or_eq_false_iff,Bool.not_eq_false',decide_eq_false_iff_not,Decidable.not_not] at h2;obtain⟨⟨q1,q2⟩,q3⟩:=h2;rw[ho1] at q1;rw[ho2 q1] at q2;have hnone:ilook a ((s.attack.take i).map λa=>(a,true))=none:=by
   have:=Yad a ((s.attack.take i).map λa=>(a,true));simp only[List.map_map,Function.comp_def,List.map_id'] at this;rw[←hmet,q3] at this;cases h5:ilook a ((s.attack.take i).map λa=>(a,true)) with
   |none=>rfl
   |some v=>rw[h5] at this; cases this
  rw[hmet] at q3;rw[q1,q2,q3] at hr;have hml:=Qw hmb (by simp);refine Yh (Zb5 AVal.bool hmb a true hnone) (Xu _ hml) (Ya (Ql ..) ?_);rw[Zg (n:=i) (by omega)];refine hag (i+1) _ _ (by omega) ⟨rfl,by omega,Yu hm0 (by simp) (λe=>hne e),?_,?_⟩
  ·rw[htk,List.map_append]; exact Qr _ hml
  ·rw[htk,hr]; simp
end Go.Ah.Tz
end
section
namespace Go.Ah.Tz
open Go.Proofs.Tryz (prog)
def RI(σ:List ABlk)(rd:List Nat)(v:AVal)(l:List Int):Prop:=Bor (hp σ) rd v (rowV l)
def RT(σ:List ABlk)(rd:List Nat)(v:AVal)(l:List Th):Prop:=Bor (hp σ) rd v (thV l)
theorem Xck:∀ {l:List Int},∀r∈l.map cel,roL r=true:=by
 intro l r hr;obtain⟨x,_,rfl⟩:=List.mem_map.1 hr; rfl
theorem th_ro:∀ {l:List Th},∀r∈l.map thC,roL r=true:=by
 intro l r hr;obtain⟨x,_,rfl⟩:=List.mem_map.1 hr; rfl
theorem RI.own{σ:List ABlk}{rd:List Nat}{b:Nat}{ex:Bool}{l:List Int}{n:Nat}(hb:hget σ b=.rows 1 (l.map cel))(hin:b∈rd)(hn:n=l.length):RI σ rd (.sl b 0 n ex) l:=
 Bor.own hb hin (by simp[hn]) (ZaO _ _ (by simp[hn])) Xck
theorem RI.nils{σ:List ABlk}{rd:List Nat}:RI σ rd .nils []:=Bor.weak (Bor.ro rfl) (λM u d=>d.nils_rsl 1)
theorem RT.nils{σ:List ABlk}{rd:List Nat}:RT σ rd .nils []:=Bor.weak (Bor.ro rfl) (λM u d=>d.nils_rsl 4)
theorem RT.own{σ:List ABlk}{rd:List Nat}{b:Nat}{ex:Bool}{l:List Th}{n:Nat}(hb:hget σ b=.rows 4 (l.map thC))(hin:b∈rd)(hn:n=l.length):RT σ rd (.sl b 0 n ex) l:=
 Bor.own hb hin (by simp[hn]) (ZaO _ _ (by simp[hn])) th_ro
@[reducible] def stQ(s:St)(a d0 h0 g0 u0 t0 d1 h1 g1 u1 t1:AVal):List AVal:=[iv s.turn,iv s.mover,iv8 s.phase,.bool s.struck,iv8 s.result,a,iv s.next,
 iv s.s0.life,iv s.s0.mana,iv s.s0.most,d0,h0,g0,u0,t0,iv s.s1.life,iv s.s1.mana,iv s.s1.most,d1,h1,g1,u1,t1]
def SB(σ:List ABlk)(rd:List Nat)(cs:List AVal)(s:St):Prop:=BorL (hp σ) rd cs (stC s)
theorem SB.mk{σ:List ABlk}{rd:List Nat}{s:St}{a d0 h0 g0 u0 t0 d1 h1 g1 u1 t1:AVal}(x1:RI σ rd a s.attack)(x2:RI σ rd d0 s.s0.deck)(x3:RI σ rd h0 s.s0.hand)(x4:RI σ rd g0 s.s0.grave)(x5:RT σ rd u0 s.s0.units)(x6:RI σ rd t0 s.s0.told)
 (y2:RI σ rd d1 s.s1.deck)(y3:RI σ rd h1 s.s1.hand)(y4:RI σ rd g1 s.s1.grave)(y5:RT σ rd u1 s.s1.units)(y6:RI σ rd t1 s.s1.told):SB σ rd (stQ s a d0 h0 g0 u0 t0 d1 h1 g1 u1 t1) s:=
 .cons (Bor.ro rfl) <| .cons (Bor.ro rfl) <| .cons (Bor.ro rfl) <| .cons (Bor.ro rfl) <| .cons (Bor.ro rfl) <| .cons x1 <| .cons (Bor.ro rfl) <| .cons (Bor.ro rfl) <| .cons (Bor.ro rfl) <| .cons (Bor.ro rfl) <| .cons x2 <| .cons x3 <| .cons x4 <| .cons x5 <| .cons x6 <|
 .cons (Bor.ro rfl) <| .cons (Bor.ro rfl) <| .cons (Bor.ro rfl) <| .cons y2 <| .cons y3 <| .cons y4 <| .cons y5 <| .cons y6 .nil
def zSd:Sd:=⟨0,0,0,[],[],[],[],[]⟩
def zSt:St:=⟨0,0,0,false,0,[],0,zSd,zSd⟩
theorem SB.zero{σ:List ABlk}{rd:List Nat}:SB σ rd (stQ zSt .nils .nils .nils .nils .nils .nils .nils .nils .nils .nils .nils) zSt:=SB.mk .nils .nils .nils .nils .nils .nils .nils .nils .nils .nils .nils
structure Ev where
 kind:Int
 side:Int
 card:Int
 id:Int
 other:Int
 n:Int
 cards:List Int
 deriving DecidableEq,Inhabited
theorem SdLe.mono{n m:Nat}{s:Sd}(h:SdLe n s)(k:n≤m):SdLe m s:=⟨Nat.le_trans h.1 k,Nat.le_trans h.2 k,Nat.le_trans h.3 k,Nat.le_trans h.4 k,Nat.le_trans h.5 k⟩
theorem StLe.mono{n m:Nat}{s:St}(h:StLe n s)(k:n≤m):StLe m s:=⟨Nat.le_trans h.1 k,h.2.mono k,h.3.mono k⟩
def St.side(s:St)(k:Int):Sd:=if k=0 then s.s0 else s.s1
def St.put(s:St)(k:Int)(d:Sd):St:=if k=0 then { s with s0:=d } else { s with s1:=d }
@[reducible] def zStC:List AVal:=stQ zSt .nils .nils .nils .nils .nils .nils .nils .nils .nils .nils .nils
end Go.Ah.Tz
end
section
namespace Go.Ah.Tz
open Go.Proofs.Tryz (prog)
attribute [local irreducible] Ans.rd Ans.pu Ans.wr Ans.dr Ans.gr Ans.gw Ans.gl Ans.gd Ans.opt joinK W
set_option maxHeartbeats 4000000
theorem c118(l:List Th)(hl:l.length≤1000000000)(id:FuncId)(fs cs:List AVal)(hp:Qm prog id=true)(f:Th→Bool)(hc:∀x∈l,PC id (fs++[.agg (thC x)]++cs) (.bool (f x)))(hr:∀x,roL (fs++[.agg (thC x)]++cs)=true) :
  PC 118 [thV l,.func (.func id) fs cs] (iv (idxF f l 0)):=by
 refine Qd hP g118_ok rfl rfl ?_;unfold g118;refine Ya (v:=iv l.length) (rd:=[]) (by simp[Xh]) ?_;refine Zk (ι:=Nat) (λi vs s=>vs=[iv i]∧i≤l.length∧idxF f l 0=idxF f (l.drop i) i) (λi=>l.length-i) 0 ⟨rfl,by omega,by simp⟩ ?_;rintro i vs s again ⟨rfl,hi,hr'⟩ hag;refine Ya rfl (Yc (λh=>?_) (λh=>?_))
 ·have h:i<l.length:=by simpa using h
  refine Ya (Zp _ thC _ _ _ l _ i h) (Ya (ldr rfl) ?_);refine Yd (hc _ (List.getElem_mem h)) rfl hp (hr _) ?_;rw[YLD h,idxF] at hr';refine Yc (λh2=>?_) (λh2=>?_)
  ·rw[if_pos h2] at hr'; rw[hr']; rfl
  ·rw[if_neg (by rw[h2]; simp)] at hr';refine Ya (Ql ..) ?_;rw[Zg (n:=i) (by omega)];exact hag (i+1) _ _ (by omega) ⟨rfl,by omega,by rw[hr']; push_cast; rfl⟩
 ·have h:i=l.length:=by simp at h; omega
  subst h;rw[List.drop_length,idxF] at hr';rw[hr']
theorem c119(u:Th)(id:Int):PC 119 [.agg (thC u),.rptr [iv id] 0] (.bool (decide (u.id=id))):=by
 refine Qd hP g119_ok rfl rfl ?_;unfold g119;exact Yh rfl rfl (Ya rfl (Ya (ld rfl rfl) (Ya rfl (Ya (Qe ..) rfl))))
theorem Xbe(id:Int):∀(l:List Th) (n:Int),idxF (λu:Th=>decide (u.id=id)) l n=match fnd l id with
  |some k=>n+k
  |none=>-1
 |[],n=>rfl
 |u::l,n=>by
  have ih:=Xbe id l (n+1);simp only[idxF,fnd,List.findIdx?_cons] at ih ⊢;by_cases h:u.id=id
  ·simp[h]
  ·simp only[decide_eq_false h,Bool.false_eq_true,if_false,ih];cases List.findIdx? (λu=>decide (u.id=id)) l with
   |none=>rfl
   |some k=>show n+1+(k:Int)=n+((k+1:Nat):Int); omega
theorem c71(s:St)(hs:StLe 1000000000 s)(id:Int):PC 71 [stV s,iv id] (unitV s id):=by
 have h0:=c118 s.s0.units hs.s0.units 119 [] [.rptr [iv id] 0] g119_ok.plain (λu=>decide (u.id=id)) (λx _=>c119 x id) (λx=>rfl);have h1:=c118 s.s1.units hs.s1.units 119 [] [.rptr [iv id] 0] g119_ok.plain (λu=>decide (u.id=id)) (λx _=>c119 x id) (λx=>rfl);have w1:IntKind.i64.wrap (0+1)=1:=by decide
 have w2:IntKind.i64.wrap (1+1)=2:=by decide
 rw[Xbe] at h0 h1;refine Qd hP g71_ok rfl rfl ?_;unfold g71;refine Yh rfl rfl (Yh rfl rfl ?_);refine YI 3 (Xm ?_);refine Ya rfl (Ze (Ya rfl (Ya rfl (Ya rfl (Ya rfl (Ya rfl ?_))))));refine Zw h0 rfl g118_ok.plain rfl rfl ?_;simp only[unitV,unitR];cases q0:fnd s.s0.units id with
 |some k=>
  simp only[q0];refine Ya (Yaa ..) ?_;rw[decide_eq_true (by omega)];exact Ze (by simp)
 |none=>
  simp only[q0];refine Ya rfl (Qh (Ya rfl ?_));rw[w1];refine Xm ?_;refine Ya rfl (Ze (Ya rfl (Ya rfl (Ya rfl (Ya rfl (Ya rfl ?_))))));refine Zw h1 rfl g118_ok.plain rfl rfl ?_;cases q1:fnd s.s1.units id with
  |some k=>
   simp only[q1];refine Ya (Yaa ..) ?_;rw[decide_eq_true (by omega)];exact Ze (by simp)
  |none=>
   simp only[q1];refine Ya rfl (Qh (Ya rfl ?_));rw[w2];refine Xm ?_;exact Ya rfl (Qh (by simp))
theorem c15(s:St):∃q:Bool,PC 15 [stV s] (.bool q):=by
 apply Exists.intro;refine Qd hP g15_ok rfl rfl ?_;unfold g15;refine Yh rfl rfl (Ya rfl (Ya rfl (Ya (v:=iv s.attack.length) (rd:=[]) (by simp[Xh]) ?_)));have w1:IntKind.i64.wrap (0+1)=1:=by decide
 have w2:IntKind.i64.wrap (1+1)=2:=by decide
 refine YI 3 (Xm ?_);refine Ya rfl (Ze ?_);refine Ya rfl (Ya rfl (Ya rfl (Yh rfl rfl (Yh rfl rfl ?_))));refine Ya rfl (Ya rfl (Ya (v:=iv s.s0.deck.length) (rd:=[]) (by simp[Xh]) ?_));refine Ya rfl (Ya rfl (Ya (v:=iv s.s0.hand.length) (rd:=[]) (by simp[Xh]) (Ya (Ql ..) ?_)));refine Ya rfl (Ya rfl (Ya (v:=iv s.s0.grave.length) (rd:=[]) (by simp[Xh]) (Ya (Ql ..) ?_)));refine Ya rfl (Ya rfl (Ya (v:=iv s.s0.units.length) (rd:=[]) (by simp[Xh]) (Ya (Ql ..) ?_)));refine Ya rfl (Ya rfl (Ya (v:=iv s.s0.told.length) (rd:=[]) (by simp[Xh]) (Ya (Ql ..) ?_)));refine Ya (Ql ..) (Ya rfl ?_);rw[w1];refine Xm ?_;refine Ya rfl (Ze ?_);refine Ya rfl (Ya rfl (Ya rfl (Yh rfl rfl (Yh rfl rfl ?_))));refine Ya rfl (Ya rfl (Ya (v:=iv s.s1.deck.length) (rd:=[]) (by simp[Xh]) ?_));refine Ya rfl (Ya rfl (Ya (v:=iv s.s1.hand.length) (rd:=[]) (by simp[Xh]) (Ya (Ql ..) ?_)));refine Ya rfl (Ya rfl (Ya (v:=iv s.s1.grave.length) (rd:=[]) (by simp[Xh]) (Ya (Ql ..) ?_)));refine Ya rfl (Ya rfl (Ya (v:=iv s.s1.units.length) (rd:=[]) (by simp[Xh]) (Ya (Ql ..) ?_)));refine Ya rfl (Ya rfl (Ya (v:=iv s.s1.told.length) (rd:=[]) (by simp[Xh]) (Ya (Ql ..) ?_)));refine Ya (Ql ..) (Ya rfl ?_);rw[w2];refine Xm ?_;exact Ya rfl (Qh (Ya (QQ ..) rfl))
theorem c52(cs:List Cd)(hf:QC cs=true)(σ:List ABlk)(K:AVal→List ABlk→Prop)(hK:∀q,K (.bool q) σ):g52 VV [cdV cs] σ K:=by
 simp only[QC,Bool.and_eq_true,decide_eq_true_eq] at hf;obtain⟨f0,f1⟩:=hf;rw[bigE] at f0;have hlen:∀τ,Xf [cdV cs] τ=.ok (iv cs.length) [] []:=λτ=>by simp[Xh]
 unfold g52;refine Ya (hlen _) ?_;refine Zk (ι:=Nat) (λi vs τ=>(∃a:Int,vs=[iv i,iv a])∧τ=σ∧i≤cs.length) (λi=>cs.length-i) 0 ⟨⟨0,rfl⟩,rfl,by omega⟩ ?_;rintro i vs τ again ⟨⟨a,rfl⟩,rfl,hi⟩ hag;refine Ya rfl (Yc (λh=>?_) (λh=>?_))
 ·have h:i<cs.length:=by simpa using h
  have hfc:cdFit cs[i]=true:=List.all_eq_true.1 f1 _ (List.getElem_mem h);have hix:=Zp τ cdC false false 12 cs .i64 i h;generalize cs[i]=c at hfc hix;simp only[cdFit,Bool.and_eq_true] at hfc;refine Ya hix (Ya (ldr (cdLd _)) ?_);refine Yd (c110 c hfc.2.1 hfc.2.2.1 hfc.2.2.2) rfl g110_ok.plain rfl (Ya (Ql ..) (Ya (QQ ..) ?_));refine YbM (λ_=>rfl) (λ_=>rfl) (λ_=>hix) (λ_=>rfl) (λ_=>ldr (cdLd0 _)) (λ_=>rfl) (λ_=>QQ ..) ?_;have nxt:VV.rd (Zh .add false [iv i,(.int .i64 1)] τ) λt37_25=>again [t37_25,iv (IntKind.i64.wrap (a+(min (efsW 0 c.played+efsW 0 c.dead+efsW 0 c.dawn) 1073741824)))] τ:=by
   refine Ya (Ql ..) ?_;rw[Zg (n:=i) (by omega)];exact hag (i+1) _ _ (by omega) ⟨⟨_,rfl⟩,rfl,by omega⟩
  generalize (_||_:Bool)=q;cases q with
  |true=>
   refine Yb rfl (Yb rfl (Yb rfl ?_));refine Xc rfl (Xc rfl (Xc rfl (Yb rfl (Ya rfl ?_))));exact Ze (hK _)
  |false=>
   refine Xa (Ya rfl (Xa (Ya (QQ ..) (Xa (Ya rfl ?_)))));generalize decide ((60:Int)<(i:Int))=q2;cases q2 with
   |true=>
    refine Xa (Ya rfl (Xa (Ya (hlen _) (Xa (Ya (Zbm ..) (Xa (Ya rfl (Ya rfl ?_))))))));exact Yc (λ_=>hK _) (λ_=>nxt)
   |false=>
    refine Yb rfl (Yb rfl (Yb rfl (Xa (Ya rfl (Ya rfl ?_)))));exact Qh nxt
 ·refine Ya (hlen _) (Ya (QQ ..) ?_);exact hK _
theorem c14(b:Bk)(hf:bkFit b=true)(σ:List ABlk)(K:AVal→List ABlk→Prop)(hK:∀q,K (.bool q) (σ++[.box (bkC b)])):g14 VV [bkV b] σ K:=by
 simp only[bkFit,Bool.and_eq_true,decide_eq_true_eq] at hf;obtain⟨f0,f1,f2⟩:=hf;rw[bigE] at f1;unfold g14;refine Yh (v:=.bptr σ.length 0) (rd:=[]) (up:=[(σ.length,.box (bkC b))]) rfl (QO _ _) ?_;have hB:=Zm σ (.box (bkC b));generalize σ.length=n at hB ⊢;generalize σ++[ABlk.box (bkC b)]=τ at hB hK ⊢;refine Ya rfl (Ya (ld hB rfl) (Ya (v:=iv b.formats.length) (rd:=[]) (by simp[Xh]) ?_));refine Zk (ι:=Nat) (λi vs τ'=>(∃a:Int,vs=[iv i,iv a])∧τ'=τ∧i≤b.formats.length) (λi=>b.formats.length-i) 0 ⟨⟨0,rfl⟩,rfl,by omega⟩ ?_;rintro i vs τ' again ⟨⟨a,rfl⟩,rfl,hi⟩ hag;refine Ya rfl (Yc (λh=>?_) (λh=>?_))
 ·have h:i<b.formats.length:=by simpa using h
  have hix:=Zp τ' foC false false 7 b.formats .i64 i h;generalize b.formats[i]=f at hix;refine Ya rfl (Ya (ld hB rfl) (Ya hix (Ya rfl (Ya (v:=txV f.banned) (rd:=[]) (ldr rfl) (Ya (v:=iv f.banned.length) (rd:=[]) (by simp[Xh]) (Ya (Ql ..) ?_))))));refine Ya rfl (Ya (ld hB rfl) (Ya hix (Ya rfl (Ya (v:=txV f.single) (rd:=[]) (ldr rfl) (Ya (v:=iv f.single.length) (rd:=[]) (by simp[Xh]) (Ya (Ql ..) ?_))))));refine Ya (Ql ..) (Ya (Ql ..) ?_);rw[Zg (n:=i) (by omega)];exact hag (i+1) _ _ (by omega) ⟨⟨_,rfl⟩,rfl,by omega⟩
 ·refine Ya (QQ ..) ?_;generalize decide ((600:Int)<a)=q;cases q with
  |true=>
   refine Yb rfl (Yb rfl (Zc rfl (Ya rfl ?_)));exact hK _
  |false=>
   refine Xa (Ya rfl (Xa (Ya (ld hB rfl) (Zb ?_))));refine Yy hP rfl g52_ok rfl (c52 b.cards f0 _ _ (λq=>Ya rfl ?_));exact hK _
end Go.Ah.Tz
end
section
namespace Go.Ah.Tz
open Go.Proofs.Tryz (prog)
theorem Qbf{e:Int}{b:Bk}{s:St}(h:mayR e b s false=true):mayR e b s true=true:=by
 simp only[mayR,Bool.and_eq_true] at h ⊢;obtain⟨h1,h2,h3,h4,h5,h6,h7,h8,h9,h10,h11,h12,h13,h14⟩:=h;refine⟨h1,h2,h3,h4,h5,h6,h7,h8,h9,h10,h11,h12,h13,?_⟩;by_cases hp:s.phase≠1
 ·rw[if_pos hp] at h14 ⊢; exact h14
 ·rw[if_neg hp] at h14 ⊢;simp only[Bool.and_eq_true] at h14 ⊢;exact⟨by simp,h14.2⟩
abbrev Qck(x:St)(g0 g1:Nat):List AVal:=[iv x.turn,iv x.mover,iv8 x.phase,.bool x.struck,iv8 x.result,.sl 3 0 x.attack.length false,iv x.next,iv x.s0.life,iv x.s0.mana,iv x.s0.most,.sl 4 0 x.s0.deck.length false,.sl 5 0 x.s0.hand.length false,.sl g0 0 x.s0.grave.length false,.sl 7 0 x.s0.units.length false,.sl 8 0 x.s0.told.length false,iv x.s1.life,iv x.s1.mana,iv x.s1.most,.sl 9 0 x.s1.deck.length false,.sl 10 0 x.s1.hand.length false,.sl g1 0 x.s1.grave.length false,.sl 12 0 x.s1.units.length false,.sl 13 0 x.s1.told.length false]
structure BMem (b:Bk) (s x:St) (g0 g1:Nat) (τ:List ABlk):Prop where
 k0:hget τ 0=.box (bkC b)
 k1:hget τ 1=.box (stC s)
 k2:hget τ 2=.box zStC
 mv:hget τ 14=.box (.bptr 0 0::Qck x g0 g1)
 at_:∃r,hget τ 3=.rows 1 ((x.attack++r).map cel)
 r4:hget τ 4=.rows 1 (x.s0.deck.map cel)
 r5:hget τ 5=.rows 1 (x.s0.hand.map cel)
 gr0:hget τ g0=.rows 1 (x.s0.grave.map cel)
 r7:∃r,hget τ 7=.rows 4 ((x.s0.units++r).map thC)
 r8:hget τ 8=.rows 1 (x.s0.told.map cel)
 r9:hget τ 9=.rows 1 (x.s1.deck.map cel)
 r10:hget τ 10=.rows 1 (x.s1.hand.map cel)
 gr1:hget τ g1=.rows 1 (x.s1.grave.map cel)
 r12:∃r,hget τ 12=.rows 4 ((x.s1.units++r).map thC)
 r13:hget τ 13=.rows 1 (x.s1.told.map cel)
 n0:g0=6∨15≤g0
 n1:g1=11∨15≤g1
 ne:g0≠g1
end Go.Ah.Tz
end
section
namespace Go.Ah.Tz
theorem Yar{n:Nat}{l:List Int}{most:Int}:Xn n l most=true↔(l.length:Int)≤most∧∀c∈l,0≤c∧c<n:=by
 simp[Xn,List.all_eq_true]
structure SideP (b:Bk) (x:Sd):Prop where
 life:wIn x.life=true
 mana:0≤x.mana∧wIn x.mana=true
 most:0≤x.most∧x.most≤10
 deck:Xn b.cards.length x.deck 60=true
 hand:Xn b.cards.length x.hand 10=true
 grave:Xn b.cards.length x.grave 1000000=true
 told:Xn b.cards.length x.told 1000000=true
 units:x.units.length≤7
theorem XbK{b:Bk}{x:Sd}:Yk b.cards.length x=true↔SideP b x:=by
 simp only[Yk,Bool.and_eq_true,decide_eq_true_eq];constructor
 ·rintro⟨h1,h2,h3,h4,h5,h6,h7,h8,h9,h10⟩;exact⟨h1,⟨h2,h3⟩,⟨h4,h5⟩,h6,h7,h8,h9,by omega⟩
 ·rintro⟨h1,⟨h2,h3⟩,⟨h4,h5⟩,h6,h7,h8,h9,h10⟩;exact⟨h1,h2,h3,h4,h5,h6,h7,h8,h9,by omega⟩
theorem Y8{b:Bk}{next:Int}:∀ {l:List Th} {ids:List Int},Yq b next ids l=true↔(∀u∈l,Qu b next u=true)∧(l.map Th.id).Nodup∧∀u∈l,u.id∉ids
 |[],ids=>by simp[Yq]
 |u::l,ids=>by
  simp only[Yq,Bool.and_eq_true,Y8 (l:=l),Bool.not_eq_true',List.map_cons,List.nodup_cons,List.mem_cons,forall_eq_or_imp,List.mem_append,not_or];have hc:ids.contains u.id=false↔u.id∉ids:=by simp
  rw[hc];constructor
  ·rintro⟨h1,h2,h3,h4,h5⟩;refine⟨⟨h1,h3⟩,⟨?_,h4⟩,h2,λv hv=>(h5 v hv).1⟩;intro hm;obtain⟨v,hv,e⟩:=List.mem_map.1 hm;exact(h5 v hv).2.1 e
  ·rintro⟨⟨h1,h3⟩,⟨h6,h4⟩,h2,h5⟩;exact⟨h1,h2,h3,h4,λv hv=>⟨h5 v hv,λe=>h6 (List.mem_map.2 ⟨v,hv,e⟩),by simp⟩⟩
def UnP(b:Bk)(s:St):Prop:=(∀u∈s.s0.units++s.s1.units,Qu b s.next u=true)∧((s.s0.units++s.s1.units).map Th.id).Nodup
theorem YbO{b:Bk}{s:St}:(Yq b s.next [] s.s0.units=true∧Yq b s.next (s.s0.units.map Th.id) s.s1.units=true)↔UnP b s:=by
 rw[Y8,Y8,UnP,List.map_append,List.nodup_append];constructor
 ·rintro⟨⟨h1,h2,_⟩,h3,h4,h5⟩;refine⟨λu hu=>?_,h2,h4,λa ha c hc e=>?_⟩
  ·rcases List.mem_append.1 hu with hu|hu
   ·exact h1 u hu
   ·exact h3 u hu
  ·subst e;obtain⟨v,hv,rfl⟩:=List.mem_map.1 hc;exact h5 v hv ha
 ·rintro⟨h1,h2,h3,h4⟩;refine⟨⟨λu hu=>h1 u (List.mem_append_left _ hu),h2,by simp⟩,λu hu=>h1 u (List.mem_append_right _ hu),h3,λu hu hm=>h4 _ hm _ (List.mem_map.2 ⟨u,hu,rfl⟩) rfl⟩
theorem Qap{s:St}:∀ {l prev:List Int},attOk s prev l=true↔(∀a∈l,(unitR s a).2.2=true∧(unitR s a).1=s.mover)∧l.Nodup∧∀a∈l,a∉prev
 |[],prev=>by simp[attOk]
 |a::l,prev=>by
  simp only[attOk,Bool.and_eq_true,Qap (l:=l),decide_eq_true_eq,Bool.not_eq_true',List.nodup_cons,List.mem_cons,forall_eq_or_imp,List.mem_append,not_or];have hc:prev.contains a=false↔a∉prev:=by simp
  rw[hc];constructor
  ·rintro⟨h1,h2,h3,h4,h5⟩;exact⟨⟨h1,h3⟩,⟨λhm=>(h5 a hm).2.1 rfl,h4⟩,h2,λc hc=>(h5 c hc).1⟩
  ·rintro⟨⟨h1,h3⟩,⟨h6,h4⟩,h2,h5⟩;exact⟨h1,h2,h3,h4,λc hc=>⟨h5 c hc,λe=>h6 (e▸hc),by simp⟩⟩
def AtP(s:St):Prop:=(s.phase≠1→s.attack=[])∧(s.phase=1→s.struck=true∧s.attack.length≤7∧s.attack.Nodup∧∀a∈s.attack,(unitR s a).2.2=true∧(unitR s a).1=s.mover)
def HdP(s:St):Prop:=1≤s.turn∧s.turn≤4096∧0≤s.mover∧s.mover≤1∧0≤s.phase∧s.phase≤2∧0≤s.result∧s.result≤3∧((s.result==0)==(s.phase != 2))=true∧1≤s.next∧s.next≤1000000
structure MayP (b:Bk) (s:St):Prop where
 hd:HdP s
 s0:SideP b s.s0
 s1:SideP b s.s1
 un:UnP b s
 at_:AtP s
theorem ZbE{e:Int}{b:Bk}{s:St}:mayR e b s true=true↔e=0∧MayP b s:=by
 simp only[mayR,Zs,Bool.and_eq_true,decide_eq_true_eq,XbK];constructor
 ·rintro⟨h1,h2,h3,h4,h5,h6,h7,h8,h9,h10,h11,h12,⟨k1,k2,k3,k4⟩,h14⟩;refine⟨h1,⟨h2,h3,h4,h5,h6,h7,h8,h9,h10,h11,h12⟩,k1,k3,YbO.1 ⟨k2,k4⟩,?_,?_⟩
  ·intro hp;rw[if_pos hp] at h14;exact List.length_eq_zero_iff.1 (of_decide_eq_true h14)
  ·intro hp;rw[if_neg (by simpa using hp)] at h14;simp only[Bool.and_eq_true,decide_eq_true_eq] at h14;obtain⟨_,q1,q2,q3⟩:=h14;obtain⟨r1,r2,_⟩:=Qap.1 q3;exact⟨q1,by omega,r2,r1⟩
 ·rintro⟨h1,⟨h2,h3,h4,h5,h6,h7,h8,h9,h10,h11,h12⟩,k1,k3,hu,ha1,ha2⟩;obtain⟨k2,k4⟩:=YbO.2 hu;refine⟨h1,h2,h3,h4,h5,h6,h7,h8,h9,h10,h11,h12,⟨k1,k2,k3,k4⟩,?_⟩;by_cases hp:s.phase≠1
  ·rw[if_pos hp,ha1 hp]; rfl
  ·rw[if_neg hp];obtain⟨q1,q2,q3,q4⟩:=ha2 (by simpa using hp);simp only[Bool.and_eq_true,decide_eq_true_eq];exact⟨by simp,q1,by omega,Qap.2 ⟨q4,q3,by simp⟩⟩
end Go.Ah.Tz
end
section
namespace Go.Ah.Tz
open Go.Proofs.Tryz (prog)
structure Kp (b:Bk) (s:St) (τ:List ABlk) (n:Nat):Prop where
 len:τ.length=n
 lo:15≤n
 h0:hget τ 0=.box (bkC b)
 h1:hget τ 1=.box (stC s)
 hc:hget τ 14=.box (stO s 3)
 kk:∀i x,(stB s)[i]?=some x→hget τ (3+i)=x
end Go.Ah.Tz
end
section
namespace Go.Ah.Tz
open Go.Proofs.Tryz (prog)
open Go.Proofs.YtflcpnaigpgciaaGreatDoor.Rows (uptoBulk uptoBulkAll)
variable {H:Type}
theorem XI(b:List UInt8):uptoBulk (DataW.lit (H:=H) (.string b))=b.length+1:=by simp only[uptoBulk]
theorem XG(ds:List (DataW H)):uptoBulk (.agg ds)=uptoBulkAll ds+1:=by simp only[uptoBulk]
theorem Qb7(es sp:List (DataW H)):uptoBulk (.slice es sp)=uptoBulkAll es+uptoBulkAll sp+1:=by simp only[uptoBulk]
theorem Qv(d:DataW H)(ds:List (DataW H)):uptoBulkAll (d::ds)=uptoBulk d+uptoBulkAll ds:=by simp only[uptoBulkAll]
theorem XbQ(d:DataW H):1≤uptoBulk d:=by
 cases d with
 |lit l=>cases l<;>simp[uptoBulk]
 |_=>simp[uptoBulk]
def Zr(P:Program)(t:TypeId):Option (List TypeId):=match P.underlying t with
 |some (.struct fs)=>some (fs.toList.map (·.type))
 |_=>none
theorem XE{P:Program}{fuel:Nat}{t:TypeId}{xs:List AVal}{d:DataW H}{ts:List TypeId}(h:Typed P fuel t xs d)(hs:Zr P t=some ts):∃f parts ds,fuel=f+1∧xs=parts.flatten∧d=.agg ds∧Tri (Typed P f) ts parts ds:=by
 cases fuel with
 |zero=>exact h.elim
 |succ f=>
  unfold Typed at h;unfold Zr at hs;split at hs
  ·rename_i fs e;rw[e] at h;cases hs;obtain⟨parts,ds,h1,h2,h3⟩:=h;exact⟨f,parts,ds,rfl,h1,h2,h3⟩
  ·cases hs
theorem Xs{P:Program}{fuel:Nat}{t:TypeId}{xs:List AVal}{d:DataW H}{k:IntKind}(h:Typed P fuel t xs d)(hu:P.underlying t=some (.int k)):∃n,xs=[.int k n]∧(Lit.int k n).wf=true∧d=.lit (.int k n):=by
 cases fuel with
 |zero=>exact h.elim
 |succ f=>unfold Typed at h; rw[hu] at h; exact h
theorem Ya7{P:Program}{fuel:Nat}{t:TypeId}{xs:List AVal}{d:DataW H}(h:Typed P fuel t xs d)(hu:P.underlying t=some .bool):∃b,xs=[.bool b]∧d=.lit (.bool b):=by
 cases fuel with
 |zero=>exact h.elim
 |succ f=>unfold Typed at h; rw[hu] at h; exact h
theorem XaZ{P:Program}{fuel:Nat}{t:TypeId}{xs:List AVal}{d:DataW H}(h:Typed P fuel t xs d)(hu:P.underlying t=some .string):∃s,xs=[.str s]∧d=.lit (.string s):=by
 cases fuel with
 |zero=>exact h.elim
 |succ f=>unfold Typed at h; rw[hu] at h; exact h
theorem QbN{P:Program}{fuel:Nat}{e:TypeId}{X:Type}(toC:X→List AVal)(m:X→Nat)(Q:X→Prop){B:Nat}(hx:∀xs (d:DataW H),Typed P fuel e xs d→uptoBulk d≤B→∃x,xs=toC x∧Q x∧m x≤uptoBulk d) :
  ∀ {rows:List (List AVal)} {es:List (DataW H)},Two (Typed P fuel e) rows es→uptoBulkAll es≤B→∃l:List X,rows=l.map toC∧(∀x∈l,Q x)∧(l.map m).sum≤uptoBulkAll es∧l.length≤uptoBulkAll es
 |[],[],_,_=>⟨[],rfl,by simp,by simp,by simp⟩
 |r::rows,d::es,h,hb=>by
  rw[Qv] at hb;obtain⟨x,e1,q1,m1⟩:=hx r d h.1 (by omega);obtain⟨l,e2,q2,s2,l2⟩:=QbN toC m Q hx h.2 (by omega);refine⟨x::l,by rw[e1,e2]; rfl,λy hy=>?_,?_,?_⟩
  ·rcases List.mem_cons.1 hy with rfl|hy
   ·exact q1
   ·exact q2 y hy
  ·rw[List.map_cons,List.sum_cons,Qv]; omega
  ·have:=XbQ d;rw[List.length_cons,Qv]; omega
 |[],_::_,h,_=>h.elim
 |_::_,[],h,_=>h.elim
theorem QB{P:Program}{fuel:Nat}{t e:TypeId}{n:Nat}{xs:List AVal}{d:DataW H}{X:Type}(toC:X→List AVal)(m:X→Nat)(Q:X→Prop){B:Nat}(h:Typed P fuel t xs d)(hu:P.underlying t=some (.slice e))(hn:P.cellsOf e=n)
 (hx:∀f,f<fuel→∀xs (d:DataW H),Typed P f e xs d→uptoBulk d≤B→∃x,xs=toC x∧Q x∧m x≤uptoBulk d)(hb:uptoBulk d≤B) :
  ∃l:List X,xs=[.rsl false false n (l.map toC)]∧(∀x∈l,Q x)∧(l.map m).sum≤uptoBulk d∧l.length≤uptoBulk d:=by
 cases fuel with
 |zero=>exact h.elim
 |succ f=>
  unfold Typed at h;rw[hu] at h;subst hn;obtain⟨rows,rfl,⟨rfl,rfl⟩|⟨es,sp,rfl,h2⟩⟩:=h
  ·exact⟨[],rfl,by simp,by simp,by simp⟩
  ·rw[Qb7] at hb ⊢;obtain⟨l,rfl,q,s,k⟩:=QbN toC m Q (hx f (by omega)) h2 (by omega);exact⟨l,rfl,q,by omega,by omega⟩
theorem Qci{P:Program}{fuel:Nat}{t e:TypeId}{xs:List AVal}{d:DataW H}(h:Typed P fuel t xs d)(hu:P.underlying t=some (.array 2 e)):∃f p q a b,fuel=f+1∧xs=p++q∧d=.agg [a,b]∧Typed P f e p a∧Typed P f e q b:=by
 cases fuel with
 |zero=>exact h.elim
 |succ f=>
  unfold Typed at h;rw[hu] at h;obtain⟨parts,ds,rfl,rfl,hl,h2⟩:=h
  match parts,hl,h2 with
  |[p,q],_,h2=>
   obtain⟨a,ds,rfl,ha,h2⟩:=h2.cons;obtain⟨b,ds,rfl,hb,h2⟩:=h2.cons
   match ds,h2 with
   |[],_=>exact⟨f,p,q,a,b,rfl,by simp,rfl,ha,hb⟩
theorem wf8{n:Int}(h:(Lit.int .i8 n).wf=true):i8B n=true:=by
 have h1:IntKind.i8.min = -128:=by decide
 have h2:IntKind.i8.max=127:=by decide
 simp only[Lit.wf,h1,h2] at h;exact h
theorem wf64{n:Int}(h:(Lit.int .i64 n).wf=true):i64B n=true:=by
 have h1:IntKind.i64.min = -9223372036854775808:=by decide
 have h2:IntKind.i64.max=9223372036854775807:=by decide
 simp only[Lit.wf,h1,h2] at h;exact h
theorem XaT{l:List Nm}(h:∀x∈l,nmFit x=true):Xau l=true:=by
 induction l with
 |nil=>rfl
 |cons x l ih=>simp only[Xau,Bool.and_eq_true]; exact⟨h x (List.mem_cons_self ..),ih λy hy=>h y (List.mem_cons_of_mem _ hy)⟩
theorem Zbw{l:List Cn}(h:∀x∈l,cnFit x=true):Zaz l=true:=by
 induction l with
 |nil=>rfl
 |cons x l ih=>simp only[Zaz,Bool.and_eq_true]; exact⟨h x (List.mem_cons_self ..),ih λy hy=>h y (List.mem_cons_of_mem _ hy)⟩
theorem Zas{l:List Ef}(h:∀x∈l,efFit x=true):Qaf l=true:=by
 induction l with
 |nil=>rfl
 |cons x l ih=>simp only[Qaf,Bool.and_eq_true]; exact⟨h x (List.mem_cons_self ..),ih λy hy=>h y (List.mem_cons_of_mem _ hy)⟩
theorem ZaJ:∀l:List Nm,(nmPs l).length=(l.map λx=>(nmP x).length).sum
 |[]=>rfl
 |x::l=>by simp only[nmPs,List.length_append,List.map_cons,List.sum_cons,ZaJ l]
theorem Zba:∀l:List Cn,(cnPs l).length=(l.map λx=>(cnP x).length).sum
 |[]=>rfl
 |x::l=>by simp only[cnPs,List.length_append,List.map_cons,List.sum_cons,Zba l]
theorem Yam:∀l:List Ef,(efPs l).length=(l.map λx=>(efP x).length).sum
 |[]=>rfl
 |x::l=>by simp only[efPs,List.length_append,List.map_cons,List.sum_cons,Yam l]
theorem bigLe{n k:Nat}(h:n≤k)(hk:k≤1048576):decide (n≤big)=true:=decide_eq_true (Nat.le_trans h (Nat.le_trans hk (by decide)))
abbrev QbO:TypeId:=26
abbrev Zy:TypeId:=3
abbrev YaY:TypeId:=4
abbrev QaL:TypeId:=9
abbrev Qcj:TypeId:=64
abbrev Zb3:TypeId:=62
abbrev Xcj:TypeId:=137
abbrev Ych:TypeId:=135
abbrev Zcs:TypeId:=192
abbrev XaY:TypeId:=80
abbrev Qcr:TypeId:=82
abbrev Zch:TypeId:=22
abbrev Ycs:TypeId:=96
abbrev Xch:TypeId:=23
abbrev Yb3:TypeId:=94
abbrev ZbN:TypeId:=25
abbrev Qcs:TypeId:=51
abbrev Zci:TypeId:=28
abbrev Qaj:TypeId:=27
abbrev Xcv:TypeId:=30
abbrev Qch:TypeId:=31
abbrev YbN:TypeId:=33
theorem Zb7:prog.underlying QbO=some (.int .i8):=by kernel_rfl
theorem XO:prog.underlying Zy=some (.int .i64):=by kernel_rfl
theorem QaZ:prog.underlying YaY=some .bool:=by kernel_rfl
theorem ZbO:prog.underlying QaL=some .string:=by kernel_rfl
theorem Zcu:prog.underlying Zb3=some (.slice Qcj):=by kernel_rfl
theorem u_cns:prog.underlying Ych=some (.slice Xcj):=by kernel_rfl
theorem Zcj:prog.underlying XaY=some (.slice Zcs):=by kernel_rfl
theorem u_cds:prog.underlying Zch=some (.slice Qcr):=by kernel_rfl
theorem u_fos:prog.underlying Xch=some (.slice Ycs):=by kernel_rfl
theorem Ycu:prog.underlying Yb3=some (.slice QaL):=by kernel_rfl
theorem u_ths:prog.underlying Zci=some (.slice Qcs):=by kernel_rfl
theorem Qct:prog.underlying Qaj=some (.slice Zy):=by kernel_rfl
theorem u_sds:prog.underlying Qch=some (.array 2 Xcv):=by kernel_rfl
theorem n_nm:prog.cellsOf Qcj=4:=by kernel_rfl
theorem n_cn:prog.cellsOf Xcj=5:=by kernel_rfl
theorem n_ef:prog.cellsOf Zcs=14:=by kernel_rfl
theorem n_cd:prog.cellsOf Qcr=12:=by kernel_rfl
theorem n_fo:prog.cellsOf Ycs=7:=by kernel_rfl
theorem Xcq:prog.cellsOf QaL=1:=by kernel_rfl
theorem n_th:prog.cellsOf Qcs=4:=by kernel_rfl
theorem n_int:prog.cellsOf Zy=1:=by kernel_rfl
theorem s_nm:Zr prog Qcj=some [QbO,Zy,QbO,Zb3]:=by kernel_rfl
theorem s_cn:Zr prog Xcj=some [QbO,QbO,QaL,Zb3,Ych]:=by kernel_rfl
theorem s_ef:Zr prog Zcs=some [QbO,QbO,Qcj,QaL,Xcj,XaY,XaY]:=by kernel_rfl
theorem s_cd:Zr prog Qcr=some [QaL,YaY,Zy,Zy,Zy,Zy,Zy,Zy,XaY,XaY,XaY,Zy]:=by kernel_rfl
theorem s_fo:Zr prog Ycs=some [QaL,Zy,Zy,Zy,Yb3,Yb3,Zy]:=by kernel_rfl
theorem s_bk:Zr prog ZbN=some [Zch,Xch]:=by kernel_rfl
theorem s_th:Zr prog Qcs=some [Zy,Zy,Zy,YaY]:=by kernel_rfl
theorem s_sd:Zr prog Xcv=some [Zy,Zy,Zy,Qaj,Qaj,Qaj,Zci,Qaj]:=by kernel_rfl
theorem s_st:Zr prog YbN=some [Zy,Zy,QbO,YaY,QbO,Qaj,Zy,Qch]:=by kernel_rfl
theorem Zct(fuel:Nat):∀xs (d:DataW H),Typed prog fuel Qcj xs d→uptoBulk d≤1048576→∃x,xs=nmC x∧nmFit x=true∧(nmP x).length≤uptoBulk d:=by
 induction fuel using Nat.strongRecOn with
 |_ fuel ih=>
 intro xs d h hb;obtain⟨f,parts,ds,rfl,rfl,rfl,r⟩:=XE h s_nm;obtain⟨p0,parts,d0,ds,rfl,rfl,h0,r⟩:=r.cons;obtain⟨p1,parts,d1,ds,rfl,rfl,h1,r⟩:=r.cons;obtain⟨p2,parts,d2,ds,rfl,rfl,h2,r⟩:=r.cons;obtain⟨p3,parts,d3,ds,rfl,rfl,h3,r⟩:=r.cons;obtain⟨rfl,rfl⟩:=r.nil;obtain⟨v0,rfl,w0,rfl⟩:=Xs h0 Zb7;obtain⟨v1,rfl,w1,rfl⟩:=Xs h1 XO;obtain⟨v2,rfl,w2,rfl⟩:=Xs h2 Zb7;simp only[XG,Qv,XI] at hb ⊢;obtain⟨l,rfl,q,s,k⟩:=QB nmC (λx=>(nmP x).length) (λx=>nmFit x=true) h3 Zcu n_nm (λf' hf=>ih f' (by omega)) (show uptoBulk d3≤1048576 by omega);refine⟨.mk v0 v1 v2 l,by rw[QA]; rfl,?_,?_⟩
 ·simp only[nmFit,bigLe k (show uptoBulk d3≤1048576 by omega),XaT q,wf8 w0,wf64 w1,Bool.and_self]
 ·simp only[nmP,List.length_cons,ZaJ]; omega
theorem ty_cn(fuel:Nat):∀xs (d:DataW H),Typed prog fuel Xcj xs d→uptoBulk d≤1048576→∃x,xs=cnC x∧cnFit x=true∧(cnP x).length≤uptoBulk d:=by
 induction fuel using Nat.strongRecOn with
 |_ fuel ih=>
 intro xs d h hb;obtain⟨f,parts,ds,rfl,rfl,rfl,r⟩:=XE h s_cn;obtain⟨p0,parts,d0,ds,rfl,rfl,h0,r⟩:=r.cons;obtain⟨p1,parts,d1,ds,rfl,rfl,h1,r⟩:=r.cons;obtain⟨p2,parts,d2,ds,rfl,rfl,h2,r⟩:=r.cons;obtain⟨p3,parts,d3,ds,rfl,rfl,h3,r⟩:=r.cons;obtain⟨p4,parts,d4,ds,rfl,rfl,h4,r⟩:=r.cons;obtain⟨rfl,rfl⟩:=r.nil;obtain⟨v0,rfl,w0,rfl⟩:=Xs h0 Zb7;obtain⟨v1,rfl,w1,rfl⟩:=Xs h1 Zb7;obtain⟨v2,rfl,rfl⟩:=XaZ h2 ZbO;simp only[XG,Qv,XI] at hb ⊢;obtain⟨l,rfl,q,s,k⟩:=QB nmC (λx=>(nmP x).length) (λx=>nmFit x=true) h3 Zcu n_nm (λf' _=>Zct f') (show uptoBulk d3≤1048576 by omega);obtain⟨l2,rfl,q2,s2,k2⟩:=QB cnC (λx=>(cnP x).length) (λx=>cnFit x=true) h4 u_cns n_cn (λf' hf=>ih f' (by omega)) (show uptoBulk d4≤1048576 by omega);refine⟨.mk v0 v1 v2 l l2,by rw[ZH]; rfl,?_,?_⟩
 ·simp only[cnFit,bigLe k (show uptoBulk d3≤1048576 by omega),XaT q,bigLe k2 (show uptoBulk d4≤1048576 by omega),Zbw q2,wf8 w0,Bool.and_self]
 ·simp only[cnP,List.length_cons,List.length_append,ZaJ,Zba]; omega
theorem ty_ef(fuel:Nat):∀xs (d:DataW H),Typed prog fuel Zcs xs d→uptoBulk d≤1048576→∃x,xs=efC x∧efFit x=true∧(efP x).length≤uptoBulk d:=by
 induction fuel using Nat.strongRecOn with
 |_ fuel ih=>
 intro xs d h hb;obtain⟨f,parts,ds,rfl,rfl,rfl,r⟩:=XE h s_ef;obtain⟨p0,parts,d0,ds,rfl,rfl,h0,r⟩:=r.cons;obtain⟨p1,parts,d1,ds,rfl,rfl,h1,r⟩:=r.cons;obtain⟨p2,parts,d2,ds,rfl,rfl,h2,r⟩:=r.cons;obtain⟨p3,parts,d3,ds,rfl,rfl,h3,r⟩:=r.cons;obtain⟨p4,parts,d4,ds,rfl,rfl,h4,r⟩:=r.cons;obtain⟨p5,parts,d5,ds,rfl,rfl,h5,r⟩:=r.cons;obtain⟨p6,parts,d6,ds,rfl,rfl,h6,r⟩:=r.cons;obtain⟨rfl,rfl⟩:=r.nil;obtain⟨v0,rfl,w0,rfl⟩:=Xs h0 Zb7;obtain⟨v1,rfl,w1,rfl⟩:=Xs h1 Zb7;obtain⟨v3,rfl,rfl⟩:=XaZ h3 ZbO;simp only[XG,Qv,XI] at hb ⊢;obtain⟨n,rfl,qn,kn⟩:=Zct _ _ _ h2 (by omega);obtain⟨c,rfl,qc,kc⟩:=ty_cn _ _ _ h4 (by omega);obtain⟨l,rfl,q,s,k⟩:=QB efC (λx=>(efP x).length) (λx=>efFit x=true) h5 Zcj n_ef (λf' hf=>ih f' (by omega)) (show uptoBulk d5≤1048576 by omega);obtain⟨l2,rfl,q2,s2,k2⟩:=QB efC (λx=>(efP x).length) (λx=>efFit x=true) h6 Zcj n_ef (λf' hf=>ih f' (by omega)) (show uptoBulk d6≤1048576 by omega);refine⟨.mk v0 v1 n v3 c l l2,by rw[Yz,QA,ZH]; rfl,?_,?_⟩
 ·simp only[efFit,qn,qc,bigLe k (show uptoBulk d5≤1048576 by omega),Zas q,bigLe k2 (show uptoBulk d6≤1048576 by omega),Zas q2,wf8 w0,Bool.and_self]
 ·have e1:(if cntOp v0 then nmP n else []).length≤(nmP n).length:=by split<;>simp
  have e2:(if v0=8 then cnP c++(efPs l++efPs l2) else []).length≤(cnP c).length+(efPs l).length+(efPs l2).length:=by
   split
   ·simp only[List.length_append]; omega
   ·simp
  rw[Yam,Yam] at e2;simp only[efP,List.length_cons,List.length_append];omega
theorem XbN{fuel:Nat}{xs:List AVal}{d:DataW H}(h:Typed prog fuel XaY xs d)(hb:uptoBulk d≤1048576):∃l,xs=[efV l]∧lsFit l=true∧(efPs l).length≤uptoBulk d:=by
 obtain⟨l,rfl,q,s,k⟩:=QB efC (λx=>(efP x).length) (λx=>efFit x=true) h Zcj n_ef (λf' _=>ty_ef f') hb;exact⟨l,rfl,by simp only[lsFit,bigLe k hb,Zas q,Bool.and_self],by rw[Yam]; exact s⟩
theorem ty_cd(fuel:Nat)(xs:List AVal)(d:DataW H)(h:Typed prog fuel Qcr xs d)(hb:uptoBulk d≤1048576):∃x,xs=cdC x∧(cdFit x=true∧(cdP x).length≤1048576)∧0≤uptoBulk d:=by
 obtain⟨f,parts,ds,rfl,rfl,rfl,r⟩:=XE h s_cd;obtain⟨p0,parts,d0,ds,rfl,rfl,h0,r⟩:=r.cons;obtain⟨p1,parts,d1,ds,rfl,rfl,h1,r⟩:=r.cons;obtain⟨p2,parts,d2,ds,rfl,rfl,h2,r⟩:=r.cons;obtain⟨p3,parts,d3,ds,rfl,rfl,h3,r⟩:=r.cons;obtain⟨p4,parts,d4,ds,rfl,rfl,h4,r⟩:=r.cons;obtain⟨p5,parts,d5,ds,rfl,rfl,h5,r⟩:=r.cons;obtain⟨p6,parts,d6,ds,rfl,rfl,h6,r⟩:=r.cons;obtain⟨p7,parts,d7,ds,rfl,rfl,h7,r⟩:=r.cons;obtain⟨p8,parts,d8,ds,rfl,rfl,h8,r⟩:=r.cons;obtain⟨p9,parts,d9,ds,rfl,rfl,h9,r⟩:=r.cons;obtain⟨p10,parts,d10,ds,rfl,rfl,h10,r⟩:=r.cons;obtain⟨p11,parts,d11,ds,rfl,rfl,h11,r⟩:=r.cons;obtain⟨rfl,rfl⟩:=r.nil;obtain⟨v0,rfl,rfl⟩:=XaZ h0 ZbO;obtain⟨v1,rfl,rfl⟩:=Ya7 h1 QaZ;obtain⟨v2,rfl,w2,rfl⟩:=Xs h2 XO;obtain⟨v3,rfl,w3,rfl⟩:=Xs h3 XO;obtain⟨v4,rfl,w4,rfl⟩:=Xs h4 XO;obtain⟨v5,rfl,w5,rfl⟩:=Xs h5 XO;obtain⟨v6,rfl,w6,rfl⟩:=Xs h6 XO;obtain⟨v7,rfl,w7,rfl⟩:=Xs h7 XO;obtain⟨v11,rfl,w11,rfl⟩:=Xs h11 XO;simp only[XG,Qv,XI] at hb ⊢;obtain⟨a,rfl,qa,ka⟩:=XbN h8 (by omega);obtain⟨b,rfl,qb,kb⟩:=XbN h9 (by omega);obtain⟨c,rfl,qc,kc⟩:=XbN h10 (by omega);refine⟨⟨v0,v1,v2,v3,v4,v5,v6,v7,a,b,c,v11⟩,rfl,⟨?_,?_⟩,by omega⟩
 ·simp only[cdFit,bigLe (Nat.le_refl v0.length) (by omega),qa,qb,qc,Bool.and_self]
 ·simp only[cdP,List.length_append]; omega
theorem Xct(fuel:Nat)(xs:List AVal)(d:DataW H)(h:Typed prog fuel QaL xs d)(_:uptoBulk d≤1048576):∃x,xs=txC x∧True∧0≤uptoBulk d:=by
 obtain⟨s,rfl,rfl⟩:=XaZ h ZbO;exact⟨s,rfl,trivial,by omega⟩
theorem ty_fo(fuel:Nat)(xs:List AVal)(d:DataW H)(h:Typed prog fuel Ycs xs d)(hb:uptoBulk d≤1048576):∃x,xs=foC x∧foFit x=true∧0≤uptoBulk d:=by
 obtain⟨f,parts,ds,rfl,rfl,rfl,r⟩:=XE h s_fo;obtain⟨p0,parts,d0,ds,rfl,rfl,h0,r⟩:=r.cons;obtain⟨p1,parts,d1,ds,rfl,rfl,h1,r⟩:=r.cons;obtain⟨p2,parts,d2,ds,rfl,rfl,h2,r⟩:=r.cons;obtain⟨p3,parts,d3,ds,rfl,rfl,h3,r⟩:=r.cons;obtain⟨p4,parts,d4,ds,rfl,rfl,h4,r⟩:=r.cons;obtain⟨p5,parts,d5,ds,rfl,rfl,h5,r⟩:=r.cons;obtain⟨p6,parts,d6,ds,rfl,rfl,h6,r⟩:=r.cons;obtain⟨rfl,rfl⟩:=r.nil;obtain⟨v0,rfl,rfl⟩:=XaZ h0 ZbO;obtain⟨v1,rfl,w1,rfl⟩:=Xs h1 XO;obtain⟨v2,rfl,w2,rfl⟩:=Xs h2 XO;obtain⟨v3,rfl,w3,rfl⟩:=Xs h3 XO;obtain⟨v6,rfl,w6,rfl⟩:=Xs h6 XO;simp only[XG,Qv,XI] at hb ⊢;obtain⟨a,rfl,_,_,ka⟩:=QB txC (λ_=>0) (λ_=>True) h4 Ycu Xcq (λf' _=>Xct f') (show uptoBulk d4≤1048576 by omega);obtain⟨b,rfl,_,_,kb⟩:=QB txC (λ_=>0) (λ_=>True) h5 Ycu Xcq (λf' _=>Xct f') (show uptoBulk d5≤1048576 by omega);refine⟨⟨v0,v1,v2,v3,a,b,v6⟩,rfl,?_,by omega⟩;simp only[foFit,bigLe (Nat.le_refl v0.length) (by omega),bigLe ka (show uptoBulk d4≤1048576 by omega),bigLe kb (show uptoBulk d5≤1048576 by omega),Bool.and_self]
theorem ty_bk{fuel:Nat}{xs:List AVal}{d:DataW H}(h:Typed prog fuel ZbN xs d)(hb:uptoBulk d≤1048576):∃x,xs=bkC x∧bkFit x=true∧QG x.cards:=by
 obtain⟨f,parts,ds,rfl,rfl,rfl,r⟩:=XE h s_bk;obtain⟨p0,parts,d0,ds,rfl,rfl,h0,r⟩:=r.cons;obtain⟨p1,parts,d1,ds,rfl,rfl,h1,r⟩:=r.cons;obtain⟨rfl,rfl⟩:=r.nil;simp only[XG,Qv,XI] at hb ⊢;obtain⟨a,rfl,q,_,k⟩:=QB cdC (λ_=>0) (λx=>cdFit x=true∧(cdP x).length≤1048576) h0 u_cds n_cd (λf' _=>ty_cd f') (show uptoBulk d0≤1048576 by omega);obtain⟨b,rfl,q2,_,k2⟩:=QB foC (λ_=>0) (λx=>foFit x=true) h1 u_fos n_fo (λf' _=>ty_fo f') (show uptoBulk d1≤1048576 by omega);refine⟨⟨a,b⟩,rfl,?_,λc hc=>Nat.le_trans (q c hc).2 (by decide)⟩;simp only[bkFit,QC,bigLe k (show uptoBulk d0≤1048576 by omega),bigLe k2 (show uptoBulk d1≤1048576 by omega),Bool.true_and,Bool.and_eq_true,List.all_eq_true];exact⟨λc hc=>(q c hc).1,q2⟩
theorem ty_th(fuel:Nat)(xs:List AVal)(d:DataW H)(h:Typed prog fuel Qcs xs d)(hb:uptoBulk d≤1048576):∃x,xs=thC x∧True∧0≤uptoBulk d:=by
 obtain⟨f,parts,ds,rfl,rfl,rfl,r⟩:=XE h s_th;obtain⟨p0,parts,d0,ds,rfl,rfl,h0,r⟩:=r.cons;obtain⟨p1,parts,d1,ds,rfl,rfl,h1,r⟩:=r.cons;obtain⟨p2,parts,d2,ds,rfl,rfl,h2,r⟩:=r.cons;obtain⟨p3,parts,d3,ds,rfl,rfl,h3,r⟩:=r.cons;obtain⟨rfl,rfl⟩:=r.nil;obtain⟨v0,rfl,w0,rfl⟩:=Xs h0 XO;obtain⟨v1,rfl,w1,rfl⟩:=Xs h1 XO;obtain⟨v2,rfl,w2,rfl⟩:=Xs h2 XO;obtain⟨v3,rfl,rfl⟩:=Ya7 h3 QaZ;simp only[XG,Qv,XI] at hb ⊢;exact⟨⟨v0,v1,v2,v3⟩,rfl,trivial,by omega⟩
theorem ty_i(fuel:Nat)(xs:List AVal)(d:DataW H)(h:Typed prog fuel Zy xs d)(_:uptoBulk d≤1048576):∃x,xs=cel x∧True∧0≤uptoBulk d:=by
 obtain⟨s,rfl,_,rfl⟩:=Xs h XO;exact⟨s,rfl,trivial,by omega⟩
theorem YaZ{fuel:Nat}{xs:List AVal}{d:DataW H}(h:Typed prog fuel Qaj xs d)(hb:uptoBulk d≤1048576):∃l,xs=[rowV l]∧l.length≤2000000:=by
 obtain⟨l,rfl,_,_,k⟩:=QB cel (λ_=>0) (λ_=>True) h Qct n_int (λf' _=>ty_i f') hb;exact⟨l,rfl,by omega⟩
theorem Yct{fuel:Nat}{xs:List AVal}{d:DataW H}(h:Typed prog fuel Xcv xs d)(hb:uptoBulk d≤1048576):∃x,xs=sdC x∧SdLe 2000000 x:=by
 obtain⟨f,parts,ds,rfl,rfl,rfl,r⟩:=XE h s_sd;obtain⟨p0,parts,d0,ds,rfl,rfl,h0,r⟩:=r.cons;obtain⟨p1,parts,d1,ds,rfl,rfl,h1,r⟩:=r.cons;obtain⟨p2,parts,d2,ds,rfl,rfl,h2,r⟩:=r.cons;obtain⟨p3,parts,d3,ds,rfl,rfl,h3,r⟩:=r.cons;obtain⟨p4,parts,d4,ds,rfl,rfl,h4,r⟩:=r.cons;obtain⟨p5,parts,d5,ds,rfl,rfl,h5,r⟩:=r.cons;obtain⟨p6,parts,d6,ds,rfl,rfl,h6,r⟩:=r.cons;obtain⟨p7,parts,d7,ds,rfl,rfl,h7,r⟩:=r.cons;obtain⟨rfl,rfl⟩:=r.nil;obtain⟨v0,rfl,w0,rfl⟩:=Xs h0 XO;obtain⟨v1,rfl,w1,rfl⟩:=Xs h1 XO;obtain⟨v2,rfl,w2,rfl⟩:=Xs h2 XO;simp only[XG,Qv,XI] at hb ⊢;obtain⟨a,rfl,ka⟩:=YaZ h3 (by omega);obtain⟨b,rfl,kb⟩:=YaZ h4 (by omega);obtain⟨c,rfl,kc⟩:=YaZ h5 (by omega);obtain⟨u,rfl,_,_,ku⟩:=QB thC (λ_=>0) (λ_=>True) h6 u_ths n_th (λf' _=>ty_th f') (show uptoBulk d6≤1048576 by omega);obtain⟨t,rfl,kt⟩:=YaZ h7 (by omega);exact⟨⟨v0,v1,v2,a,b,c,u,t⟩,rfl,ka,kb,kc,by show u.length≤_; omega,kt⟩
theorem ty_st{fuel:Nat}{xs:List AVal}{d:DataW H}(h:Typed prog fuel YbN xs d)(hb:uptoBulk d≤1048576):∃x,xs=stC x∧StLe 2000000 x:=by
 obtain⟨f,parts,ds,rfl,rfl,rfl,r⟩:=XE h s_st;obtain⟨p0,parts,d0,ds,rfl,rfl,h0,r⟩:=r.cons;obtain⟨p1,parts,d1,ds,rfl,rfl,h1,r⟩:=r.cons;obtain⟨p2,parts,d2,ds,rfl,rfl,h2,r⟩:=r.cons;obtain⟨p3,parts,d3,ds,rfl,rfl,h3,r⟩:=r.cons;obtain⟨p4,parts,d4,ds,rfl,rfl,h4,r⟩:=r.cons;obtain⟨p5,parts,d5,ds,rfl,rfl,h5,r⟩:=r.cons;obtain⟨p6,parts,d6,ds,rfl,rfl,h6,r⟩:=r.cons;obtain⟨p7,parts,d7,ds,rfl,rfl,h7,r⟩:=r.cons;obtain⟨rfl,rfl⟩:=r.nil;obtain⟨v0,rfl,w0,rfl⟩:=Xs h0 XO;obtain⟨v1,rfl,w1,rfl⟩:=Xs h1 XO;obtain⟨v2,rfl,w2,rfl⟩:=Xs h2 Zb7;obtain⟨v3,rfl,rfl⟩:=Ya7 h3 QaZ;obtain⟨v4,rfl,w4,rfl⟩:=Xs h4 Zb7;obtain⟨v6,rfl,w6,rfl⟩:=Xs h6 XO;simp only[XG,Qv,XI] at hb ⊢;obtain⟨a,rfl,ka⟩:=YaZ h5 (by omega);obtain⟨f',p,q,da,db,rfl,rfl,rfl,hp,hq⟩:=Qci h7 u_sds;simp only[XG,Qv] at hb;obtain⟨x,rfl,kx⟩:=Yct hp (by omega);obtain⟨y,rfl,ky⟩:=Yct hq (by omega);exact⟨⟨v0,v1,v2,v3,v4,a,v6,x,y⟩,rfl,ka,kx,ky⟩
end Go.Ah.Tz
end
section
namespace Go.Proofs.YtflcpnaigpgciaaGreatDoor
open Go.ChangeShapes Go.WideShapes Go.ChangeAt Go.RowKit Go.Ah Go.Ah.Tz
theorem XaJ{H:Type}{enc:TypeId×Value→H}{P:Program}{f:Func}{s:ChangeSpec}{apart fresh handsOn again:Bool}{W W':World}{args:Array Value}{v:Value}{ds gs:List (DataW H)}{before pa pv:List MemPlace}
 (hW:DataW.Whole enc P f.params.toList s.vars apart W args.toList ds gs before)
 (hres:∀(b:Nat) (sp:Nat→Bool) (hd:Bool),DataW.TrodAll enc P W' b sp hd f.resultTypes.toList (v.resultList f.resultTypes.size) (s.fn H (ds++gs)).results [])
 (hargs:∀sp:Nat→Bool,(∀p∈before,sp p.block=true)→DataW.TrodAll enc P W' 0 sp true f.params.toList args.toList (s.fn H (ds++gs)).args pa)
 (hvars:∀sp:Nat→Bool,(∀p∈before,sp p.block=true)→DataW.TrodVars enc P W' sp s.vars (s.fn H (ds++gs)).vars pv)
 (hps:before=pa++pv)(hb:Below W.heap.size W W')
 (hok:∀(j:Nat) (t:TypeId) (r:Value),f.resultTypes[j]?=some t→(v.resultList f.resultTypes.size)[j]?=some r→Value.okWide P W' .any 0 t r) :
  s.post enc P f apart fresh handsOn again W args v W':=by
 have hold:∀p∈before,(λb=>decide (b<W.heap.size)) p.block=true:=λp hp=>by simpa using hW.lt p hp
 refine⟨ds,gs,before,[],pa,pv,hW,hres _ _ _,hargs _ hold,hvars _ hold,World.keptBut_mono (λp hp=>⟨hp,?_⟩) (hb.frame (·∈before)),λ_=>?_⟩
 ·rw[hps,List.mem_append] at hp;exact Or.inr hp
 ·have hlt:=hW.lt;obtain⟨_,_,_,_,_,hz,hn⟩:=hW;refine⟨hok,_,_,([]++pa)++pv,⟨[]++pa,pv,trodAll_append (hargs _ (λ_ _=>rfl)) (hres _ _ _),hvars _ (λ_ _=>rfl),rfl,?_,?_⟩,?_⟩
  ·intro b off hp;have hin:MemPlace.cell b off∈before:=by rw[hps]; simpa using hp
   rw[hb.frozen (p:=⟨b,off,none⟩) (show b<W.heap.size from hlt _ hin)];exact hz b off hin
  ·intro ha;have:=hn ha;rw[hps] at this;simpa using this
  ·intro p hp _;rw[hps];simpa using hp
set_option maxRecDepth 100000
abbrev t_u8:TypeId:=5
abbrev Xcs:TypeId:=318
theorem d_own:ownKnob Tryz.prog.godebug=none:=by kernel_rfl
theorem Xcm:Tryz.prog.globalNamed "strings.asciiSpace" = some 0:=by kernel_rfl
theorem Qby:(Tryz.prog.globals[0]?).map (·.type)=some Xcs:=by kernel_rfl
theorem Yby:laidOutB Tryz.prog=true:=by kernel_rfl
def spaces:List Int:=(List.range 256).map λi=>match (Nat.ble 9 i&&Nat.ble i 13)||Nat.beq i 32 with|true=>1|false=>0
theorem Zb9{l:List (String×DataW Unit)}{x:String×DataW Unit}(hl:l=[x,("strings.asciiSpace",Lib.tabData .u8 spaces)]){W:World}(h:laidMet Tryz.prog l W):∀p∈GL0,Den (λb=>W.heap[b]?) noOwn (.rptr p.2 0) (.pointer (some ⟨p.1,0,none⟩)):=by
 subst hl;have ht:Lib.TabIs Tryz.prog W "strings.asciiSpace" .u8 spaces:=Lib.tabIs_of_head (rest:=[]) Xcm Qby (show Tryz.prog.underlying Xcs=some (.array 256 t_u8) by kernel_rfl) (show Tryz.prog.underlying t_u8=some (.int .u8) by kernel_rfl) (by kernel_rfl) (by kernel_rfl) h.tail;have hlen:spaces.length=256:=by simp[spaces]
 have hrow:row0=spaces.map (AVal.int .u8):=by rw[row0,spaces,List.map_map]; rfl
 intro p hp;simp only[GL0,List.mem_singleton] at hp;subst hp;refine .rptr _ row0 0 0 0 (λk=>.int .u8 (spaces.getD k 0)) (λk hk=>?_) (λk y hy=>?_)
 ·have hk':k<spaces.length:=by rw[hrow,List.length_map] at hk; exact hk
  have:=(Zbu (ht.cell Xcm k hk')).2;rw[Nat.zero_add]; exact this
 ·rw[hrow,List.getElem?_map] at hy;obtain⟨z,hz,rfl⟩:=Option.map_eq_some_iff.1 hy;have:spaces.getD k 0=z:=by simp[List.getD,hz]
  rw[this]; exact .int _ _ _
def YaG:List TypeId:=[QbO,Zy,YaY,QaL,Qcj,Zb3,Xcj,Ych,Zcs,XaY,Qcr,Zch,Ycs,Xch,Yb3,ZbN,Qcs,Zci,Qaj,Xcv,Qch,YbN]
theorem YaO:YaG.all (tyOk Tryz.prog YaG)=true:=by kernel_rfl
theorem Zcm{M:Nat→Option Obj}{xs:List AVal}{cs:Array Value}(h:DL M xs cs.toList):Den M noOwn (.agg xs) (.agg cs):=
 .agg _ _ _ (by have:=h.1; simpa using this.symm) (λi x v h1 h2=>h.2 i x v h1 (by simpa using h2))
theorem ZaY{P:Program}{t:TypeId}{ts:List TypeId}(h:Zr P t=some ts):∃fs,P.underlying t=some (.struct fs):=by
 unfold Zr at h;split at h
 ·rename_i fs e; exact⟨fs,e⟩
 ·cases h
section
variable {H:Type} {enc:TypeId×Value→H} {W:World} {base:Nat} {v:Value} {d:DataW H} {ps:List MemPlace}
theorem Ycm(ho:Value.okWide Tryz.prog W .any base ZbN v)(h:DataW.Trod enc Tryz.prog W 0 (λ_=>true) true ZbN v d ps)(hb:Rows.uptoBulk d≤1048576):∃b:Bk,bkFit b=true∧QG b.cards∧Den (λk=>W.heap[k]?) noOwn (bkV b) v:=by
 obtain⟨fs,hfs⟩:=ZaY s_bk;obtain⟨cs,rfl,_⟩:=okWide_struct hfs ho;obtain⟨fuel,hf⟩:=h;obtain⟨_,xs,h1,h2⟩:=Zax (S:=YaG) YaO fuel ZbN (by decide) _ _ ⟨_,hf⟩;obtain⟨b,rfl,k1,k2⟩:=ty_bk h2 hb;exact⟨b,k1,k2,Zcm h1⟩
theorem Xb9(ho:Value.okWide Tryz.prog W .any base YbN v)(h:DataW.Trod enc Tryz.prog W 0 (λ_=>true) true YbN v d ps)(hb:Rows.uptoBulk d≤1048576):∃s:St,StLe 2000000 s∧Den (λk=>W.heap[k]?) noOwn (stV s) v:=by
 obtain⟨fs,hfs⟩:=ZaY s_st;obtain⟨cs,rfl,_⟩:=okWide_struct hfs ho;obtain⟨fuel,hf⟩:=h;obtain⟨_,xs,h1,h2⟩:=Zax (S:=YaG) YaO fuel YbN (by decide) _ _ ⟨_,hf⟩;obtain⟨s,rfl,k⟩:=ty_st h2 hb;exact⟨s,k,Zcm h1⟩
theorem Yb9(ho:Value.okWide Tryz.prog W .any base Zy v)(h:DataW.Trod enc Tryz.prog W 0 (λ_=>true) true Zy v d ps):∃n:Int,Den (λk=>W.heap[k]?) noOwn (iv n) v:=by
 obtain⟨n,rfl,_⟩:=open_int XO ho h;exact⟨n,.int _ _ _⟩
end
theorem Qar{H:Type}{enc:TypeId×Value→H}{t:TypeId}(hr:Tryz.prog.readableRec t=true)(hrow:t<Tryz.prog.types.size){W W':World}{v:Value}{d:DataW H}{ps all:List MemPlace}(h:DataW.Trod enc Tryz.prog W 0 (λ_=>true) true t v d ps)(hb:Below W.heap.size W W')(hlt:∀p∈all,p.block<W.heap.size)(hin:∀p∈ps,p∈all){sp:Nat→Bool}(hs:∀p∈all,sp p.block=true):DataW.Trod enc Tryz.prog W' 0 sp true t v d ps:=
 WideElems.Trod_stays Yby hr hrow h (λp hp=>hb.same (hlt p (hin p hp))) (λp hp=>hs p (hin p hp))
theorem Xby(t:TypeId)(h:(Tryz.prog.readableRec t&&decide (t<Tryz.prog.types.size))=true):Tryz.prog.readableRec t=true∧t<Tryz.prog.types.size:=by simpa using h
theorem r_bk:Tryz.prog.readableRec ZbN=true∧ZbN<Tryz.prog.types.size:=Xby ZbN (by kernel_rfl)
theorem r_st:Tryz.prog.readableRec YbN=true∧YbN<Tryz.prog.types.size:=Xby YbN (by kernel_rfl)
theorem Ybn:Tryz.prog.readableRec Zy=true∧Zy<Tryz.prog.types.size:=Xby Zy (by kernel_rfl)
def ZbR:List Int:=[9,13,1,32,133,101,160,5760,5600,8192,8202,1,8232,8233,1,8239,8287,48,12288,12288,1]
noncomputable def Ya2 (os:Os):World:=
 let w0:=World.holding Tryz.prog os ⟨#[],#[],[]⟩
 let put (h:Array Obj) (g:Nat) (cs:Array Value):Array Obj:=h.modify g fun
  |.cells _ t frozen=>.cells cs t frozen
  |o=>o
 let h1:=put w0.heap 0 (spaces.map λz=>Value.int .u8 z).toArray
 let h2:=put h1 1 #[.pointer (some ⟨w0.heap.size,0,none⟩)]
 { w0 with heap:=(h2.push (.cells #[.slice (some ⟨w0.heap.size+1,0,none⟩) 7 7,.slice none 0 0,.int .i64 2] 328 (0,0))).push (.cells (ZbR.map λz=>Value.int .u16 z).toArray 331 (0,0)) }
theorem Xk{a b:Bool}(h:a=true)(k:b=true):(a&&b)=true:=by rw[h,k]; rfl
end Go.Proofs.YtflcpnaigpgciaaGreatDoor
end
section
namespace Go.Ah.Tz
open Go.Proofs.Tryz (prog)
def ptQ:Pt→Bool
 |.ef x=>decide (x.who=2)&&(decide (x.op=0)||decide (x.op=1))
 |.nm x=>decide (x.op=7)
 |.cn _=>false
theorem Zcd(x:Nm):(nmP x).any ptQ=((nmPs x.kids).any ptQ||decide (x.op=7)):=by
 cases x; simp[nmP,ptQ,Nm.kids,Nm.op,Bool.or_comm]
theorem QaI:∀l:List Nm,(nmPs l).any ptQ=l.any λx=>(nmP x).any ptQ
 |[]=>rfl
 |x::l=>by simp[nmPs,QaI l]
theorem Xb8(x:Cn):(cnP x).any ptQ=((nmPs x.nums).any ptQ||(cnPs x.kids).any ptQ):=by
 cases x; simp[cnP,ptQ,Cn.nums,Cn.kids]
theorem Qa9:∀l:List Cn,(cnPs l).any ptQ=l.any λx=>(cnP x).any ptQ
 |[]=>rfl
 |x::l=>by simp[cnPs,Qa9 l]
theorem Zcb(x:Ef):(efP x).any ptQ=(((decide (x.who=2)&&(decide (x.op=0)||decide (x.op=1)))||(cntOp x.op&&(nmP x.n).any ptQ))||(decide (x.op=8)&&(((cnP x.c).any ptQ||(efPs x.thn).any ptQ)||(efPs x.els).any ptQ))):=by
 cases x with
 |mk op who n name c thn els=>
  simp only[efP,List.any_cons,List.any_append,ptQ,Ef.who,Ef.op,Ef.n,Ef.c,Ef.thn,Ef.els];generalize cntOp op=q;by_cases h2:op=8<;>cases q<;>simp[h2,Bool.or_assoc]
theorem Xbb:∀l:List Ef,(efPs l).any ptQ=l.any λx=>(efP x).any ptQ
 |[]=>rfl
 |x::l=>by simp[efPs,Xbb l]
attribute [local irreducible] Ans.rd Ans.pu Ans.wr Ans.dr Ans.gr Ans.gw Ans.gl Ans.gd Ans.opt joinK W
set_option maxHeartbeats 1000000
theorem c131':∀(k:Nat) (x:Nm),SizeOf.sizeOf x≤k→nmFit x=true→PC 131 [.agg (nmC x)] (.bool ((nmP x).any ptQ))
 |0,x,h,_=>by cases x; simp at h
 |k+1,x,hk,hf=>by
  rw[QA];refine Qd hP g131_ok rfl rfl ?_;unfold g131;refine Yh rfl rfl ?_;have hlen:=XT hf;rw[bigE] at hlen;generalize hB:([]++[ABlk.box [iv8 x.op,iv x.n,iv8 x.who,.rsl false false 4 (x.kids.map nmC)]]:List ABlk)=base;have hB0:hget base 0=.box [iv8 x.op,iv x.n,iv8 x.who,.rsl false false 4 (x.kids.map nmC)]:=by rw[←hB]; rfl
  clear hB;refine Zk (ι:=Nat) (λi vs σ=>vs=[iv i]∧σ=base∧i≤x.kids.length∧(nmP x).any ptQ=(((x.kids.drop i).any λy=>(nmP y).any ptQ)||decide (x.op=7))) (λi=>x.kids.length-i) 0 ⟨rfl,rfl,by omega,by rw[Zcd,QaI]; simp⟩ ?_;rintro i vs σ again ⟨rfl,rfl,hi,hu⟩ hag;refine Ya rfl (Ya (ld hB0 rfl) (Ya rfl (Ya rfl ?_)));refine Yc (λh=>?_) (λh=>?_)
  ·have h:i<x.kids.length:=by simpa using h
   have hdr:x.kids.drop i=x.kids[i]::x.kids.drop (i+1):=by rw[YLD h]
   rw[hdr,List.any_cons] at hu;have hm:x.kids[i]∈x.kids:=List.getElem_mem h;have hix:=λ(s:List ABlk)=>Zp s nmC false false 4 x.kids .i64 i h;have hsz:=Y7 hm;have hfk:=YN hf hm;generalize x.kids[i]=y at hu hix hsz hfk;refine Ya rfl (Ya (ld hB0 rfl) (Ya (hix _) (Ya (ldr (nmLd _)) ?_)));refine Yd (c131' k y (by omega) hfk) rfl g131_ok.plain (nmRo _) ?_;refine Yc (λhy=>?_) (λhy=>?_)
   ·rw[hu,hy]; rfl
   refine Ya (Ql ..) ?_;rw[Zg (n:=i) (by omega)];exact hag (i+1) _ _ (by omega) ⟨rfl,rfl,by omega,by rw[hu,hy,Bool.false_or]⟩
  ·have h:i=x.kids.length:=by simp at h; omega
   subst h;rw[List.drop_length] at hu;refine Ya rfl (Ya (ld hB0 rfl) (Ya (Qe ..) ?_));rw[hu]; rfl
theorem c131(x:Nm)(hf:nmFit x=true):PC 131 [.agg (nmC x)] (.bool ((nmP x).any ptQ)):=c131' _ x (Nat.le_refl _) hf
theorem c132':∀(k:Nat) (x:Cn),SizeOf.sizeOf x≤k→cnFit x=true→PC 132 [.agg (cnC x)] (.bool ((cnP x).any ptQ))
 |0,x,h,_=>by cases x; simp at h
 |k+1,x,hk,hf=>by
  rw[ZH];refine Qd hP g132_ok rfl rfl ?_;unfold g132;refine Yh rfl rfl ?_;have hl1:=QF hf;have hl2:=XF hf;rw[bigE] at hl1 hl2;generalize hB:([]++[ABlk.box [iv8 x.op,iv8 x.who,.str x.name,.rsl false false 4 (x.nums.map nmC),.rsl false false 5 (x.kids.map cnC)]]:List ABlk)=base;have hB0:hget base 0=.box [iv8 x.op,iv8 x.who,.str x.name,.rsl false false 4 (x.nums.map nmC),.rsl false false 5 (x.kids.map cnC)]:=by rw[←hB]; rfl
  clear hB;refine Zk (ι:=Nat) (λi vs σ=>vs=[iv i]∧σ=base∧i≤x.nums.length∧(cnP x).any ptQ=(((x.nums.drop i).any λy=>(nmP y).any ptQ)||(cnPs x.kids).any ptQ)) (λi=>x.nums.length-i) 0 ⟨rfl,rfl,by omega,by rw[Xb8,QaI]; simp⟩ ?_;rintro i vs σ again ⟨rfl,rfl,hi,hu⟩ hag;refine Ya rfl (Ya (ld hB0 rfl) (Ya rfl (Ya rfl ?_)));refine Yc (λh=>?_) (λh=>?_)
  ·have h:i<x.nums.length:=by simpa using h
   have hdr:x.nums.drop i=x.nums[i]::x.nums.drop (i+1):=by rw[YLD h]
   rw[hdr,List.any_cons] at hu;have hm:x.nums[i]∈x.nums:=List.getElem_mem h;have hix:=λ(s:List ABlk)=>Zp s nmC false false 4 x.nums .i64 i h;have hfk:=ZM hf hm;generalize x.nums[i]=y at hu hix hfk;refine Ya rfl (Ya (ld hB0 rfl) (Ya (hix _) (Ya (ldr (nmLd _)) ?_)));refine Yd (c131 y hfk) rfl g131_ok.plain (nmRo _) ?_;refine Yc (λhy=>?_) (λhy=>?_)
   ·rw[hu,hy]; rfl
   refine Ya (Ql ..) ?_;rw[Zg (n:=i) (by omega)];exact hag (i+1) _ _ (by omega) ⟨rfl,rfl,by omega,by rw[hu,hy,Bool.false_or]⟩
  ·have h:i=x.nums.length:=by simp at h; omega
   subst h;rw[List.drop_length,List.any_nil,Bool.false_or,Qa9] at hu;clear hag hi;refine Zk (ι:=Nat) (λi vs s=>vs=[iv i]∧s=σ∧i≤x.kids.length∧(cnP x).any ptQ=((x.kids.drop i).any λy=>(cnP y).any ptQ)) (λi=>x.kids.length-i) 0 ⟨rfl,rfl,by omega,by rw[hu]; simp⟩ ?_;rintro i vs s again ⟨rfl,rfl,hi,hu⟩ hag;refine Ya rfl (Ya (ld hB0 rfl) (Ya rfl (Ya rfl ?_)));refine Yc (λh=>?_) (λh=>?_)
   ·have h:i<x.kids.length:=by simpa using h
    have hdr:x.kids.drop i=x.kids[i]::x.kids.drop (i+1):=by rw[YLD h]
    rw[hdr,List.any_cons] at hu;have hm:x.kids[i]∈x.kids:=List.getElem_mem h;have hix:=λ(s:List ABlk)=>Zp s cnC false false 5 x.kids .i64 i h;have hsz:=Y6 hm;have hfk:=QL hf hm;generalize x.kids[i]=y at hu hix hsz hfk;refine Ya rfl (Ya (ld hB0 rfl) (Ya (hix _) (Ya (ldr (cnLd _)) ?_)));refine Yd (c132' k y (by omega) hfk) rfl g132_ok.plain (cnRo _) ?_;refine Yc (λhy=>?_) (λhy=>?_)
    ·rw[hu,hy]; rfl
    refine Ya (Ql ..) ?_;rw[Zg (n:=i) (by omega)];exact hag (i+1) _ _ (by omega) ⟨rfl,rfl,by omega,by rw[hu,hy,Bool.false_or]⟩
   ·have h:i=x.kids.length:=by simp at h; omega
    subst h;rw[List.drop_length] at hu;rw[hu]; rfl
theorem c132(x:Cn)(hf:cnFit x=true):PC 132 [.agg (cnC x)] (.bool ((cnP x).any ptQ)):=c132' _ x (Nat.le_refl _) hf
theorem Zcl(x:Ef){σ:List ABlk}{p:Nat}(hB:hget σ p=.box (efC x)){K:AVal→Prop}(hK:K (.bool (decide (x.who=2)&&(decide (x.op=0)||decide (x.op=1))))) :
  VV.gr (.bool (decide (x.who=2))) true (λk=>VV.rd (Za 0 [.bptr p 0] σ) k) λt19_10=>
  VV.gr (.bool (decide (x.who=2))) true (λk=>VV.rd (Qc false 1 [t19_10] σ) k) λt20_11=>
  VV.gr (.bool (decide (x.who=2))) true (λk=>VV.rd (Zh .eql false [t20_11,(.int .i8 0)] σ) k) λt21_12=>
  VV.gr (.bool (decide (x.who=2))) true (λk=>VV.rd (Qg [t21_12] σ) k) λt22_13=>
  VV.gr t22_13 false (λk=>VV.rd (Za 0 [.bptr p 0] σ) k) λt23_14=>
  VV.gr t22_13 false (λk=>VV.rd (Qc false 1 [t23_14] σ) k) λt24_15=>
  VV.gr t22_13 false (λk=>VV.rd (Zh .eql false [t24_15,(.int .i8 1)] σ) k) λt25_16=>
  VV.gr (.bool (decide (x.who=2))) true (λk=>VV.rd (Zi [t22_13,(.bool true),t25_16] σ) k) λt26_17=>
  VV.rd (Zi [(.bool (decide (x.who=2))),t26_17,(.bool false)] σ) K:=by
 rcases YBE (decide (x.who=2)) with h|h
 ·rw[h] at hK ⊢;refine Xa (Ya rfl (Xa (Ya (ld hB (efLd0 x)) (Xa (Ya (Qe ..) (Xa (Ya rfl ?_)))))));rcases YBE (decide (x.op=0)) with h0|h0
  ·rw[h0] at hK ⊢;repeat first|refine Yb rfl ?_|refine Xc rfl ?_|refine Zc rfl ?_|refine Zd rfl ?_
   exact Xa (Ya rfl (Ya rfl hK))
  ·rw[h0] at hK ⊢;exact Xa (Ya rfl (Xa (Ya (ld hB (efLd0 x)) (Xa (Ya (Qe ..) (Xa (Ya rfl (Ya rfl hK))))))))
 ·rw[h] at hK ⊢;repeat first|refine Yb rfl ?_|refine Xc rfl ?_|refine Zc rfl ?_|refine Zd rfl ?_
  exact Ya rfl hK
theorem Ycl(x:Ef)(hf:efFit x=true){c:Bool}{σ:List ABlk}{p:Nat}(hB:hget σ p=.box (efC x)){K:List ABlk→AVal→Prop}(hK:K σ (.bool (c||(cntOp x.op&&(nmP x.n).any ptQ)))) :
  VV.gr (.bool c) false (λk=>VV.rd (Za 0 [.bptr p 0] σ) k) λt29_19=>
  VV.gr (.bool c) false (λk=>VV.rd (Qc false 1 [t29_19] σ) k) λt30_20=>
  VV.gw (.bool c) false (λk=>VV.call (.call 130) [t30_20] σ k) σ λt31_21 σ=>
  VV.gr (.bool c) false (λk=>VV.rd (Qg [t31_21] σ) k) λt32_22=>
  VV.gr t32_22 true (λk=>VV.rd (Za 2 [.bptr p 0] σ) k) λt33_23=>
  VV.gr t32_22 true (λk=>VV.rd (Qc true 4 [t33_23] σ) k) λt34_24=>
  VV.gw t32_22 true (λk=>VV.call (.call 131) [t34_24] σ k) σ λt35_25 σ=>
  VV.gr (.bool c) false (λk=>VV.rd (Zi [t32_22,t35_25,(.bool false)] σ) k) λt36_26=>
  VV.rd (Zi [(.bool c),(.bool true),t36_26] σ) (K σ):=by
 cases c with
 |true=>
  repeat first|refine Yb rfl ?_|refine Xc rfl ?_|refine Zc rfl ?_|refine Zd rfl ?_
  exact Ya rfl hK
 |false=>
  refine Xa (Ya rfl (Xa (Ya (ld hB (efLd0 x)) (Zb (Yd (c130 _) rfl g130_ok.plain rfl (Xa (Ya rfl ?_)))))));rcases YBE (cntOp x.op) with h|h
  ·rw[h] at hK ⊢;exact Xa (Ya rfl (Xa (Ya (ld hB (efLdN x)) (Zb (Yd (c131 _ (QU hf)) rfl g131_ok.plain (nmRo _) (Xa (Ya rfl (Ya rfl hK))))))))
  ·rw[h] at hK ⊢;repeat first|refine Yb rfl ?_|refine Xc rfl ?_|refine Zc rfl ?_|refine Zd rfl ?_
   exact Xa (Ya rfl (Ya rfl hK))
theorem Xcl(x:Ef)(hf:efFit x=true)(h1:PC 91 [efV x.thn] (.bool ((efPs x.thn).any ptQ)))(h2:PC 91 [efV x.els] (.bool ((efPs x.els).any ptQ))){σ:List ABlk}{p:Nat}(hB:hget σ p=.box (efC x)){K:List ABlk→AVal→Prop}(hK:K σ (.bool (decide (x.op=8)&&(((cnP x.c).any ptQ||(efPs x.thn).any ptQ)||(efPs x.els).any ptQ)))) :
  VV.gr (.bool (decide (x.op=8))) true (λk=>VV.rd (Za 7 [.bptr p 0] σ) k) λt42_31=>
  VV.gr (.bool (decide (x.op=8))) true (λk=>VV.rd (Qc true 5 [t42_31] σ) k) λt43_32=>
  VV.gw (.bool (decide (x.op=8))) true (λk=>VV.call (.call 132) [t43_32] σ k) σ λt44_33 σ=>
  VV.gr (.bool (decide (x.op=8))) true (λk=>VV.rd (Qg [t44_33] σ) k) λt45_34=>
  VV.gr t45_34 false (λk=>VV.rd (Za 12 [.bptr p 0] σ) k) λt46_35=>
  VV.gr t45_34 false (λk=>VV.rd (Qc false 1 [t46_35] σ) k) λt47_36=>
  VV.gw t45_34 false (λk=>VV.call (.call 91) [t47_36] σ k) σ λt48_37 σ=>
  VV.gr (.bool (decide (x.op=8))) true (λk=>VV.rd (Zi [t45_34,(.bool true),t48_37] σ) k) λt49_38=>
  VV.gr (.bool (decide (x.op=8))) true (λk=>VV.rd (Qg [t49_38] σ) k) λt50_39=>
  VV.gr t50_39 false (λk=>VV.rd (Za 13 [.bptr p 0] σ) k) λt51_40=>
  VV.gr t50_39 false (λk=>VV.rd (Qc false 1 [t51_40] σ) k) λt52_41=>
  VV.gw t50_39 false (λk=>VV.call (.call 91) [t52_41] σ k) σ λt53_42 σ=>
  VV.gr (.bool (decide (x.op=8))) true (λk=>VV.rd (Zi [t50_39,(.bool true),t53_42] σ) k) λt54_43=>
  VV.rd (Zi [(.bool (decide (x.op=8))),t54_43,(.bool false)] σ) (K σ):=by
 rcases YBE (decide (x.op=8)) with h|h
 rotate_left
 ·rw[h] at hK ⊢;repeat first|refine Yb rfl ?_|refine Xc rfl ?_|refine Zc rfl ?_|refine Zd rfl ?_
  exact Ya rfl hK
 rw[h] at hK ⊢;refine Xa (Ya rfl (Xa (Ya (ld hB (efLdC x)) (Zb (Yd (c132 _ (ZR hf)) rfl g132_ok.plain (cnRo _) (Xa (Ya rfl ?_)))))));rcases YBE ((cnP x.c).any ptQ) with hc|hc
 ·rw[hc] at hK ⊢;repeat first|refine Yb rfl ?_|refine Xc rfl ?_|refine Zc rfl ?_|refine Zd rfl ?_
  refine Xa (Ya rfl (Xa (Ya rfl ?_)));repeat first|refine Yb rfl ?_|refine Xc rfl ?_|refine Zc rfl ?_|refine Zd rfl ?_
  exact Xa (Ya rfl (Ya rfl hK))
 rw[hc] at hK ⊢;refine Xa (Ya rfl (Xa (Ya (ld hB (Yo x)) (Zb (Yd h1 rfl g91_ok.plain rfl (Xa (Ya rfl (Xa (Ya rfl ?_)))))))));rcases YBE ((efPs x.thn).any ptQ) with ht|ht
 ·rw[ht] at hK ⊢;repeat first|refine Yb rfl ?_|refine Xc rfl ?_|refine Zc rfl ?_|refine Zd rfl ?_
  exact Xa (Ya rfl (Ya rfl hK))
 rw[ht] at hK ⊢;exact Xa (Ya rfl (Xa (Ya (ld hB (Xo x)) (Zb (Yd h2 rfl g91_ok.plain rfl (Xa (Ya rfl (Ya rfl hK))))))))
theorem c91':∀(k:Nat) (l:List Ef),SizeOf.sizeOf l≤k→lsFit l=true→PC 91 [efV l] (.bool ((efPs l).any ptQ))
 |0,l,h,_=>by cases l<;>simp at h
 |k+1,l,hk,hf=>by
  refine Qd hP g91_ok rfl rfl ?_;unfold g91;have hlen:=Zx hf;rw[bigE] at hlen;refine Zk (ι:=Nat) (λi vs σ=>vs=[iv i]∧i≤l.length∧(efPs l).any ptQ=(l.drop i).any λy=>(efP y).any ptQ) (λi=>l.length-i) 0 ⟨rfl,by omega,by rw[Xbb]; simp⟩ ?_;rintro i vs σ again ⟨rfl,hi,hu⟩ hag;refine Ya rfl (Ya rfl ?_);refine Yc (λh=>?_) (λh=>?_)
  ·have h:i<l.length:=by simpa using h
   have hdr:l.drop i=l[i]::l.drop (i+1):=by rw[YLD h]
   rw[hdr,List.any_cons] at hu;have hm:l[i]∈l:=List.getElem_mem h;have hsz:=List.sizeOf_lt_of_mem hm;have hfx:=ZE hf hm;have ix:=λ(s:List ABlk)=>Zp s efC false false 14 l .i64 i h;generalize l[i]=x at hu hsz hfx ix;rw[Zcb] at hu;have hs2:=ZV x;refine Ya (ix _) (Ya (ldr (efLd _)) ?_);refine Qt (row:=efC x) (row':=efC x) (by rw[Yz]; rfl) (by rw[Yz]; rfl) (by rw[Yz]; rfl) ?_;have hB:=Zm σ (ABlk.box (efC x));generalize σ++[ABlk.box (efC x)]=τ at hB ⊢;generalize σ.length=p at hB;refine Ya rfl (Ya (ld hB (efLd1 x)) (Ya (Qe ..) (Zcl x hB (Ycl x hfx hB ?_))));refine Yc (λhy=>?_) (λhy=>?_)
   ·rw[hu,hy]; rfl
   rw[hy,Bool.false_or] at hu;refine Ya rfl (Ya (ld hB (efLd0 x)) (Ya (Qe ..) (Xcl x hfx (c91' k _ (by omega) (XD hfx)) (c91' k _ (by omega) (YD hfx)) hB ?_)));refine Yc (λhy=>?_) (λhy=>?_)
   ·rw[hu,hy]; rfl
   rw[hy,Bool.false_or] at hu;refine Ya (Ql ..) ?_;rw[Zg (n:=i) (by omega)];exact hag (i+1) _ _ (by omega) ⟨rfl,by omega,hu⟩
  ·have h:i=l.length:=by simp at h; omega
   subst h;rw[List.drop_length] at hu;rw[hu]; rfl
theorem c91(l:List Ef)(hf:lsFit l=true):PC 91 [efV l] (.bool ((efPs l).any ptQ)):=c91' _ l (Nat.le_refl _) hf
theorem c42(c:Cd)(f1:lsFit c.played=true)(f2:lsFit c.dead=true)(f3:lsFit c.dawn=true):PC 42 [.agg (cdC c)] (.bool ((cdP c).any ptQ)):=by
 refine Qd hP g42_ok rfl rfl ?_;unfold g42;refine Yh rfl rfl (Ya rfl (Ya rfl (Yd (c91 _ f1) rfl g91_ok.plain rfl ?_)));rw[show (cdP c).any ptQ=(((efPs c.played).any ptQ||(efPs c.dead).any ptQ)||(efPs c.dawn).any ptQ) by simp[cdP,Bool.or_assoc]];rcases YBE ((efPs c.played).any ptQ) with h|h
 ·rw[h];repeat first|refine Yb rfl ?_|refine Xc rfl ?_|refine Zc rfl ?_|refine Zd rfl ?_
  refine Ya rfl ?_;repeat first|refine Yb rfl ?_|refine Xc rfl ?_|refine Zc rfl ?_|refine Zd rfl ?_
  exact Ya rfl rfl
 rw[h];refine Xa (Ya rfl (Xa (Ya rfl (Zb (Yd (c91 _ f2) rfl g91_ok.plain rfl (Ya rfl ?_))))));rcases YBE ((efPs c.dead).any ptQ) with h2|h2
 ·rw[h2];repeat first|refine Yb rfl ?_|refine Xc rfl ?_|refine Zc rfl ?_|refine Zd rfl ?_
  exact Ya rfl rfl
 rw[h2];exact Xa (Ya rfl (Xa (Ya rfl (Zb (Yd (c91 _ f3) rfl g91_ok.plain rfl (Ya rfl rfl))))))
end Go.Ah.Tz
end
section
namespace Go.Ah.Tz
open Go.Proofs.Tryz (prog)
attribute [local irreducible] Ans.rd Ans.pu Ans.wr Ans.dr Ans.gr Ans.gw Ans.gl Ans.gd Ans.opt joinK W
set_option maxHeartbeats 1000000
def stepN(f:Bool)(p:Pt):Bool×Bool:=(f||ptQ p,!(f||ptQ p))
theorem Zcr:∀(l:List Pt) (f:Bool),f=false→(runL stepN f l).1=l.any ptQ
 |[],f,h=>by subst h; rfl
 |p::l,f,h=>by
  subst h;simp only[runL,stepN,Bool.false_or,List.any_cons];cases h:ptQ p
  ·simp only[Bool.not_false,if_true,Bool.false_or]; exact Zcr l false rfl
  ·simp
theorem clo233(b:Nat):Clo (.func (.func 233) [] [.bptr b 0]) b (λf:Bool=>[.bool f]) stepN:=by
 intro p v hv f σ K hb hK;refine Yy hP rfl g233_ok rfl ?_;show g233 VV [v,.bptr b 0] σ K;unfold g233;have hlt:=Qw hb (by simp);have hend:∀τ,Bt b σ τ→hget τ b=.box [.bool (f||ptQ p)]→VV.rd (Qc false 1 [.bptr b 0] τ) λt=>VV.rd (Yn .not [t] τ) λu=>K u τ:=λτ h1 h2=>Ya (ld h2 rfl) (Ya rfl (hK _ h1 h2));have hb0:∀x,hget (σ++[ABlk.box x]) b=.box [.bool f]:=λx=>Ym _ hb (by simp);have bt0:∀x,Bt b σ (σ++[ABlk.box x]):=λx=>⟨by simp,λc hc _=>QD _ hc⟩;cases hv with
 |ef x=>
  refine Ya rfl (Ya rfl (Ya rfl ?_));refine Qt (row:=[.rptr (efC x) 0]) (row':=[.rptr (efC x) 0]) rfl rfl rfl ?_;refine Qj λk4 hk4=>Ze ?_;have hx:=Zm σ (ABlk.box [.rptr (efC x) 0]);have k4d:∀τ,Bt b σ τ→hget τ b=.box [.bool (f||ptQ (.ef x))]→k4 [] τ:=by
   intro τ h1 h2;rw[hk4];refine Ya rfl (Ya rfl (Ya rfl ?_));refine Qt (row:=[.nilp]) (row':=[.nilp]) rfl rfl rfl ?_;refine YO (Qh (hend _ (h1.trans ⟨by simp,λc hc _=>QD _ hc⟩) (Ym _ h2 (by simp))))
  clear hk4;refine Ya (ld (hb0 _) rfl) ?_;have hst:∀q,q=(f||ptQ (.ef x))→VV.wr (Qb 1 [.bptr b 0,.bool q] (σ++[ABlk.box [.rptr (efC x) 0]])) (σ++[ABlk.box [.rptr (efC x) 0]]) λ_ τ=>k4 [] τ:=by
   rintro q rfl;exact Yh (stv (hb0 _) rfl rfl rfl) (Xu _ (by simp; omega)) (k4d _ ((bt0 _).trans ⟨by simp,λc hc hne=>Qx _ hc hne⟩) (Qr _ (by simp; omega)))
  cases f with
  |true=>
   repeat first|refine Yb rfl ?_|refine Xc rfl ?_|refine Zc rfl ?_|refine Zd rfl ?_
   exact Ya rfl (hst _ rfl)
  |false=>
   refine Xa (Ya rfl (Xa (Ya (ld hx rfl) (Xa (Ya rfl (Xa (Ya rfl (Xa (Ya (ldr (efLd1 x)) (Xa (Ya (Qe ..) (Xa (Ya rfl ?_)))))))))))));rcases YBE (decide (x.who=2)) with h|h
   rotate_left
   ·rw[h];repeat first|refine Yb rfl ?_|refine Xc rfl ?_|refine Zc rfl ?_|refine Zd rfl ?_
    exact Xa (Ya rfl (Ya rfl (hst _ (by simp[ptQ,h]))))
   rw[h];refine Xa (Ya rfl (Xa (Ya (ld hx rfl) (Xa (Ya rfl (Xa (Ya rfl (Xa (Ya (ldr (efLd0 x)) (Xa (Ya (Qe ..) (Xa (Ya rfl ?_)))))))))))));rcases YBE (decide (x.op=0)) with h0|h0
   ·rw[h0];repeat first|refine Yb rfl ?_|refine Xc rfl ?_|refine Zc rfl ?_|refine Zd rfl ?_
    exact Xa (Ya rfl (Xa (Ya rfl (Ya rfl (hst _ (by simp[ptQ,h,h0]))))))
   rw[h0];exact Xa (Ya rfl (Xa (Ya (ld hx rfl) (Xa (Ya rfl (Xa (Ya rfl (Xa (Ya (ldr (efLd0 x)) (Xa (Ya (Qe ..) (Xa (Ya rfl (Xa (Ya rfl (Ya rfl (hst _ (by simp[ptQ,h,h0]))))))))))))))))))
 |nm row j x hx=>
  refine Ya rfl (Ya rfl (Ya rfl ?_));refine Qt (row:=[.nilp]) (row':=[.nilp]) rfl rfl rfl ?_;refine YO (Qh ?_);have hb1:=hb0 [.nilp];have bt1:=bt0 [.nilp];generalize σ++[ABlk.box [.nilp]]=τ at hb1 bt1 ⊢;have hlt1:=Qw hb1 (by simp);refine Ya rfl (Ya rfl (Ya rfl ?_));refine Qt (row:=[.rptr row j]) (row':=[.rptr row j]) rfl rfl rfl ?_;refine Qj λk34 hk34=>Ze ?_;have hy:=Zm τ (ABlk.box [.rptr row j]);have hb2:hget (τ++[ABlk.box [.rptr row j]]) b=.box [.bool f]:=Ym _ hb1 (by simp);refine Ya (ld hb2 rfl) ?_;have hst:∀q,q=(f||ptQ (.nm x))→VV.wr (Qb 1 [.bptr b 0,.bool q] (τ++[ABlk.box [.rptr row j]])) (τ++[ABlk.box [.rptr row j]]) λ_ τ=>k34 [] τ:=by
   rintro q rfl;refine Yh (stv hb2 rfl rfl rfl) (Xu _ (by simp; omega)) ?_;rw[hk34];exact hend _ ((bt1.trans ⟨by simp,λc hc _=>QD _ hc⟩).trans ⟨by simp,λc hc hne=>Qx _ hc hne⟩) (Qr _ (by simp; omega))
  cases f with
  |true=>
   repeat first|refine Yb rfl ?_|refine Xc rfl ?_|refine Zc rfl ?_|refine Zd rfl ?_
   exact Ya rfl (hst _ rfl)
  |false=>
   exact Xa (Ya rfl (Xa (Ya (ld hy rfl) (Xa (Ya rfl (Xa (Ya rfl (Xa (Ya (ldr hx.h0) (Xa (Ya (Qe ..) (Ya rfl (hst _ rfl)))))))))))))
 |cn row j x hx=>
  refine Ya rfl (Ya rfl (Ya rfl ?_));refine Qt (row:=[.nilp]) (row':=[.nilp]) rfl rfl rfl ?_;refine YO (Qh ?_);refine Ya rfl (Ya rfl (Ya rfl ?_));refine Qt (row:=[.nilp]) (row':=[.nilp]) rfl rfl rfl ?_;refine YO (Qh (hend _ ((bt0 _).trans ⟨by simp,λc hc _=>QD _ hc⟩) ?_));rw[show (f||ptQ (.cn x))=f by simp[ptQ]];exact Ym _ (hb0 _) (by simp)
theorem c214(c:Cd)(f1:lsFit c.played=true)(f2:lsFit c.dead=true)(f3:lsFit c.dawn=true)(hN:(cdP c).length≤500000000):PC 214 [.agg (cdC c)] (.bool ((cdP c).any ptQ)):=by
 refine Qd hP g214_ok rfl rfl ?_;unfold g214;refine Yh rfl rfl (Yh rfl rfl (Yh rfl rfl (Ya rfl ?_)));refine Yy hP rfl g155_ok rfl ?_;refine c155 (clo233 1) c f1 f2 f3 hN (s:=false) rfl rfl (λσ' _ hb=>?_);rw[Zcr _ false rfl] at hb;exact Ya (ld hb rfl) rfl
end Go.Ah.Tz
end
section
namespace Go.Ah.Tz
open Go.Proofs.Tryz (prog)
attribute [local irreducible] Ans.rd Ans.pu Ans.wr Ans.dr Ans.gr Ans.gw Ans.gl Ans.gd Ans.opt joinK W
set_option maxHeartbeats 4000000
@[reducible] def aR(y0 y1 y2:AVal)(side place target:Int):List AVal:=[y0,iv side,iv place,iv target,y1,y2]
@[reducible] def aC(side place target:Int):List AVal:=aR (iv8 0) .nils .nils side place target
def YL(b:Bk)(x:Sd)(place:Int):Cd:=(b.cards[((x.hand[place.toNat]?).getD 0).toNat]?).getD default
def aimF(s:St)(target:Int):Bool:=decide (target = -2)||(decide (target = -3)||(decide (target>0)&&(unitR s target).2.2))
def playF(b:Bk)(s:St)(x:Sd)(place target:Int):Bool:=
 (decide (s.phase=0)&&(decide (0≤place)&&decide (place<(x.hand.length:Int))))&&(!(decide ((YL b x place).cost>x.mana)||((YL b x place).unit&&decide ((x.units.length:Int) ≥ 7)))&&(if (cdP (YL b x place)).any ptQ=true then aimF s target else decide (target = -1)))
@[reducible] def zCdC:List AVal:=[.str [],.bool false,iv 0,iv 0,iv 0,iv 0,iv 0,iv 0,.nils,.nils,.nils,iv 0]
theorem Zb8{row:List AVal}{j:Nat}{x:Sd}(hx:SdAt row j x)(u:Bool){σ:List ABlk}{K:AVal→Prop}(hK:K (.bool (u&&decide ((x.units.length:Int) ≥ 7)))) :
  VV.gr (.bool u) true (λk=>VV.rd (Qg [.rptr row j] σ) k) λt74_74=>
  VV.gr (.bool u) true (λk=>VV.rd (Qa [t74_74] σ) k) λt75_75=>
  VV.gr (.bool u) true (λk=>VV.rd (Za 6 [t75_75] σ) k) λt76_76=>
  VV.gr (.bool u) true (λk=>VV.rd (Qc false 1 [t76_76] σ) k) λt77_77=>
  VV.gr (.bool u) true (λk=>VV.rd (Xf [t77_77] σ) k) λt78_78=>
  VV.gr (.bool u) true (λk=>VV.rd (Zh .geq false [t78_78,(.int .i64 7)] σ) k) λt79_79=>
  VV.gr (.bool false) false (λk=>VV.rd (Zi [(.bool u),t79_79,(.bool false)] σ) k) λt80_80=>
  VV.rd (Zi [(.bool false),(.bool true),t80_80] σ) K:=by
 cases u with
 |false=>
  repeat first|refine Yb rfl ?_|refine Xc rfl ?_|refine Zc rfl ?_|refine Zd rfl ?_
  exact Xa (Ya rfl (Ya rfl hK))
 |true=>
  exact Xa (Ya rfl (Xa (Ya rfl (Xa (Ya rfl (Xa (Ya (ldr hx.h6) (Xa (Ya (v:=iv x.units.length) (rd:=[]) (by simp[Xh]) (Xa (Ya (Yaa ..) (Xa (Ya rfl (Ya rfl hK))))))))))))))
theorem Yb8{y1 y2 z0 z1 z2:AVal}{side place target:Int}{c ok:Bool}{σ:List ABlk}(hB:hget σ 0=.box [y1,y2,.rptr (aR z0 z1 z2 side place target) 0]){K:AVal→Prop}(hK:K (.bool (c||(decide (target>0)&&ok)))) :
  VV.gr (.bool c) false (λk=>VV.rd (Za 2 [.bptr 0 0] σ) k) λt120_122=>
  VV.gr (.bool c) false (λk=>VV.rd (Qc false 1 [t120_122] σ) k) λt121_123=>
  VV.gr (.bool c) false (λk=>VV.rd (Qa [t121_123] σ) k) λt122_124=>
  VV.gr (.bool c) false (λk=>VV.rd (Za 3 [t122_124] σ) k) λt123_125=>
  VV.gr (.bool c) false (λk=>VV.rd (Qc false 1 [t123_125] σ) k) λt124_126=>
  VV.gr (.bool c) false (λk=>VV.rd (Zh .gtr false [t124_126,(.int .i64 0)] σ) k) λt125_127=>
  VV.gr (.bool c) false (λk=>VV.rd (Qg [t125_127] σ) k) λt126_128=>
  VV.gr t126_128 true (λk=>VV.rd (Qg [(.bool ok)] σ) k) λt127_129=>
  VV.gr (.bool c) false (λk=>VV.rd (Zi [t126_128,t127_129,(.bool false)] σ) k) λt128_130=>
  VV.rd (Zi [(.bool c),(.bool true),t128_130] σ) K:=by
 cases c with
 |true=>
  repeat first|refine Yb rfl ?_|refine Xc rfl ?_|refine Zc rfl ?_|refine Zd rfl ?_
  exact Ya rfl hK
 |false=>
  refine Xa (Ya rfl (Xa (Ya (ld hB rfl) (Xa (Ya rfl (Xa (Ya rfl (Xa (Ya (ldr rfl) (Xa (Ya (QQ ..) (Xa (Ya rfl ?_)))))))))))));generalize decide (target>0)=p at hK ⊢;cases p with
  |true=>exact Xa (Ya rfl (Xa (Ya rfl (Ya rfl hK))))
  |false=>
   repeat first|refine Yb rfl ?_|refine Xc rfl ?_|refine Zc rfl ?_|refine Zd rfl ?_
   exact Xa (Ya rfl (Ya rfl hK))
theorem c158(b:Bk)(hf:bkFit b=true)(hsm:QG b.cards)(s:St)(hs:StLe 1000000000 s)(side:Int)(j:Nat)(x:Sd)(hx:SdAt (stC s) j x)(hj:∀σ,Xg 2 8 [.rptr (stC s) (0+7),iv side] σ=.ok (.rptr (stC s) j) [] [])(hc:∀c∈x.hand,0≤c∧c.toNat<b.cards.length)(place target:Int){y0 y1 y2:AVal}:PC 158 [.agg [.rptr (bkC b) 0,.rptr (stC s) 0,.rptr (aR y0 y1 y2 side place target) 0]] (.bool (playF b s x place target)):=by
 refine Qd hP g158_ok rfl rfl ?_;unfold g158;refine Yh (v:=.bptr 0 0) (rd:=[]) (up:=[(0,.box [.rptr (bkC b) 0,.rptr (stC s) 0,.rptr (aR y0 y1 y2 side place target) 0])]) rfl rfl ?_;refine Ya rfl (Ya rfl (Ya rfl (Ya rfl (Ya rfl (Ya rfl (Ya rfl (Ya rfl (Ya rfl (Ya (hj _) ?_)))))))));refine Ya rfl (Ya rfl (Ya rfl (Ya rfl (Ya rfl (Ya (Yak ..) ?_)))));refine Ybj (λ_=>rfl) (λ_=>rfl) (λ_=>rfl) (λ_=>rfl) (λ_=>rfl) (λ_=>QS ..) ?_;refine Qcg (λ_=>rfl) (λ_=>rfl) (λ_=>rfl) (λ_=>rfl) (λ_=>rfl) (λ_=>rfl) (λ_=>rfl) (λ_=>rfl) (λ_=>ldr hx.h4) (v10:=iv x.hand.length) (q10:=[]) (λ_=>by simp[Xh]) (λ_=>Yaa ..) ?_;refine Yc (λh=>?_) (λh=>?_)
 ·refine congrArg AVal.bool (Eq.symm ?_);have h:¬(s.phase=0∧0≤place∧place<(x.hand.length:Int)):=by simp at h; omega
  unfold playF;rw[show (decide (s.phase=0)&&(decide (0≤place)&&decide (place<(x.hand.length:Int))))=false by simpa using h,Bool.false_and]
 have h:s.phase=0∧0≤place∧place<(x.hand.length:Int):=by simp at h; omega
 have hpl:playF b s x place target=(!(decide ((YL b x place).cost>x.mana)||((YL b x place).unit&&decide ((x.units.length:Int) ≥ 7)))&&(if (cdP (YL b x place)).any ptQ=true then aimF s target else decide (target = -1))):=by
  unfold playF;rw[show (decide (s.phase=0)&&(decide (0≤place)&&decide (place<(x.hand.length:Int))))=true by simpa using h,Bool.true_and]
 obtain⟨_,h0,h1⟩:=h;have h2:place.toNat<x.hand.length:=by omega
 have hcc:=hc _ (List.getElem_mem h2);have hcard:YL b x place=b.cards[(x.hand[place.toNat]).toNat]'hcc.2:=by simp[YL,List.getElem?_eq_getElem h2,List.getElem?_eq_getElem hcc.2]
 rw[hcard] at hpl;have hfc:cdFit (b.cards[(x.hand[place.toNat]).toNat]'hcc.2)=true:=by
  simp only[bkFit,QC,Bool.and_eq_true,List.all_eq_true] at hf;exact hf.1.2 _ (List.getElem_mem hcc.2)
 have hsc:=hsm _ (List.getElem_mem hcc.2);have hix:=λ(τ:List ABlk)=>XaG τ cel false false 1 x.hand .i64 place h0 h2;have hix2:=λ(τ:List ABlk)=>XaG τ cdC false false 12 b.cards .i64 _ hcc.1 hcc.2;generalize b.cards[(x.hand[place.toNat]).toNat]'hcc.2=cd at hpl hfc hsc hix2;generalize x.hand[place.toNat]=cn at hix hix2;clear hcard hcc h1 h2;refine Qk rfl (Zo rfl rfl (Qk rfl (Qk rfl (Zo rfl rfl (Qk rfl (Qk rfl (Zo (ldr hx.h4) (Zn _) ?_)))))));refine Qk rfl (Zo rfl rfl (Qk rfl (Qk rfl (Zo rfl rfl (Zo (hix _) (Zn _) (Zo (ldr rfl) (Zn _) (Zo (hix2 _) (Zn _) (Zo (ldr (cdLd _)) (Zn _) ?_))))))));refine Zo (v:=.bptr 1 0) (rd:=[]) (up:=[(1,.box zCdC)]) rfl rfl ?_;refine Zo (v:=.junk) (rd:=[]) (up:=[(1,.box (cdC cd))]) rfl rfl (X1 (by rfl) ?_);refine Ya rfl (Ya rfl (Ya rfl (Ya rfl (Ya (ldr hx.h1) (Ya (QQ ..) ?_)))));have hend:playF b s x place target=false→(.bool false:AVal)=.bool (playF b s x place target):=λh=>by rw[h]
 generalize decide (cd.cost>x.mana)=c1 at hpl ⊢;cases c1 with
 |true=>
  repeat first|refine Yb rfl ?_|refine Xc rfl ?_|refine Zc rfl ?_|refine Zd rfl ?_
  exact Ya rfl (Ze (hend (by rw[hpl]; simp)))
 |false=>
 refine Xa (Ya rfl (Xa (Ya (v:=.bool cd.unit) (rd:=[1]) rfl (Xa (Ya rfl ?_)))));refine Zb8 hx cd.unit (Yc (λh=>?_) (λh=>?_))
 ·exact hend (by rw[hpl,h]; simp)
 rw[h,Bool.or_false,Bool.not_false,Bool.true_and] at hpl;clear h;simp only[cdFit,Bool.and_eq_true] at hfc;refine Ya (v:=.agg (cdC cd)) (rd:=[1]) rfl (Yd (c214 cd hfc.2.1 hfc.2.2.1 hfc.2.2.2 hsc) rfl g214_ok.plain rfl (Ya rfl ?_));generalize (cdP cd).any ptQ=q at hpl ⊢;cases q with
 |false=>
  rw[if_neg (by simp)] at hpl;rw[hpl];exact Ze (Ya rfl (Ya rfl (Ya rfl (Ya rfl (Ya (ldr rfl) (Ya (Qe ..) rfl))))))
 |true=>
  rw[if_pos rfl] at hpl;rw[hpl];refine Qh (Qk rfl (Zo rfl rfl (Qk rfl (Zo (v:=stV s) (rd:=[]) rfl rfl (Qk rfl (Zo rfl rfl (Qk rfl (Qk rfl (Zo (ldr rfl) rfl ?_)))))))));refine Yl (c71 s hs target) rfl g71_ok.plain rfl (Qk rfl (Qk rfl (Qk rfl (X1 (by rfl) ?_))));refine Ya rfl (Ya rfl (Ya rfl (Ya rfl (Ya (ldr rfl) (Ya (Qe ..) ?_)))));refine Ybj (λ_=>rfl) (λ_=>rfl) (λ_=>rfl) (λ_=>rfl) (λ_=>ldr rfl) (λ_=>Qe ..) ?_;refine Yb8 rfl ?_;exact congrArg AVal.bool (by rw[aimF,Bool.or_assoc])
def whoF(s:St):Int:=if s.phase=0 then s.mover else if s.phase=1 then 1-s.mover else 0
theorem c37(s:St)(hm:s.mover=0∨s.mover=1):PC 37 [stV s] (iv (whoF s)):=by
 refine Qd hP g37_ok rfl rfl ?_;unfold g37;refine Yh rfl rfl (Ya rfl (Ya rfl ?_));refine Ya (v:=iv s.mover) (rd:=[]) (by rcases hm with h|h<;>rw[h]<;>rfl) ?_;refine Ya rfl (Ya rfl (Ya (Qe ..) ?_));refine Yc (λh=>?_) (λh=>?_)
 ·exact congrArg iv (by rw[whoF,if_pos (by simpa using h)])
 have h0:¬s.phase=0:=by simpa using h
 refine Ya (Qe ..) (Yc (λh=>?_) (λh=>?_))
 ·refine Ya (v:=iv (1-s.mover)) (rd:=[]) (by rcases hm with h|h<;>rw[h]<;>rfl) ?_;exact congrArg iv (by rw[whoF,if_neg h0,if_pos (by simpa using h)])
 ·exact congrArg iv (by rw[whoF,if_neg h0,if_neg (by simpa using h)])
theorem c126(side place target:Int):PC 126 [.rptr (aC side place target) 0] (.bool true):=by
 refine Qd hP g126_ok rfl rfl ?_;unfold g126;refine Ya rfl (Ya rfl (Ya rfl (Ya rfl ?_)));repeat first|refine Yb rfl ?_|refine Xc rfl ?_|refine Zc rfl ?_|refine Zd rfl ?_
 refine Ya rfl (Qh (Ya rfl (Ya rfl (Ya rfl (Ya rfl ?_)))));repeat first|refine Xa ?_|refine Ya rfl ?_
 repeat first|refine Yb rfl ?_|refine Xc rfl ?_|refine Zc rfl ?_|refine Zd rfl ?_
 repeat first|refine Xa ?_|refine Ya rfl ?_
 rfl
theorem c127:PC 127 [] (.agg [.func (.func 158) [] [],.func (.func 159) [] [],.func (.func 160) [] [],.func (.func 161) [] [],.func (.func 162) [] []]):=by
 refine Qd hP g127_ok rfl rfl ?_;unfold g127;exact Yh rfl rfl (Ya rfl (Yh rfl rfl (Xt rfl rfl)))
theorem c83a(b:Bk)(s:St)(hm:s.mover=0∨s.mover=1)(side place target:Int)(hs:¬(side<0∨1<side))(q:Bool)(h158:PC 158 [.agg [.rptr (bkC b) 0,.rptr (stC s) 0,.rptr (aC side place target) 0]] (.bool q)):PC 83 [.rptr (bkC b) 0,.rptr (stC s) 0,.rptr (aC side place target) 0] (iv (if side=whoF s∧q=true then 0 else 210)):=by
 refine Qd hP g83_ok rfl rfl ?_;unfold g83;refine Ya rfl (Ya rfl (Ya (ldr rfl) (Ya (QS ..) ?_)));rw[decide_eq_false (show ¬side<0 by omega)];refine Qj λk4 hk4=>Qh (Ya rfl (Ya rfl (Ya (ldr rfl) (Ya (QQ ..) ?_))));rw[decide_eq_false (show ¬side>1 by omega)];refine Qh (Ya rfl (Ya rfl (Ya (ldr rfl) (Ya rfl (Qh (Ya rfl (Ya rfl (Ya (ldr rfl) (Ya rfl (Qh ?_))))))))));refine Yd (c126 side place target) rfl g126_ok.plain rfl (Ya rfl ?_);rw[hk4];clear hk4 k4;refine Qh (Qk rfl (Qk rfl (Zo (ldr rfl) rfl (Qk rfl ?_))));refine Xa (Qk rfl (Xa (Qk rfl (Xa (Qk rfl (XJ (Zo (ldr rfl) rfl ?_)))))));refine Xa (Qk rfl (Xa (Qk rfl (XJ (Zo (v:=stV s) (rd:=[]) rfl rfl (XJ (Yl (c37 s hm) rfl g37_ok.plain rfl ?_)))))));refine Xa (Qk (Yak ..) (Qk rfl (X1 (by rfl) ?_)));refine Qj λk38 hk38=>?_;refine Yc (λh=>?_) (λh=>?_)
 ·rw[hk38];have h:¬side=whoF s:=by simpa using h
  rw[show decide (side≠whoF s)=true by simpa using h];exact Ze (congrArg iv (by rw[if_neg (λk=>h k.1)]))
 have h:side=whoF s:=by simpa using h
 refine Yl c127 rfl g127_ok.plain rfl (Qk rfl (Qk rfl (Zo (ldr rfl) rfl (Qk rfl (Qk rfl ?_)))));refine Yl h158 rfl g158_ok.plain rfl (Qk rfl (X1 (by rfl) ?_));rw[hk38];cases q with
 |true=>exact Qh (congrArg iv (by rw[if_pos ⟨h,rfl⟩]))
 |false=>exact Ze (congrArg iv (by rw[if_neg (λk=>by cases k.2)]))
theorem c83b(b:Bk)(s:St)(side place target:Int)(hs:side<0∨1<side):PC 83 [.rptr (bkC b) 0,.rptr (stC s) 0,.rptr (aC side place target) 0] (iv 2):=by
 refine Qd hP g83_ok rfl rfl ?_;unfold g83;refine Ya rfl (Ya rfl (Ya (ldr rfl) (Ya (QS ..) ?_)));refine Qj λk4 hk4=>?_;have hk:k4 [.bool true] []:=by
  rw[hk4];exact Ze rfl
 clear hk4;refine Yc (λh=>by rw[h]; exact hk) (λh=>?_);have h:¬side<0:=by simpa using h
 refine Ya rfl (Ya rfl (Ya (ldr rfl) (Ya (QQ ..) ?_)));rw[decide_eq_true (show side>1 by omega)];exact Ze hk
theorem c55(b:Bk)(hf:bkFit b=true)(hsm:QG b.cards)(s:St)(hs:StLe 1000000000 s):PC 55 [bkV b,stV s] (iv (bif mayR (bkR b).1 b s false then 0 else 170)):=by
 refine Qd hP g55_ok rfl rfl ?_;unfold g55;refine Yh (v:=.bptr 0 0) (rd:=[]) (up:=[(0,.box (bkC b))]) rfl rfl ?_;refine Yh (v:=.bptr 1 0) (rd:=[]) (up:=[(1,.box (stC s))]) rfl rfl ?_;refine Qa7 (rd:=[0,1]) (c111 b hf hsm s hs false) rfl g111_ok.plain (.cons (Bor.box (row:=bkC b) rfl (by simp) (BorL.ro rfl)) <| .cons (Bor.box (row:=stC s) rfl (by simp) (BorL.ro rfl)) <| .cons (Bor.ro rfl) .nil) rfl ?_;generalize mayR (bkR b).1 b s false=q;cases q with
 |true=>exact Ya rfl (Qh rfl)
 |false=>exact Ya rfl (Ze rfl)
theorem c35(b:Bk)(hf:bkFit b=true)(hsm:QG b.cards)(s:St)(hs:StLe 1000000000 s)(hm:mayR (bkR b).1 b s false=true)(side place target:Int):∃e:Int,PC 35 [bkV b,stV s,.agg (aC side place target)] (iv e)∧(e=0→side=whoF s∧(side=0∨side=1)∧playF b s (if side=0 then s.s0 else s.s1) place target=true):=by
 have hM:=(ZbE.1 (Qbf hm)).2;have hmv:s.mover=0∨s.mover=1:=by have:=hM.hd; unfold HdP at this; omega
 have key:∀e,PC 83 [.rptr (bkC b) 0,.rptr (stC s) 0,.rptr (aC side place target) 0] (iv e)→PC 35 [bkV b,stV s,.agg (aC side place target)] (iv (if s.phase=2 then 211 else e)):=by
  intro e h83;refine Qd hP g35_ok rfl rfl ?_;unfold g35;refine Yh (v:=.bptr 0 0) (rd:=[]) (up:=[(0,.box (bkC b))]) rfl rfl ?_;refine Yh (v:=.bptr 1 0) (rd:=[]) (up:=[(1,.box (stC s))]) rfl rfl ?_;refine Yh (v:=.bptr 2 0) (rd:=[]) (up:=[(2,.box (aC side place target))]) rfl rfl ?_;refine Ya rfl (Ya rfl (Yd (c55 b hf hsm s hs) rfl g55_ok.plain rfl ?_));rw[hm];refine Ya rfl (Qh (Ya rfl (Ya rfl (Ya (Qe ..) ?_))));refine Yc (λh=>?_) (λh=>?_)
  ·exact congrArg iv (by rw[if_pos (by simpa using h)])
  rw[if_neg (show ¬s.phase=2 by simpa using h)];exact Qa7 (rd:=[0,1,2]) h83 rfl g83_ok.plain (.cons (Bor.box (row:=bkC b) rfl (by simp) (BorL.ro rfl)) <| .cons (Bor.box (row:=stC s) rfl (by simp) (BorL.ro rfl)) <| .cons (Bor.box (row:=aC side place target) rfl (by simp) (BorL.ro rfl)) .nil) rfl rfl
 by_cases hs2:side<0∨1<side
 ·exact⟨_,key _ (c83b b s side place target hs2),λh=>by split at h<;>cases h⟩
 have hcs:∀ {l:List Int} {m:Int},Xn b.cards.length l m=true→∀c∈l,0≤c∧c.toNat<b.cards.length:=λh c hc=>by have:=(Yar.1 h).2 c hc; omega
 rcases (show side=0∨side=1 by omega) with rfl|rfl
 ·refine⟨_,key _ (c83a b s hmv 0 place target (by omega) _ (c158 b hf hsm s hs 0 7 s.s0 (sdAt0 s) (λ_=>rfl) (hcs hM.s0.hand) place target)),λh=>?_⟩;split at h
  ·cases h
  split at h
  ·rename_i k; exact⟨k.1,.inl rfl,k.2⟩
  ·cases h
 ·refine⟨_,key _ (c83a b s hmv 1 place target (by omega) _ (c158 b hf hsm s hs 1 15 s.s1 (sdAt1 s) (λ_=>rfl) (hcs hM.s1.hand) place target)),λh=>?_⟩;split at h
  ·cases h
  split at h
  ·rename_i k; exact⟨k.1,.inr rfl,k.2⟩
  ·cases h
end Go.Ah.Tz
end
section
namespace Go.Ah.Tz
open Go.Proofs.Tryz (prog)
theorem Xae{b:Bk}{s:St}{x:Sd}{place target:Int}(h:playF b s x place target=true):s.phase=0∧0≤place∧place<(x.hand.length:Int)∧(YL b x place).cost≤x.mana∧(cdP (YL b x place)).any ptQ=decide (target≠-1):=by
 unfold playF at h;simp only[Bool.and_eq_true,decide_eq_true_eq,Bool.not_eq_true',Bool.or_eq_false_iff,decide_eq_false_iff_not] at h;obtain⟨⟨h1,h2,h3⟩,⟨h4,_⟩,h5⟩:=h;refine⟨h1,h2,h3,by omega,?_⟩;cases hq:(cdP (YL b x place)).any ptQ with
 |true=>
  rw[if_pos hq] at h5;simp only[aimF,Bool.or_eq_true,Bool.and_eq_true,decide_eq_true_eq] at h5;symm;rw[decide_eq_true_eq];rcases h5 with h5|h5|⟨h5,_⟩<;>omega
 |false=>
  rw[if_neg (by simp[hq])] at h5;symm;simpa using h5
attribute [local irreducible] Ans.rd Ans.pu Ans.wr Ans.dr Ans.gr Ans.gw Ans.gl Ans.gd Ans.opt joinK W
set_option maxHeartbeats 8000000
theorem c9_0(h34:PC 34 [] (.bool true))(b:Bk)(hf:bkFit b=true)(s:St)(place target:Int)(hmv:s.mover=0)(hh:∀c∈s.s0.hand,0≤c∧c.toNat<b.cards.length)(hp:playF b s s.s0 place target=true){σ:List ABlk}(h0:hget σ 0=.box (bkC b))(h1:hget σ 1=.box (stC s))(hl:σ.length=3) :
  VV.rd (Za 1 [.bptr 1 0] σ) λt35_19=>
  VV.rd (Qc false 1 [t35_19] σ) λt36_20=>
  VV.rd (Zh .neq false [iv 0,t36_20] σ) λt37_21=>
  VV.gr t37_21 false (λk=>VV.rd (Za 2 [.bptr 1 0] σ) k) λt39_22=>
  VV.gr t37_21 false (λk=>VV.rd (Qc false 1 [t39_22] σ) k) λt40_23=>
  VV.gr t37_21 false (λk=>VV.rd (Zh .neq false [t40_23,(.int .i8 0)] σ) k) λt41_24=>
  VV.rd (Zi [t37_21,(.bool true),t41_24] σ) λt42_25=>
  VV.gr t42_25 false (λk=>VV.rd (Qg [iv place] σ) k) λt44_26=>
  VV.gr t42_25 false (λk=>VV.rd (Zh .lss false [t44_26,(.int .i64 0)] σ) k) λt45_27=>
  VV.rd (Zi [t42_25,(.bool true),t45_27] σ) λt46_28=>
  VV.gr t46_28 false (λk=>VV.rd (Qg [iv place] σ) k) λt48_29=>
  VV.gr t46_28 false (λk=>VV.rd (Qg [iv 0] σ) k) λt49_30=>
  VV.gr t46_28 false (λk=>VV.rd (Za 7 [.bptr 1 0] σ) k) λt50_31=>
  VV.gr t46_28 false (λk=>VV.rd (Xg 2 8 [t50_31,t49_30] σ) k) λt51_32=>
  VV.gr t46_28 false (λk=>VV.rd (Za 4 [t51_32] σ) k) λt52_33=>
  VV.gr t46_28 false (λk=>VV.rd (Qc false 1 [t52_33] σ) k) λt53_34=>
  VV.gr t46_28 false (λk=>VV.rd (Xf [t53_34] σ) k) λt54_35=>
  VV.gr t46_28 false (λk=>VV.rd (Zh .geq false [t48_29,t54_35] σ) k) λt55_36=>
  VV.rd (Zi [t46_28,(.bool true),t55_36] σ) λt56_37=>
  VV.test t56_37 (
  (AVal.bool false=.bool true)) (
  VV.pu (Za 0 [.bptr 0 0] σ) λt57_38=>
  VV.dr (Qc false 1 [t57_38] σ) σ λt58_39 l40 σ=>
  VV.pu (Za 7 [.bptr 1 0] σ) λt60_41=>
  VV.pu (Xg 2 8 [t60_41,iv 0] σ) λt61_42=>
  VV.pu (Za 4 [t61_42] σ) λt62_43=>
  VV.dr (Qc false 1 [t62_43] σ) σ λt63_44 l45 σ=>
  VV.dr (Xb 1 [t63_44,iv place] σ) σ λt65_46 l47 σ=>
  VV.dr (Qc false 1 [t65_46] σ) σ λt66_48 l49 σ=>
  VV.dr (Xb 12 [t58_39,t66_48] σ) σ λt67_50 l51 σ=>
  VV.dr (Qc true 12 [t67_50] σ) σ λt68_52 l53 σ=>
  VV.dr (Xe [(.str []),(.bool false),(.int .i64 0),(.int .i64 0),(.int .i64 0),(.int .i64 0),(.int .i64 0),(.int .i64 0),.nils,.nils,.nils,(.int .i64 0)] [] σ) σ λt11_54 l55 σ=>
  VV.dr (Qb 12 [t11_54,t68_52] σ) σ λ_ l56 σ=>
  VV.gd (Yg [[],[0],[],[],[2,3],[2,3,4],[2,3,4,5],[],[2,3,4,5,6,7],[2,3,4,5,6,7,8],[0,1,2,3,4,5,6,7,8,9],[0,1,2,3,4,5,6,7,8,9,10],[],[0,1,2,3,4,5,6,7,8,9,10,11,12]] [([],[]),l40,([],[]),([],[]),([],[]),([],[]),l45,([],[]),l47,l49,l51,l53,l55,l56]) <|
  VV.pu (Za 2 [t11_54] σ) λt69_57=>
  VV.dr (Qc false 1 [t69_57] σ) σ λt70_58 l59 σ=>
  VV.pu (Za 7 [.bptr 1 0] σ) λt72_60=>
  VV.pu (Xg 2 8 [t72_60,iv 0] σ) λt73_61=>
  VV.pu (Za 1 [t73_61] σ) λt74_62=>
  VV.dr (Qc false 1 [t74_62] σ) σ λt75_63 l64 σ=>
  VV.pu (Zh .leq false [t70_58,t75_63] σ) λt76_65=>
  VV.gl t76_65 true (λk=>VV.dr (Qc true 12 [t11_54] σ) σ k) σ λt78_66 l67 σ=>
  VV.gl t76_65 true (λk=>VV.dcall (.call 42) [t78_66] σ k) σ λt79_68 l69 σ=>
  VV.gr t76_65 true (λk=>VV.pu (Qg [iv target] σ) k) λt80_70=>
  VV.gr t76_65 true (λk=>VV.pu (Zh .neq false [t80_70,(.int .i64 (-1))] σ) k) λt81_71=>
  VV.gr t76_65 true (λk=>VV.pu (Zh .eql true [t79_68,t81_71] σ) k) λt82_72=>
  VV.pu (Zi [t76_65,t82_72,(.bool false)] σ) λt83_73=>
  VV.gl t83_73 true (λk=>VV.dcall (.call 34) [] σ k) σ λt85_74 l75 σ=>
  VV.pu (Zi [t83_73,t85_74,(.bool false)] σ) λt86_76=>
  VV.gd (Yg [[],[0],[],[],[2,3],[2,3,4],[2,3,4,5],[0,1,2,3,4,5,6],[0,1,2,3,4,5,6,7],[0,1,2,3,4,5,6,7,8],[0,1,2,3,4,5,6,7,8,9],[0,1,2,3,4,5,6,7,8],[0,1,2,3,4,5,6,7,8,11],[0,1,2,3,4,5,6,7,8,9,10,11,12],[0,1,2,3,4,5,6,7,8,9,10,11,12,13],[0,1,2,3,4,5,6,7,8,9,10,11,12,13,14],[0,1,2,3,4,5,6,7,8,9,10,11,12,13,14,15],[0,1,2,3,4,5,6,7,8,9,10,11,12,13,14,15,16],[0,1,2,3,4,5,6,7,8,9,10,11,12,13,14,15,16,17]] [([],[]),l59,([],[]),([],[]),([],[]),([],[]),l64,([],[]),([],[]),l67,l69,([],[]),([],[]),([],[]),([],[]),([],[]),l75,([],[]),([],[])]) <|
  t86_76=.bool true):=by
 obtain⟨p0,p1,p2,p3,p4⟩:=Xae hp;refine Ya rfl (Ya (ld h1 rfl) (Ya (v:=.bool false) (rd:=[]) (by rw[hmv]; rfl) ?_));refine Xa (Ya rfl (Xa (Ya (ld h1 rfl) (Xa (Ya (v:=.bool false) (rd:=[]) (by rw[p0]; rfl) (Ya rfl ?_))))));refine Xa (Ya rfl (Xa (Ya (QS ..) (Ya rfl ?_))));rw[decide_eq_false (show ¬place<0 by omega)];refine Xa (Ya rfl (Xa (Ya rfl (Xa (Ya rfl (Xa (Ya rfl (Xa (Ya rfl (Xa (Ya (ld h1 rfl) ?_)))))))))));refine Xa (Ya (v:=iv s.s0.hand.length) (rd:=[]) (by simp[Xh]) (Xa (Ya (Yaa ..) (Ya rfl ?_))));rw[decide_eq_false (show ¬place ≥ (s.s0.hand.length:Int) by omega)];have h2:place.toNat<s.s0.hand.length:=by omega
 have hcc:=hh _ (List.getElem_mem h2);have hcard:YL b s.s0 place=b.cards[(s.s0.hand[place.toNat]).toNat]'hcc.2:=by simp[YL,List.getElem?_eq_getElem h2,List.getElem?_eq_getElem hcc.2]
 rw[hcard] at p3 p4;have hfc:cdFit (b.cards[(s.s0.hand[place.toNat]).toNat]'hcc.2)=true:=by
  simp only[bkFit,QC,Bool.and_eq_true,List.all_eq_true] at hf;exact hf.1.2 _ (List.getElem_mem hcc.2)
 have hix:=λ(τ:List ABlk)=>XaG τ cel false false 1 s.s0.hand .i64 place p1 h2;have hix2:=λ(τ:List ABlk)=>XaG τ cdC false false 12 b.cards .i64 _ hcc.1 hcc.2;generalize b.cards[(s.s0.hand[place.toNat]).toNat]'hcc.2=cd at p3 p4 hfc hix2;generalize s.s0.hand[place.toNat]=cn at hix hix2;clear hcard hcc h2 hp p2 p1 p0 hh hf;refine Qh (Qk rfl (Zo (ld h0 rfl) rfl (Qk rfl (Qk rfl (Qk rfl (Zo (ld h1 rfl) rfl ?_))))));refine Zo (hix _) (Zn _) (Zo (ldr rfl) (Zn _) (Zo (hix2 _) (Zn _) (Zo (ldr (cdLd _)) (Zn _) ?_)));refine Zo (v:=.bptr 3 0) (rd:=[]) (up:=[(3,.box zCdC)]) (by rw[←hl]; exact Za3 ..) (by rw[←hl]; exact QO _ _) ?_;refine Zo (v:=.junk) (rd:=[]) (stv (row':=cdC cd) (by rw[←hl]; exact Zm _ _) rfl rfl rfl) (Xu _ (by simp[hl])) (X1 (by kernel_rfl) ?_);have g3:hget ((σ++[ABlk.box zCdC]).set 3 (ABlk.box (cdC cd))) 3=.box (cdC cd):=Qr _ (by simp[hl]);have g1:hget ((σ++[ABlk.box zCdC]).set 3 (ABlk.box (cdC cd))) 1=.box (stC s):=Yu (Ym _ h1 (by simp)) (by simp) (by decide);generalize (σ++[ABlk.box zCdC]).set 3 (ABlk.box (cdC cd))=τ at g3 g1 ⊢;clear h0 h1 hl hix hix2;simp only[cdFit,Bool.and_eq_true] at hfc;refine Qk rfl (Zo (ld g3 rfl) rfl (Qk rfl (Qk rfl (Qk rfl (Zo (ld g1 rfl) rfl (Qk (Zbm ..) ?_))))));rw[decide_eq_true p3];refine XJ (Zo (v:=.agg (cdC cd)) (rd:=[3]) (ld g3 rfl) rfl (XJ (Yl (c42 cd hfc.2.1 hfc.2.2.1 hfc.2.2.2) rfl g42_ok.plain rfl ?_)));refine Xa (Qk rfl (Xa (Qk (Yak ..) ?_)));rw[p4];refine Xa (Qk (v:=.bool true) (by cases decide (target≠-1)<;>rfl) (Qk rfl ?_));exact XJ (Yl h34 rfl g34_ok.plain rfl (Qk rfl (X1 (by kernel_rfl) rfl)))
theorem c9_1(h34:PC 34 [] (.bool true))(b:Bk)(hf:bkFit b=true)(s:St)(place target:Int)(hmv:s.mover=1)(hh:∀c∈s.s1.hand,0≤c∧c.toNat<b.cards.length)(hp:playF b s s.s1 place target=true){σ:List ABlk}(h0:hget σ 0=.box (bkC b))(h1:hget σ 1=.box (stC s))(hl:σ.length=3) :
  VV.rd (Za 1 [.bptr 1 0] σ) λt35_19=>
  VV.rd (Qc false 1 [t35_19] σ) λt36_20=>
  VV.rd (Zh .neq false [iv 1,t36_20] σ) λt37_21=>
  VV.gr t37_21 false (λk=>VV.rd (Za 2 [.bptr 1 0] σ) k) λt39_22=>
  VV.gr t37_21 false (λk=>VV.rd (Qc false 1 [t39_22] σ) k) λt40_23=>
  VV.gr t37_21 false (λk=>VV.rd (Zh .neq false [t40_23,(.int .i8 0)] σ) k) λt41_24=>
  VV.rd (Zi [t37_21,(.bool true),t41_24] σ) λt42_25=>
  VV.gr t42_25 false (λk=>VV.rd (Qg [iv place] σ) k) λt44_26=>
  VV.gr t42_25 false (λk=>VV.rd (Zh .lss false [t44_26,(.int .i64 0)] σ) k) λt45_27=>
  VV.rd (Zi [t42_25,(.bool true),t45_27] σ) λt46_28=>
  VV.gr t46_28 false (λk=>VV.rd (Qg [iv place] σ) k) λt48_29=>
  VV.gr t46_28 false (λk=>VV.rd (Qg [iv 1] σ) k) λt49_30=>
  VV.gr t46_28 false (λk=>VV.rd (Za 7 [.bptr 1 0] σ) k) λt50_31=>
  VV.gr t46_28 false (λk=>VV.rd (Xg 2 8 [t50_31,t49_30] σ) k) λt51_32=>
  VV.gr t46_28 false (λk=>VV.rd (Za 4 [t51_32] σ) k) λt52_33=>
  VV.gr t46_28 false (λk=>VV.rd (Qc false 1 [t52_33] σ) k) λt53_34=>
  VV.gr t46_28 false (λk=>VV.rd (Xf [t53_34] σ) k) λt54_35=>
  VV.gr t46_28 false (λk=>VV.rd (Zh .geq false [t48_29,t54_35] σ) k) λt55_36=>
  VV.rd (Zi [t46_28,(.bool true),t55_36] σ) λt56_37=>
  VV.test t56_37 (
  (AVal.bool false=.bool true)) (
  VV.pu (Za 0 [.bptr 0 0] σ) λt57_38=>
  VV.dr (Qc false 1 [t57_38] σ) σ λt58_39 l40 σ=>
  VV.pu (Za 7 [.bptr 1 0] σ) λt60_41=>
  VV.pu (Xg 2 8 [t60_41,iv 1] σ) λt61_42=>
  VV.pu (Za 4 [t61_42] σ) λt62_43=>
  VV.dr (Qc false 1 [t62_43] σ) σ λt63_44 l45 σ=>
  VV.dr (Xb 1 [t63_44,iv place] σ) σ λt65_46 l47 σ=>
  VV.dr (Qc false 1 [t65_46] σ) σ λt66_48 l49 σ=>
  VV.dr (Xb 12 [t58_39,t66_48] σ) σ λt67_50 l51 σ=>
  VV.dr (Qc true 12 [t67_50] σ) σ λt68_52 l53 σ=>
  VV.dr (Xe [(.str []),(.bool false),(.int .i64 0),(.int .i64 0),(.int .i64 0),(.int .i64 0),(.int .i64 0),(.int .i64 0),.nils,.nils,.nils,(.int .i64 0)] [] σ) σ λt11_54 l55 σ=>
  VV.dr (Qb 12 [t11_54,t68_52] σ) σ λ_ l56 σ=>
  VV.gd (Yg [[],[0],[],[],[2,3],[2,3,4],[2,3,4,5],[],[2,3,4,5,6,7],[2,3,4,5,6,7,8],[0,1,2,3,4,5,6,7,8,9],[0,1,2,3,4,5,6,7,8,9,10],[],[0,1,2,3,4,5,6,7,8,9,10,11,12]] [([],[]),l40,([],[]),([],[]),([],[]),([],[]),l45,([],[]),l47,l49,l51,l53,l55,l56]) <|
  VV.pu (Za 2 [t11_54] σ) λt69_57=>
  VV.dr (Qc false 1 [t69_57] σ) σ λt70_58 l59 σ=>
  VV.pu (Za 7 [.bptr 1 0] σ) λt72_60=>
  VV.pu (Xg 2 8 [t72_60,iv 1] σ) λt73_61=>
  VV.pu (Za 1 [t73_61] σ) λt74_62=>
  VV.dr (Qc false 1 [t74_62] σ) σ λt75_63 l64 σ=>
  VV.pu (Zh .leq false [t70_58,t75_63] σ) λt76_65=>
  VV.gl t76_65 true (λk=>VV.dr (Qc true 12 [t11_54] σ) σ k) σ λt78_66 l67 σ=>
  VV.gl t76_65 true (λk=>VV.dcall (.call 42) [t78_66] σ k) σ λt79_68 l69 σ=>
  VV.gr t76_65 true (λk=>VV.pu (Qg [iv target] σ) k) λt80_70=>
  VV.gr t76_65 true (λk=>VV.pu (Zh .neq false [t80_70,(.int .i64 (-1))] σ) k) λt81_71=>
  VV.gr t76_65 true (λk=>VV.pu (Zh .eql true [t79_68,t81_71] σ) k) λt82_72=>
  VV.pu (Zi [t76_65,t82_72,(.bool false)] σ) λt83_73=>
  VV.gl t83_73 true (λk=>VV.dcall (.call 34) [] σ k) σ λt85_74 l75 σ=>
  VV.pu (Zi [t83_73,t85_74,(.bool false)] σ) λt86_76=>
  VV.gd (Yg [[],[0],[],[],[2,3],[2,3,4],[2,3,4,5],[0,1,2,3,4,5,6],[0,1,2,3,4,5,6,7],[0,1,2,3,4,5,6,7,8],[0,1,2,3,4,5,6,7,8,9],[0,1,2,3,4,5,6,7,8],[0,1,2,3,4,5,6,7,8,11],[0,1,2,3,4,5,6,7,8,9,10,11,12],[0,1,2,3,4,5,6,7,8,9,10,11,12,13],[0,1,2,3,4,5,6,7,8,9,10,11,12,13,14],[0,1,2,3,4,5,6,7,8,9,10,11,12,13,14,15],[0,1,2,3,4,5,6,7,8,9,10,11,12,13,14,15,16],[0,1,2,3,4,5,6,7,8,9,10,11,12,13,14,15,16,17]] [([],[]),l59,([],[]),([],[]),([],[]),([],[]),l64,([],[]),([],[]),l67,l69,([],[]),([],[]),([],[]),([],[]),([],[]),l75,([],[]),([],[])]) <|
  t86_76=.bool true):=by
 obtain⟨p0,p1,p2,p3,p4⟩:=Xae hp;refine Ya rfl (Ya (ld h1 rfl) (Ya (v:=.bool false) (rd:=[]) (by rw[hmv]; rfl) ?_));refine Xa (Ya rfl (Xa (Ya (ld h1 rfl) (Xa (Ya (v:=.bool false) (rd:=[]) (by rw[p0]; rfl) (Ya rfl ?_))))));refine Xa (Ya rfl (Xa (Ya (QS ..) (Ya rfl ?_))));rw[decide_eq_false (show ¬place<0 by omega)];refine Xa (Ya rfl (Xa (Ya rfl (Xa (Ya rfl (Xa (Ya rfl (Xa (Ya rfl (Xa (Ya (ld h1 rfl) ?_)))))))))));refine Xa (Ya (v:=iv s.s1.hand.length) (rd:=[]) (by simp[Xh]) (Xa (Ya (Yaa ..) (Ya rfl ?_))));rw[decide_eq_false (show ¬place ≥ (s.s1.hand.length:Int) by omega)];have h2:place.toNat<s.s1.hand.length:=by omega
 have hcc:=hh _ (List.getElem_mem h2);have hcard:YL b s.s1 place=b.cards[(s.s1.hand[place.toNat]).toNat]'hcc.2:=by simp[YL,List.getElem?_eq_getElem h2,List.getElem?_eq_getElem hcc.2]
 rw[hcard] at p3 p4;have hfc:cdFit (b.cards[(s.s1.hand[place.toNat]).toNat]'hcc.2)=true:=by
  simp only[bkFit,QC,Bool.and_eq_true,List.all_eq_true] at hf;exact hf.1.2 _ (List.getElem_mem hcc.2)
 have hix:=λ(τ:List ABlk)=>XaG τ cel false false 1 s.s1.hand .i64 place p1 h2;have hix2:=λ(τ:List ABlk)=>XaG τ cdC false false 12 b.cards .i64 _ hcc.1 hcc.2;generalize b.cards[(s.s1.hand[place.toNat]).toNat]'hcc.2=cd at p3 p4 hfc hix2;generalize s.s1.hand[place.toNat]=cn at hix hix2;clear hcard hcc h2 hp p2 p1 p0 hh hf;refine Qh (Qk rfl (Zo (ld h0 rfl) rfl (Qk rfl (Qk rfl (Qk rfl (Zo (ld h1 rfl) rfl ?_))))));refine Zo (hix _) (Zn _) (Zo (ldr rfl) (Zn _) (Zo (hix2 _) (Zn _) (Zo (ldr (cdLd _)) (Zn _) ?_)));refine Zo (v:=.bptr 3 0) (rd:=[]) (up:=[(3,.box zCdC)]) (by rw[←hl]; exact Za3 ..) (by rw[←hl]; exact QO _ _) ?_;refine Zo (v:=.junk) (rd:=[]) (stv (row':=cdC cd) (by rw[←hl]; exact Zm _ _) rfl rfl rfl) (Xu _ (by simp[hl])) (X1 (by kernel_rfl) ?_);have g3:hget ((σ++[ABlk.box zCdC]).set 3 (ABlk.box (cdC cd))) 3=.box (cdC cd):=Qr _ (by simp[hl]);have g1:hget ((σ++[ABlk.box zCdC]).set 3 (ABlk.box (cdC cd))) 1=.box (stC s):=Yu (Ym _ h1 (by simp)) (by simp) (by decide);generalize (σ++[ABlk.box zCdC]).set 3 (ABlk.box (cdC cd))=τ at g3 g1 ⊢;clear h0 h1 hl hix hix2;simp only[cdFit,Bool.and_eq_true] at hfc;refine Qk rfl (Zo (ld g3 rfl) rfl (Qk rfl (Qk rfl (Qk rfl (Zo (ld g1 rfl) rfl (Qk (Zbm ..) ?_))))));rw[decide_eq_true p3];refine XJ (Zo (v:=.agg (cdC cd)) (rd:=[3]) (ld g3 rfl) rfl (XJ (Yl (c42 cd hfc.2.1 hfc.2.2.1 hfc.2.2.2) rfl g42_ok.plain rfl ?_)));refine Xa (Qk rfl (Xa (Qk (Yak ..) ?_)));rw[p4];refine Xa (Qk (v:=.bool true) (by cases decide (target≠-1)<;>rfl) (Qk rfl ?_));exact XJ (Yl h34 rfl g34_ok.plain rfl (Qk rfl (X1 (by kernel_rfl) rfl)))
theorem c9(h34:PC 34 [] (.bool true))(b:Bk)(hf:bkFit b=true)(hsm:QG b.cards)(s:St)(hs:StLe 2000000 s)(side place target:Int):PC 9 [bkV b,stV s,iv side,iv place,iv target] (.bool true):=by
 have h67:=c67 b hf;refine Qd hP g9_ok rfl rfl ?_;unfold g9;refine Yh (v:=.bptr 0 0) (rd:=[]) (up:=[(0,.box (bkC b))]) rfl rfl ?_;refine Yh (v:=.bptr 1 0) (rd:=[]) (up:=[(1,.box (stC s))]) rfl rfl ?_;refine Ya rfl ?_;refine Yy hP rfl g14_ok rfl (c14 b hf _ _ (λq=>?_));have hend:∀σ,VV.call (.call 34) [] σ λt44_18 σ=>(λ(v':AVal) (_:List ABlk)=>v'=.bool true) t44_18 σ:=λσ=>Yd h34 rfl g34_ok.plain rfl rfl;cases q with
 |true=>
  repeat first|refine Yb rfl ?_|refine Zc rfl ?_
  refine Ya rfl ?_;repeat first|refine Yb rfl ?_|refine Zc rfl ?_
  exact Ya rfl (Ze (hend _))
 |false=>
 refine Xa (Ya rfl (Zb ?_));obtain⟨q,h15⟩:=c15 s;refine Yd h15 rfl g15_ok.plain rfl ?_;cases q with
 |true=>
  refine Ya rfl ?_;repeat first|refine Yb rfl ?_|refine Zc rfl ?_
  exact Ya rfl (Ze (hend _))
 |false=>
 refine Ya rfl (Xa (Ya rfl (Xa (Ya rfl (Zb ?_)))));refine Yd (c16 b s (hs.mono (by decide)) _ _ h67) rfl g16_ok.plain rfl ?_;rcases YBE (mayR (bkR b).1 b s false) with hm0|hm0
 rotate_left
 ·rw[hm0];exact Xa (Ya rfl (Ya rfl (Ze (hend _))))
 rw[hm0];refine Xa (Ya rfl (Ya rfl (Qh ?_)));obtain⟨e,h35,he⟩:=c35 b hf hsm s (hs.mono (by decide)) hm0 side place target;refine Ya rfl (Ya rfl (Ya rfl (Yd h35 rfl g35_ok.plain rfl (Ya (Yak ..) (Yc (λ_=>hend _) (λh=>?_))))));obtain⟨h1,h2,h3⟩:=he (by simpa using h);have hM:=(ZbE.1 (Qbf hm0)).2;have hcs:∀ {l:List Int} {m:Int},Xn b.cards.length l m=true→∀c∈l,0≤c∧c.toNat<b.cards.length:=λh c hc=>by have:=(Yar.1 h).2 c hc; omega
 have hw:side=s.mover:=by
  rw[h1,whoF,if_pos (Xae h3).1]
 rcases h2 with rfl|rfl
 ·exact c9_0 h34 b hf s place target hw.symm (hcs hM.s0.hand) h3 rfl rfl rfl
 ·exact c9_1 h34 b hf s place target hw.symm (hcs hM.s1.hand) h3 rfl rfl rfl
end Go.Ah.Tz
end
section
namespace Go.Ah.Tz
open Go.Proofs.Tryz (prog)
set_option maxRecDepth 100000
def tb34:GT:=(.node 191 1 g191 (.node 149 1 g149 (.node 118 2 g118 (.node 77 2 g77 (.node 55 2 g55 (.node 37 1 g37 (.node 35 3 g35 (.node 34 0 g34 .leaf .leaf) .leaf) (.node 39 3 g39 .leaf .leaf)) (.node 71 2 g71 (.node 67 1 g67 (.node 57 1 g57 .leaf .leaf) .leaf) (.node 76 1 g76 .leaf .leaf))) (.node 110 1 g110 (.node 88 5 g88 (.node 83 3 g83 (.node 78 1 g78 .leaf .leaf) .leaf) (.node 89 1 g89 .leaf .leaf)) (.node 114 1 g114 (.node 113 1 g113 (.node 111 3 g111 .leaf .leaf) .leaf) (.node 115 2 g115 .leaf .leaf)))) (.node 130 1 g130 (.node 124 1 g124 (.node 121 1 g121 (.node 120 2 g120 (.node 119 2 g119 .leaf .leaf) .leaf) (.node 122 1 g122 .leaf .leaf)) (.node 128 4 g128 (.node 127 0 g127 (.node 126 1 g126 .leaf .leaf) .leaf) (.node 129 1 g129 .leaf .leaf))) (.node 145 2 g145 (.node 143 1 g143 (.node 142 1 g142 (.node 138 2 g138 .leaf .leaf) .leaf) (.node 144 4 g144 .leaf .leaf)) (.node 147 1 g147 (.node 146 2 g146 .leaf .leaf) (.node 148 2 g148 .leaf .leaf))))) (.node 169 2 g169 (.node 159 1 g159 (.node 154 2 g154 (.node 152 2 g152 (.node 151 2 g151 (.node 150 1 g150 .leaf .leaf) .leaf) (.node 153 2 g153 .leaf .leaf)) (.node 157 3 g157 (.node 156 2 g156 (.node 155 2 g155 .leaf .leaf) .leaf) (.node 158 1 g158 .leaf .leaf))) (.node 164 3 g164 (.node 162 1 g162 (.node 161 1 g161 (.node 160 1 g160 .leaf .leaf) .leaf) (.node 163 3 g163 .leaf .leaf)) (.node 167 3 g167 (.node 166 3 g166 (.node 165 3 g165 .leaf .leaf) .leaf) (.node 168 3 g168 .leaf .leaf)))) (.node 182 1 g182 (.node 176 2 g176 (.node 172 1 g172 (.node 171 4 g171 (.node 170 4 g170 .leaf .leaf) .leaf) (.node 173 1 g173 .leaf .leaf)) (.node 180 1 g180 (.node 179 1 g179 (.node 178 1 g178 .leaf .leaf) .leaf) (.node 181 1 g181 .leaf .leaf))) (.node 187 1 g187 (.node 185 2 g185 (.node 184 1 g184 (.node 183 1 g183 .leaf .leaf) .leaf) (.node 186 2 g186 .leaf .leaf)) (.node 189 2 g189 (.node 188 3 g188 .leaf .leaf) (.node 190 2 g190 .leaf .leaf)))))) (.node 230 1 g230 (.node 211 2 g211 (.node 201 2 g201 (.node 196 2 g196 (.node 194 1 g194 (.node 193 2 g193 (.node 192 1 g192 .leaf .leaf) .leaf) (.node 195 2 g195 .leaf .leaf)) (.node 199 0 g199 (.node 198 1 g198 (.node 197 1 g197 .leaf .leaf) .leaf) (.node 200 1 g200 .leaf .leaf))) (.node 206 1 g206 (.node 204 3 g204 (.node 203 2 g203 (.node 202 1 g202 .leaf .leaf) .leaf) (.node 205 1 g205 .leaf .leaf)) (.node 209 1 g209 (.node 208 2 g208 (.node 207 1 g207 .leaf .leaf) .leaf) (.node 210 1 g210 .leaf .leaf)))) (.node 221 2 g221 (.node 216 1 g216 (.node 214 1 g214 (.node 213 2 g213 (.node 212 1 g212 .leaf .leaf) .leaf) (.node 215 4 g215 .leaf .leaf)) (.node 219 5 g219 (.node 218 3 g218 (.node 217 1 g217 .leaf .leaf) .leaf) (.node 220 1 g220 .leaf .leaf))) (.node 226 2 g226 (.node 224 2 g224 (.node 223 1 g223 (.node 222 2 g222 .leaf .leaf) .leaf) (.node 225 1 g225 .leaf .leaf)) (.node 228 3 g228 (.node 227 1 g227 .leaf .leaf) (.node 229 0 g229 .leaf .leaf))))) (.node 249 1 g249 (.node 240 3 g240 (.node 235 2 g235 (.node 233 2 g233 (.node 232 1 g232 (.node 231 1 g231 .leaf .leaf) .leaf) (.node 234 4 g234 .leaf .leaf)) (.node 238 2 g238 (.node 237 2 g237 (.node 236 2 g236 .leaf .leaf) .leaf) (.node 239 2 g239 .leaf .leaf))) (.node 245 2 g245 (.node 243 2 g243 (.node 242 1 g242 (.node 241 1 g241 .leaf .leaf) .leaf) (.node 244 2 g244 .leaf .leaf)) (.node 247 1 g247 (.node 246 1 g246 .leaf .leaf) (.node 248 1 g248 .leaf .leaf)))) (.node 259 2 g259 (.node 254 1 g254 (.node 252 1 g252 (.node 251 1 g251 (.node 250 2 g250 .leaf .leaf) .leaf) (.node 253 2 g253 .leaf .leaf)) (.node 257 1 g257 (.node 256 1 g256 (.node 255 2 g255 .leaf .leaf) .leaf) (.node 258 0 g258 .leaf .leaf))) (.node 264 1 g264 (.node 262 1 g262 (.node 261 3 g261 (.node 260 1 g260 .leaf .leaf) .leaf) (.node 263 0 g263 .leaf .leaf)) (.node 266 1 g266 (.node 265 1 g265 .leaf .leaf) (.node 269 1 g269 .leaf .leaf)))))))
theorem Yci:tb34.Ok prog GL0:=⟨g191_ok,⟨g149_ok,⟨g118_ok,⟨g77_ok,⟨g55_ok,⟨g37_ok,⟨g35_ok,⟨g34_ok,trivial,trivial⟩,trivial⟩,⟨g39_ok,trivial,trivial⟩⟩,⟨g71_ok,⟨g67_ok,⟨g57_ok,trivial,trivial⟩,trivial⟩,⟨g76_ok,trivial,trivial⟩⟩⟩,⟨g110_ok,⟨g88_ok,⟨g83_ok,⟨g78_ok,trivial,trivial⟩,trivial⟩,⟨g89_ok,trivial,trivial⟩⟩,⟨g114_ok,⟨g113_ok,⟨g111_ok,trivial,trivial⟩,trivial⟩,⟨g115_ok,trivial,trivial⟩⟩⟩⟩,⟨g130_ok,⟨g124_ok,⟨g121_ok,⟨g120_ok,⟨g119_ok,trivial,trivial⟩,trivial⟩,⟨g122_ok,trivial,trivial⟩⟩,⟨g128_ok,⟨g127_ok,⟨g126_ok,trivial,trivial⟩,trivial⟩,⟨g129_ok,trivial,trivial⟩⟩⟩,⟨g145_ok,⟨g143_ok,⟨g142_ok,⟨g138_ok,trivial,trivial⟩,trivial⟩,⟨g144_ok,trivial,trivial⟩⟩,⟨g147_ok,⟨g146_ok,trivial,trivial⟩,⟨g148_ok,trivial,trivial⟩⟩⟩⟩⟩,⟨g169_ok,⟨g159_ok,⟨g154_ok,⟨g152_ok,⟨g151_ok,⟨g150_ok,trivial,trivial⟩,trivial⟩,⟨g153_ok,trivial,trivial⟩⟩,⟨g157_ok,⟨g156_ok,⟨g155_ok,trivial,trivial⟩,trivial⟩,⟨g158_ok,trivial,trivial⟩⟩⟩,⟨g164_ok,⟨g162_ok,⟨g161_ok,⟨g160_ok,trivial,trivial⟩,trivial⟩,⟨g163_ok,trivial,trivial⟩⟩,⟨g167_ok,⟨g166_ok,⟨g165_ok,trivial,trivial⟩,trivial⟩,⟨g168_ok,trivial,trivial⟩⟩⟩⟩,⟨g182_ok,⟨g176_ok,⟨g172_ok,⟨g171_ok,⟨g170_ok,trivial,trivial⟩,trivial⟩,⟨g173_ok,trivial,trivial⟩⟩,⟨g180_ok,⟨g179_ok,⟨g178_ok,trivial,trivial⟩,trivial⟩,⟨g181_ok,trivial,trivial⟩⟩⟩,⟨g187_ok,⟨g185_ok,⟨g184_ok,⟨g183_ok,trivial,trivial⟩,trivial⟩,⟨g186_ok,trivial,trivial⟩⟩,⟨g189_ok,⟨g188_ok,trivial,trivial⟩,⟨g190_ok,trivial,trivial⟩⟩⟩⟩⟩⟩,⟨g230_ok,⟨g211_ok,⟨g201_ok,⟨g196_ok,⟨g194_ok,⟨g193_ok,⟨g192_ok,trivial,trivial⟩,trivial⟩,⟨g195_ok,trivial,trivial⟩⟩,⟨g199_ok,⟨g198_ok,⟨g197_ok,trivial,trivial⟩,trivial⟩,⟨g200_ok,trivial,trivial⟩⟩⟩,⟨g206_ok,⟨g204_ok,⟨g203_ok,⟨g202_ok,trivial,trivial⟩,trivial⟩,⟨g205_ok,trivial,trivial⟩⟩,⟨g209_ok,⟨g208_ok,⟨g207_ok,trivial,trivial⟩,trivial⟩,⟨g210_ok,trivial,trivial⟩⟩⟩⟩,⟨g221_ok,⟨g216_ok,⟨g214_ok,⟨g213_ok,⟨g212_ok,trivial,trivial⟩,trivial⟩,⟨g215_ok,trivial,trivial⟩⟩,⟨g219_ok,⟨g218_ok,⟨g217_ok,trivial,trivial⟩,trivial⟩,⟨g220_ok,trivial,trivial⟩⟩⟩,⟨g226_ok,⟨g224_ok,⟨g223_ok,⟨g222_ok,trivial,trivial⟩,trivial⟩,⟨g225_ok,trivial,trivial⟩⟩,⟨g228_ok,⟨g227_ok,trivial,trivial⟩,⟨g229_ok,trivial,trivial⟩⟩⟩⟩⟩,⟨g249_ok,⟨g240_ok,⟨g235_ok,⟨g233_ok,⟨g232_ok,⟨g231_ok,trivial,trivial⟩,trivial⟩,⟨g234_ok,trivial,trivial⟩⟩,⟨g238_ok,⟨g237_ok,⟨g236_ok,trivial,trivial⟩,trivial⟩,⟨g239_ok,trivial,trivial⟩⟩⟩,⟨g245_ok,⟨g243_ok,⟨g242_ok,⟨g241_ok,trivial,trivial⟩,trivial⟩,⟨g244_ok,trivial,trivial⟩⟩,⟨g247_ok,⟨g246_ok,trivial,trivial⟩,⟨g248_ok,trivial,trivial⟩⟩⟩⟩,⟨g259_ok,⟨g254_ok,⟨g252_ok,⟨g251_ok,⟨g250_ok,trivial,trivial⟩,trivial⟩,⟨g253_ok,trivial,trivial⟩⟩,⟨g257_ok,⟨g256_ok,⟨g255_ok,trivial,trivial⟩,trivial⟩,⟨g258_ok,trivial,trivial⟩⟩⟩,⟨g264_ok,⟨g262_ok,⟨g261_ok,⟨g260_ok,trivial,trivial⟩,trivial⟩,⟨g263_ok,trivial,trivial⟩⟩,⟨g266_ok,⟨g265_ok,trivial,trivial⟩,⟨g269_ok,trivial,trivial⟩⟩⟩⟩⟩⟩⟩
end Go.Ah.Tz
end
section
namespace Go.Ah.Tz
open Go.Proofs.Tryz (prog)
set_option maxRecDepth 1000000
theorem hT34:∀f np g,tb34.get f=some (np,g)→GQ f np g:=GT.get_ok Yci
def bV34:AVal:=(.agg [(.rsl false false 12 [[(.str [73,109,112]),(.bool true),(.int .i64 1),(.int .i64 2),(.int .i64 2),(.int .i64 0),(.int .i64 0),(.int .i64 0),.nils,.nils,.nils,(.int .i64 0)],[(.str [66,105,103]),(.bool true),(.int .i64 9),(.int .i64 9),(.int .i64 9),(.int .i64 0),(.int .i64 0),(.int .i64 0),.nils,.nils,.nils,(.int .i64 24)]]),.nils])
theorem p78:PC 78 [(.str [99,97,114,100,32,73,109,112,32,117,110,105,116,32,49,32,50,47,50,32,123,32,125,32,99,97,114,100,32,66,105,103,32,117,110,105,116,32,57,32,57,47,57,32,123,32,125])] (.tup [bV34,.agg [.int .i64 0,.int .i64 0]]):=Xa9 hP hT34 (much:=1000000000) 60 (by kernel_rfl)
def kn34:Known:=[(78,[(.str [99,97,114,100,32,73,109,112,32,117,110,105,116,32,49,32,50,47,50,32,123,32,125,32,99,97,114,100,32,66,105,103,32,117,110,105,116,32,57,32,57,47,57,32,123,32,125])],.tup [bV34,.agg [.int .i64 0,.int .i64 0]])]
theorem Xcc:KnOk prog GL0 kn34:=⟨⟨⟨g78_ok.plain,rfl,rfl⟩,p78⟩,trivial⟩
theorem p34:PC 34 [] (.bool true):=QbQ hP hT34 (much:=1000000000) Xcc 60 (by kernel_rfl)
end Go.Ah.Tz
end
section
namespace Go.Proofs.YtflcpnaigpgciaaGreatDoor
open Go.ChangeShapes Go.WideShapes Go.ChangeAt Go.RowKit Go.Ah Go.Ah.Tz
set_option maxRecDepth 100000
theorem ZbG:Rows.turnPaysUptoRow.laid=[("unicode.White_Space",Rows.laid_unicode_White_Space),("strings.asciiSpace",Lib.tabData .u8 spaces)]:=by kernel_rfl
theorem YaJ(H:Type)(enc:TypeId×Value→H)(W:World)(base:Nat)(args:Array Value)(ds gs:List (DataW H))(before:List MemPlace)
 (hval:∀(j:Nat) t v,Tryz.f9.params[j]?=some t→args[j]?=some v→Value.okWide Tryz.prog W .any base t v)
 (hW:DataW.Whole enc Tryz.prog Tryz.f9.params.toList Rows.turnPaysSpec.vars false W args.toList ds gs before)(hk:Rows.uptoSmall H (ds++gs)=true)(hL:laidMetH Tryz.prog Rows.turnPaysUptoRow.laid W) :
  Calls Tryz.prog 9 args W λe W'=>∃v,e=.returned v∧Rows.turnPaysSpec.post enc Tryz.prog Tryz.f9 false true false false W args v W':=by
 have hW':=hW;have hlt:=hW.lt;obtain⟨p,q,hA0,hV,rfl,hfz,hnd⟩:=hW;have hA:DataW.TrodAll enc Tryz.prog W 0 (λ_=>true) true Tryz.f9.params.toList args.toList ds p:=hA0;rw[Tryz.params9] at hA hval;obtain⟨v0,vs,d0,ds,p0,p,hargs,rfl,rfl,h0,r⟩:=trodAll_cons hA;obtain⟨v1,vs,d1,ds,p1,p,rfl,rfl,rfl,h1,r⟩:=trodAll_cons r;obtain⟨v2,vs,d2,ds,p2,p,rfl,rfl,rfl,h2,r⟩:=trodAll_cons r;obtain⟨v3,vs,d3,ds,p3,p,rfl,rfl,rfl,h3,r⟩:=trodAll_cons r;obtain⟨v4,vs,d4,ds,p4,p,rfl,rfl,rfl,h4,r⟩:=trodAll_cons r;obtain⟨rfl,rfl,rfl⟩:=trodAll_nil r;obtain rfl:args = #[v0,v1,v2,v3,v4]:=by cases args; simp_all
 obtain⟨rfl,rfl⟩:=trodVars_none hV;have hbk:Rows.uptoBulkAll [d0,d1,d2,d3,d4]≤1048576:=of_decide_eq_true hk;simp only[Rows.uptoBulkAll] at hbk;obtain⟨b,hf,hsm,e0⟩:=Ycm (hval 0 _ v0 rfl rfl) h0 (by omega);obtain⟨s,hs,e1⟩:=Xb9 (hval 1 _ v1 rfl rfl) h1 (by omega);obtain⟨n2,e2⟩:=Yb9 (hval 2 _ v2 rfl rfl) h2;obtain⟨n3,e3⟩:=Yb9 (hval 3 _ v3 rfl rfl) h3;obtain⟨n4,e4⟩:=Yb9 (hval 4 _ v4 rfl rfl) h4;have hg:=Zb9 ZbG (show laidMet Tryz.prog Rows.turnPaysUptoRow.laid W from hL);refine(c9 p34 b hf hsm s hs n2 n3 n4 W (λk=>W.heap[k]?) [v0,v1,v2,v3,v4] (λ_ _ h=>h) hg ⟨e0,e1,e2,e3,e4,trivial⟩).mono ?_;rintro e W' ⟨u,rfl,hkeep,M',_,_,_,hd⟩;cases hd;have hb:=hkeep.below;refine⟨_,rfl,XaJ (pa:=p0++(p1++(p2++(p3++(p4++[]))))) (pv:=[]) hW' (λ_ _ _=>trodAll_cons_mk (shut_bool QaZ _) trodAll_mk0) (λsp hsp=>?_) (λ_ _=>rfl) rfl hb (ok_one (by kernel_rfl) rfl (okWide_bool_mk QaZ _))⟩;rw[Tryz.params9];refine trodAll_cons_mk (Qar r_bk.1 r_bk.2 h0 hb hlt (λp hp=>by simp[hp]) hsp) <| trodAll_cons_mk (Qar r_st.1 r_st.2 h1 hb hlt (λp hp=>by simp[hp]) hsp) <| trodAll_cons_mk (Qar Ybn.1 Ybn.2 h2 hb hlt (λp hp=>by simp[hp]) hsp) <| trodAll_cons_mk (Qar Ybn.1 Ybn.2 h3 hb hlt (λp hp=>by simp[hp]) hsp) <| trodAll_cons_mk (Qar Ybn.1 Ybn.2 h4 hb hlt (λp hp=>by simp[hp]) hsp) trodAll_mk0
def Yab:Array Value:=#[.agg #[.slice none 0 0,.slice none 0 0],.agg #[.int .i64 0,.int .i64 0,.int .i8 0,.bool false,.int .i8 0,.slice none 0 0,.int .i64 0,.int .i64 0,.int .i64 0,.int .i64 0,.slice none 0 0,.slice none 0 0,.slice none 0 0,.slice none 0 0,.slice none 0 0,.int .i64 0,.int .i64 0,.int .i64 0,.slice none 0 0,.slice none 0 0,.slice none 0 0,.slice none 0 0,.slice none 0 0],.int .i64 0,.int .i64 0,.int .i64 0]
theorem ZbZ(os:Os):laidMet Tryz.prog Rows.turnPaysUptoRow.laid ((Ya2 os).forCall (λ_ _=>0) ⟨#[],Yab,[]⟩).memory:=
 laidMet_of_run' 8 (by kernel_rfl) (by kernel_rfl)
theorem Zbn(os:Os){H:Type}(enc:TypeId×Value→H):∃places,DataW.whole enc Tryz.prog ((Ya2 os).forCall (λ_ _=>0) ⟨#[],Yab,[]⟩).memory Tryz.f9.params.toList Rows.turnPaysSpec.vars false Yab.toList 8 =
  some ([.agg [.nil,.nil],.agg [.lit (.int .i64 0),.lit (.int .i64 0),.lit (.int .i8 0),.lit (.bool false),.lit (.int .i8 0),.nil,.lit (.int .i64 0),.agg [.agg [.lit (.int .i64 0),.lit (.int .i64 0),.lit (.int .i64 0),.nil,.nil,.nil,.nil,.nil],.agg [.lit (.int .i64 0),.lit (.int .i64 0),.lit (.int .i64 0),.nil,.nil,.nil,.nil,.nil]]],.lit (.int .i64 0),.lit (.int .i64 0),.lit (.int .i64 0)],[],places):=⟨[],by kernel_rfl⟩
theorem Ya5(os:Os)(started:os.Started)(H:Type)(enc:TypeId×Value→H)(F:Stop.Interp) :
  ReturnsInHanded {} Tryz.checked os 9 .any ((Rows.OpenSpec.upto Rows.turnPaysSpec).preRow enc Tryz.prog Tryz.f9 Rows.turnPaysUptoRow.domain false Rows.turnPaysUptoRow.laid) (((Rows.OpenSpec.upto Rows.turnPaysSpec).at F).post enc Tryz.prog Tryz.f9 false true false false):=by
 obtain⟨places,hx⟩:=Zbn os enc;refine returnsInHanded_of_row (C:=Tryz.checked) (s:=Rows.OpenSpec.upto Rows.turnPaysSpec) d_own started (by kernel_rfl) Tryz.func9
  (witness_row_atRef (enc:=enc) (C:=Tryz.checked) false (Ya2 os) Yab rfl (by kernel_rfl) (by kernel_rfl) (by kernel_rfl)
   (OpenSpec.preRow_of_cond 8 hx (by kernel_rfl) (λk hk=>by cases hk; kernel_rfl) (by kernel_rfl) (ZbZ os))) ?_
 intro W base args ds gs before hval hW _ hcond _ hL _ _;exact YaJ H enc W base args ds gs before hval hW (hcond _ rfl) hL
theorem Xcd:Tryz.prog.funcNamed Rows.turnPaysUptoRow.func=some 9:=by kernel_rfl
theorem Qcd:(Rows.turnPaysUptoRow.wf (OpenSpec.ofChange (Rows.OpenSpec.upto Rows.turnPaysSpec).bare))=true:=by kernel_rfl
theorem Zce:(laidOutB Tryz.prog)=true:=by kernel_rfl
theorem Yce:(mapsRowed Tryz.prog)=true:=by kernel_rfl
theorem Xce:(Tryz.f9.params.all (Tryz.prog.readableRec ·))=true:=by kernel_rfl
theorem Qce:(namedTie Tryz.prog Rows.turnPaysUptoRow.named (Rows.OpenSpec.upto Rows.turnPaysSpec).bare.vars)=true:=by kernel_rfl
theorem Zcf:(Rows.turnPaysUptoRow.stops==[])=true:=by kernel_rfl
theorem Ycf:(Tryz.prog.stops==[])=true:=by kernel_rfl
theorem Xcf:(Rows.turnPaysUptoRow.knobs==[])=true:=by kernel_rfl
theorem Qcf:(Tryz.prog.stopKnobs==[])=true:=by kernel_rfl
theorem YbT:(Rows.turnPaysUptoRow.inPlace==Tryz.prog.inPlace 9)=true:=by kernel_rfl
theorem XbT:(Rows.turnPaysUptoRow.unfollowed==Tryz.prog.unfollowed 9)=true:=by kernel_rfl
theorem QbT:(Rows.turnPaysUptoRow.recurses==Tryz.prog.recurses 9)=true:=by kernel_rfl
theorem ZbU:(Rows.turnPaysUptoRow.named==Tryz.prog.varsNamed 9)=true:=by kernel_rfl
theorem YbU:(Rows.turnPaysUptoRow.maps==(Tryz.f9.params.toList++(Rows.OpenSpec.upto Rows.turnPaysSpec).bare.plain.varTypes Tryz.prog).any (Tryz.prog.mapsRec ·))=true:=by kernel_rfl
theorem XbU:(Rows.turnPaysUptoRow.ifaces==(Tryz.f9.params.toList++(Rows.OpenSpec.upto Rows.turnPaysSpec).bare.plain.varTypes Tryz.prog).any (Tryz.prog.ifacesRec ·))=true:=by kernel_rfl
theorem QbU:(Rows.turnPaysUptoRow.mapsOut==Tryz.prog.mapsAmong Tryz.f9.resultTypes.toList)=true:=by kernel_rfl
theorem ZbV:(Rows.turnPaysUptoRow.loops==(Tryz.f9.params.toList++(Rows.OpenSpec.upto Rows.turnPaysSpec).bare.plain.varTypes Tryz.prog).any (Tryz.prog.loopsFrom ·))=true:=by kernel_rfl
theorem YbV:(Rows.turnPaysUptoRow.wideKeys==(Tryz.f9.params.toList++(Rows.OpenSpec.upto Rows.turnPaysSpec).bare.plain.varTypes Tryz.prog++Tryz.f9.resultTypes.toList).any (Tryz.prog.wideKeysFrom ·))=true:=by kernel_rfl
theorem XbV:((Rows.OpenSpec.upto Rows.turnPaysSpec).bare.vars.all (Tryz.prog.varReadable ·))=true:=by kernel_rfl
theorem QbV:(Tryz.f9.resultTypes.all (λt=>Tryz.prog.readableRec t&&decide (t<Tryz.prog.types.size)))=true:=by kernel_rfl
theorem ZbW:(Rows.turnPaysUptoRow.ifacesOut==Tryz.f9.resultTypes.toList.any (Tryz.prog.ifacesRec ·))=true:=by kernel_rfl
theorem YbW:(Rows.turnPaysUptoRow.loopsOut==Tryz.f9.resultTypes.toList.any (Tryz.prog.loopsFrom ·))=true:=by kernel_rfl
theorem XbW:(Rows.turnPaysUptoRow.plainKeys==Tryz.prog.plainKeys)=true:=by kernel_rfl
theorem QbW:(Rows.turnPaysUptoRow.shortTexts.isNone)=true:=by kernel_rfl
theorem ZbX:(Tryz.prog.stopsHeard)=true:=by kernel_rfl
theorem YbX:(Tryz.prog.mayEnter)=true:=by kernel_rfl
theorem XbX:(Rows.turnPaysUptoRow.lifted==Tryz.prog.liftsFinal)=true:=by kernel_rfl
theorem QbX:(Tryz.prog.make==some Rows.turnPaysUptoRow.make)=true:=by kernel_rfl
theorem ZbY:(Rows.turnPaysUptoRow.kinds==(if Rows.turnPaysUptoRow.domain.isEmpty then [] else Tryz.f9.params.toList.map λt=>match Tryz.prog.underlying t with|some (.int k)=>some k|_=>none))=true:=by kernel_rfl
theorem YbY:(Rows.turnPaysUptoRow.pinned==Rows.turnPaysUptoRow.pinnedBy)=true:=by kernel_rfl
theorem XbY:(Rows.turnPaysUptoRow.veiled==(Tryz.f9.params.toList++(Rows.OpenSpec.upto Rows.turnPaysSpec).bare.plain.varTypes Tryz.prog++Tryz.f9.resultTypes.toList).any (Tryz.prog.veiledRec ·))=true:=by kernel_rfl
theorem QbY:(Rows.turnPaysUptoRow.veiledFits Tryz.prog Tryz.f9.params.toList (Tryz.f9.params.toList++(Rows.OpenSpec.upto Rows.turnPaysSpec).bare.plain.varTypes Tryz.prog++Tryz.f9.resultTypes.toList))=true:=by kernel_rfl
theorem Za5:joinedFacts Tryz.prog 9 Tryz.f9 (Rows.OpenSpec.upto Rows.turnPaysSpec).bare Rows.turnPaysUptoRow=true:=(Xk (Xk (Xk (Xk (Xk (Xk (Xk (Xk (Xk (Xk (Xk (Xk (Xk (Xk (Xk (Xk (Xk (Xk (Xk (Xk (Xk (Xk (Xk (Xk (Xk (Xk (Xk (Xk (Xk (Xk (Xk Qcd Zce) Yce) Xce) Qce) Zcf) Ycf) Xcf) Qcf) YbT) XbT) QbT) ZbU) YbU) XbU) QbU) ZbV) YbV) XbV) QbV) ZbW) YbW) XbW) QbW) ZbX) YbX) XbX) QbX) ZbY) YbY) XbY) QbY)
theorem YbG:Rows.TurnPaysUptoSaid:=
 OpenClaim.holds_of_cond 9 Tryz.f9 rfl rfl rfl rfl rfl rfl rfl ⟨rfl,rfl,rfl,rfl,rfl⟩ rfl rfl rfl rfl rfl Xcd Tryz.func9 Za5
  (of_decide_eq_true (by kernel_rfl)) (by unfold Func.isWrapper; first|(rw[if_pos (by decide +kernel)]; kernel_rfl)|(rw[if_neg (by decide +kernel)]; exact⟨rfl,rfl⟩))
  (λos started H enc _ F=>by rw[OpenClaim.pre_eq_preRow]; exact Ya5 os started H enc F)
theorem Qbm(f:FuncId)(fn:Func)(hf:Tryz.pinned.checked.prog.funcNamed "baize/baizelaw21.TurnPays" = some f)(hfn:Tryz.pinned.checked.prog.funcs[f]?=some fn) :
  true=Tryz.pinned.checked.prog.looks []∧∀(j:Nat) t,fn.params[j]?=some t→Tryz.pinned.checked.prog.wantsStandIn t=false:=by
 obtain rfl:f=9:=Option.some.inj ((show Tryz.prog.funcNamed "baize/baizelaw21.TurnPays" = some 9 by kernel_rfl).symm.trans hf) |>.symm;obtain rfl:fn=Tryz.f9:=(Option.some.inj (Tryz.func9.symm.trans hfn)).symm;refine⟨by kernel_rfl,λj t ht=>?_⟩;rw[Tryz.params9] at ht;have hm:t∈[ZbN,YbN,Zy,Zy,Zy]:=by simpa using Array.mem_of_getElem? ht
 have hall:([ZbN,YbN,Zy,Zy,Zy].all λu=>!Tryz.prog.wantsStandIn u)=true:=by kernel_rfl
 exact(show Tryz.prog.wantsStandIn t=false by simpa using List.all_eq_true.1 hall t hm)
theorem turnPays_upto_card:Rows.TurnPaysUptoCardSaid:=
 Claim7.holds_tied_plain_at .later [] _ _ _ _ YbG (λ_ h=>by cases h) (by kernel_rfl) (λ_ h=>by cases h) turnPaysUpto_row_tie rfl ⟨rfl,rfl⟩ (by kernel_rfl) rfl Qbm (by kernel_rfl)
#print axioms turnPays_upto_card
end Go.Proofs.YtflcpnaigpgciaaGreatDoor
end
