/- Part of the proof that ValueHidden holds of the program for arguments that together hold at most 1048576 values and letters; no other condition. -/
import Derived.Test.YtflcpnaigpgciaaGreatDoorN4
import Derived.Test.YtflcpnaigpgciaaGreatDoorRows
import Derived.Test.YtflcpnaigpgciaaGreatDoorCards
import Derived.Test.YtflcpnaigpgciaaGreatDoorTie
import Derived.ProofKit
import Derived.OpenShut
import Derived.Carry
import Derived.SevenTiedAt
import Derived.JoinedCond
import Derived.LaidMore
import Derived.SizedLaws
import Derived.Stop.LaidErr
import Derived.Deep.DeepHandedRow
import Derived.Deep.DeepWitnessRowRef
import Derived.Lib.LaidTab
import Derived.Sort.OwnSortedInts
import Derived.Recover
set_option linter.all false
section
namespace Go.Ah.Tz
open Go.Proofs.Tryz (prog)
theorem YaT(k:Int)(a:Int):∀l:List Th,ilook a (l.map λu=>(u.id,k))=(fnd l a).map λ_=>k
 |[]=>rfl
 |u::l=>by
  have:=YaT k a l;simp only[List.map_cons,ilook,fnd,List.findIdx?_cons];by_cases h:u.id=a
  ·have h2:(a==u.id)=true:=by simp[h]
   simp[h]
  ·have h2:(a==u.id)=false:=by simp; exact λe=>h e.symm
   simp only[h2,Bool.false_eq_true,if_false,decide_eq_false h,this,fnd,Option.map_map];rfl
theorem ZbR(s:St)(a:Int):ilook a (s.s0.units.map (λu=>(u.id,(0:Int)))++s.s1.units.map (λu=>(u.id,(1:Int))))=if (unitR s a).2.2=true then some (unitR s a).1 else none:=by
 rw[Qan,YaT,YaT,unitR];cases fnd s.s0.units a with
 |some k=>rfl
 |none=>cases fnd s.s1.units a<;>rfl
attribute [local irreducible] Ans.rd Ans.pu Ans.wr Ans.dr Ans.gr Ans.gw Ans.gl Ans.gd Ans.opt joinK W
set_option maxHeartbeats 4000000
theorem bkLd(b:Bk):partA true 0 2 (bkC b)=some (bkV b):=rfl
theorem Xt{e:Int}{b:Bk}{s:St}{bare:Bool}(h:mayR e b s bare=true):e=0∧1≤s.turn∧s.turn≤4096∧0≤s.mover∧s.mover≤1∧0≤s.phase∧s.phase≤2∧0≤s.result∧s.result≤3∧((s.result==0)==(s.phase != 2))=true∧1≤s.next∧s.next≤1000000∧s.attack.length≤7:=by
 simp only[mayR,Bool.and_eq_true,decide_eq_true_eq] at h;obtain⟨h1,h2,h3,h4,h5,h6,h7,h8,h9,h10,h11,h12,h13,h14⟩:=h;refine⟨h1,h2,h3,h4,h5,h6,h7,h8,h9,h10,h11,h12,?_⟩;by_cases hp:s.phase≠1
 ·rw[if_pos hp] at h14; simp at h14; simp[h14]
 ·rw[if_neg hp] at h14; simp at h14; exact h14.2.2.1
theorem QbQ(o:Option Int):lookV true (iv 0) (o.map iv)=.tup [iv (o.getD 0),.bool o.isSome]:=by cases o<;>rfl
theorem XbQ(o:Option Bool):lookV false (.bool false) (o.map AVal.bool)=.bool (o.getD false):=by cases o<;>rfl
theorem Qbp(t:Int):∀l:List Int,(ilook t (l.map λa=>(a,true))).getD false=l.contains t
 |[]=>rfl
 |a::l=>by
  simp only[List.map_cons,ilook,List.contains_cons];cases h:t==a with
  |true=>rfl
  |false=>simp only[Bool.false_eq_true,if_false,Bool.false_or]; exact Qbp t l
theorem c111(b:Bk)(hf:bkFit b=true)(hsm:Yw b.cards)(s:St)(hs:StLe 1000000000 s)(bare:Bool):PC 111 [.rptr (bkC b) 0,.rptr (stC s) 0,.bool bare] (.bool (mayR (bkR b).1 b s bare)):=by
 have h143:=c143 b hf hsm;generalize (bkR b).1=e at h143 ⊢;generalize (bkR b).2=ep at h143;have hat:=hs.attack;refine Qc hP g111_ok rfl rfl ?_;unfold g111;refine Za rfl (Za rfl (Za (ldr rfl) (Za (Q2 ..) ?_)));refine Ql λk4 hk4=>?_;have kbad:(mayR e b s bare=true→False)→k4 [.bool true] []:=by
  intro h; rw[hk4]; refine Ze ?_;rw[Bool.eq_false_iff.2 (λhm=>h hm)]
 apply cutF (R:=k4 [.bool false] []) (1≤s.turn∧s.turn≤4096∧0≤s.mover∧s.mover≤1∧0≤s.phase∧s.phase≤2∧0≤s.result∧s.result≤3∧((s.result==0)==(s.phase != 2))=true∧1≤s.next∧s.next≤1000000∧s.attack.length≤7∧e=0)
 ·intro hR;clear hk4;refine Qb (λh=>by rw[h]; exact kbad (λhm=>by have:=Xt hm; simp at h; omega)) (λb1=>Za rfl (Za rfl (Za (ldr rfl) (Za (X2 ..) ?_))));refine Qb (λh=>by rw[h]; exact kbad (λhm=>by have:=Xt hm; simp at h; omega)) (λb2=>Za rfl (Za rfl (Za (ldr rfl) (Za (Q2 ..) ?_))));refine Qb (λh=>by rw[h]; exact kbad (λhm=>by have:=Xt hm; simp at h; omega)) (λb3=>Za rfl (Za rfl (Za (ldr rfl) (Za (X2 ..) ?_))));refine Qb (λh=>by rw[h]; exact kbad (λhm=>by have:=Xt hm; simp at h; omega)) (λb4=>Za rfl (Za rfl (Za (ldr rfl) (Za (Q2 ..) ?_))));refine Qb (λh=>by rw[h]; exact kbad (λhm=>by have:=Xt hm; simp at h; omega)) (λb5=>Za rfl (Za rfl (Za (ldr rfl) (Za (X2 ..) ?_))));refine Qb (λh=>by rw[h]; exact kbad (λhm=>by have:=Xt hm; simp at h; omega)) (λb6=>Za rfl (Za rfl (Za (ldr rfl) (Za (Q2 ..) ?_))));refine Qb (λh=>by rw[h]; exact kbad (λhm=>by have:=Xt hm; simp at h; omega)) (λb7=>Za rfl (Za rfl (Za (ldr rfl) (Za (X2 ..) ?_))));refine Qb (λh=>by rw[h]; exact kbad (λhm=>by have:=Xt hm; simp at h; omega)) (λb8=>Za rfl (Za rfl (Za (ldr rfl) (Za (Yf ..) (Za rfl (Za rfl (Za (ldr rfl) (Za (Qbd ..) (Za (QcE ..) ?_)))))))));have hx:(!(decide (s.result=0)==decide (s.phase≠2))) = !((s.result==0)==(s.phase != 2)):=by
   congr 1
   have e1:decide (s.result=0)=(s.result==0):=by rw[Bool.eq_iff_iff]; simp
   have e2:decide (s.phase≠2)=(s.phase != 2):=by rw[Bool.eq_iff_iff]; simp
   rw[e1,e2]
  rw[hx];refine Qb (λh=>by rw[h]; exact kbad (λhm=>by have:=(Xt hm).2.2.2.2.2.2.2.2.2.1; rw[this] at h; cases h)) (λb9=>Za rfl (Za rfl (Za (ldr rfl) (Za (Q2 ..) ?_))));refine Qb (λh=>by rw[h]; exact kbad (λhm=>by have:=Xt hm; simp at h; omega)) (λb10=>Za rfl (Za rfl (Za (ldr rfl) (Za (X2 ..) ?_))));refine Qb (λh=>by rw[h]; exact kbad (λhm=>by have:=Xt hm; simp at h; omega)) (λb11=>Za rfl (Za rfl (Za (ldr rfl) (Za (v:=iv s.attack.length) (rd:=[]) (by simp[Xh]) (Za (X2 ..) ?_)))));refine Qb (λh=>by rw[h]; exact kbad (λhm=>by have:=Xt hm; simp at h; omega)) (λb12=>Za rfl (Za (ldr (bkLd b)) ?_));refine Yd h143 rfl g143_ok.plain rfl (Za rfl (Za (Qbd ..) ?_));by_cases he:e=0
  ·rw[show decide (e≠0)=false by simp[he]];simp at b1 b2 b3 b4 b5 b6 b7 b8 b10 b11 b12;exact hR ⟨by omega,by omega,by omega,by omega,by omega,by omega,by omega,by omega,by simpa using b9,by omega,by omega,by omega,he⟩
  ·rw[show decide (e≠0)=true by simp[he]];exact kbad (λhm=>he (Xt hm).1)
 rintro⟨p1,p2,p3,p4,p5,p6,p7,p8,p9,p10,p11,p12,p13⟩;rw[hk4]; clear hk4 kbad k4;have hmay:mayR e b s bare=(Xr b s&&(if s.phase≠1 then decide (s.attack.length=0) else !(decide (s.attack.length=0) && !bare)&&(s.struck&&attOk s [] s.attack))):=by
  rw[mayR,decide_eq_true p13,decide_eq_true p1,decide_eq_true p2,decide_eq_true p3,decide_eq_true p4,decide_eq_true p5,decide_eq_true p6,decide_eq_true p7,decide_eq_true p8,p9,decide_eq_true p10,decide_eq_true p11,decide_eq_true p12];rfl
 rw[hmay]; clear hmay h143 p1 p2 p3 p4 p5 p6 p7 p8 p9 p10 p11 p13;have w1:IntKind.i64.wrap (0+1)=1:=by decide
 have w2:IntKind.i64.wrap (1+1)=2:=by decide
 refine Yh (Xf rfl rfl (YB 3 (Yj (Za rfl (Ze ?_)))));refine QC hP rfl g144_ok rfl (c144 b s 0 7 s.s0 (sdAt0 s) (λ_=>rfl) hs.s0 [] (by rfl) (λh σ1=>?_) (λh σ1 t1 m1=>?_))
 ·refine Za rfl (Ze ?_);have h:(Xl b.cards.length s.s0&&Qr b s.next [] s.s0.units)=false:=h;have:Xr b s=false:=by
   rw[Xr,←Bool.and_assoc,h]; rfl
  rw[this]; rfl
 refine Za rfl (Yh (Za rfl ?_));rw[w1];refine Yj (Za rfl (Ze ?_));refine QC hP rfl g144_ok rfl (c144 b s 1 15 s.s1 (sdAt1 s) (λ_=>rfl) hs.s1 _ m1 (λh2 σ2=>?_) (λh2 σ2 t2 m2=>?_))
 ·refine Za rfl (Ze ?_);have e0:(([]++s.s0.units.map λu=>(u.id,(0:Int))):List (Int×Int)).map (·.1)=s.s0.units.map Th.id:=by simp[Function.comp_def]
  rw[e0] at h2;have:Xr b s=false:=by
   rw[Xr,h2]; simp
  rw[this]; rfl
 have hso:Xr b s=true:=by
  have e0:(([]++s.s0.units.map λu=>(u.id,(0:Int))):List (Int×Int)).map (·.1)=s.s0.units.map Th.id:=by simp[Function.comp_def]
  rw[e0] at h2;have h:(Xl b.cards.length s.s0&&Qr b s.next [] s.s0.units)=true:=h;rw[Xr,←Bool.and_assoc,h,h2]; rfl
 rw[hso,Bool.true_and];clear hso h h2 m1 t1 t2;refine Za rfl (Yh (Za rfl ?_));rw[w2];refine Yj (Za rfl (Yh (Za rfl (Za rfl (Za (ldr rfl) (Za (Qbd ..) ?_))))));refine Qb (λhp=>?_) (λhp=>?_)
 ·have hp:s.phase≠1:=by simpa using hp
  rw[if_pos hp];refine Za rfl (Za rfl (Za (ldr rfl) (Za (v:=iv s.attack.length) (rd:=[]) (by simp[Xh]) (Za (Yf ..) ?_))))
  congr 1
  rw[Bool.eq_iff_iff]; simp
 have hp:¬s.phase≠1:=by simpa using hp
 rw[if_neg hp];refine Xf rfl (QL _ _) (Za rfl (Za rfl (Za (ldr rfl) (Za (v:=iv s.attack.length) (rd:=[]) (by simp[Xh]) ?_))));have hnew:hget (σ2++[ABlk.map []]) σ2.length=.map (mpG AVal.bool (([]:List Int).map λa=>(a,true))):=Yl _ _;have hold:=Qm [ABlk.map []] m2 (by simp);have hne:σ2.length≠0:=by have:=Qy m2 (by simp); omega
 generalize σ2++[ABlk.map []]=τ at hnew hold ⊢;generalize σ2.length=mb at hnew hne ⊢;refine Qk (ι:=Nat) (λi vs τ=>vs=[iv i]∧i≤s.attack.length∧hget τ 0=.map (mpG iv (([]++s.s0.units.map λu=>(u.id,(0:Int)))++s.s1.units.map λu=>(u.id,(1:Int))))∧hget τ mb=.map (mpG AVal.bool ((s.attack.take i).map λa=>(a,true)))∧attOk s [] s.attack=attOk s (s.attack.take i) (s.attack.drop i)) (λi=>s.attack.length-i) 0
  ⟨rfl,by omega,hold,by simpa using hnew,by simp⟩ ?_
 clear hnew hold m2;rintro i vs τ1 again ⟨rfl,hi,hm0,hmb,hr⟩ hag;refine Za rfl (Qb (λh=>?_) (λh=>?_));rotate_left
 ·have h:i=s.attack.length:=by simp at h; omega
  subst h;rw[List.drop_length,attOk] at hr;rw[hr,Bool.and_true];refine Za rfl (Za rfl (Za (ldr rfl) ?_));cases hst:s.struck with
  |false=>
   refine Yb rfl (Yb rfl (Zd rfl (Zd rfl (Zd rfl (Zd rfl (Zd rfl (Zd rfl (Yb rfl (Za rfl ?_)))))))));simp
  |true=>
   refine Xa (Za rfl (Xa (Za rfl ?_)));cases bare with
   |true=>
    refine Yb rfl (Yb rfl (Yb rfl (Yb rfl (Yb rfl (Yb rfl (Xa (Za rfl (Za rfl ?_))))))));simp
   |false=>
    refine Xa (Za rfl (Xa (Za rfl (Xa (Za rfl (Xa (Za (ldr rfl) (Xa (Za (v:=iv s.attack.length) (rd:=[]) (by simp[Xh]) (Xa (Za (X2 ..) (Xa (Za rfl (Za rfl ?_))))))))))))));show AVal.bool _=_
    congr 1
    rw[Bool.eq_iff_iff];simp[List.length_pos_iff]
 have h:i<s.attack.length:=by simpa using h
 have htk:=Zu _ _ h;rw[YLD h,attOk] at hr;refine Za (Yo _ cel _ _ _ s.attack _ i h) (Za (ldr rfl) (Za (Xbd iv _ _ hm0 _) ?_));rw[QbQ,List.nil_append,ZbR];generalize s.attack[i]=a at htk hr ⊢;generalize ho:(if (unitR s a).2.2=true then some (unitR s a).1 else none)=o;have ho1:o.isSome=(unitR s a).2.2:=by rw[←ho]; cases (unitR s a).2.2<;>rfl
 have ho2:(unitR s a).2.2=true→o.getD 0=(unitR s a).1:=by intro q; rw[←ho,if_pos q]; rfl
 refine Za rfl (Za rfl (Za rfl ?_));refine Zco (λ_=>rfl) (λ_=>rfl) (λ_=>rfl) (λ_=>rfl) (λ_=>ldr rfl) (λ_=>Qbd ..) ?_;refine Xa8 (d:=(ilook a ((s.attack.take i).map λa=>(a,true))).getD false) (λ_=>rfl) (λ_=>rfl) (λ_=>by rw[Xbd AVal.bool _ _ hmb,XbQ]) ?_;have hmet:=Qbp a (s.attack.take i);refine Qb (λh2=>?_) (λh2=>?_)
 ·have:attOk s [] s.attack=false:=by
   rw[hr,Bool.eq_false_iff]; intro q;simp only[Bool.and_eq_true,decide_eq_true_eq,Bool.not_eq_true'] at q;obtain⟨⟨q1,q2⟩,q3,q4⟩:=q;rw[ho1,ho2 q1,q1,q2,hmet,q3] at h2;simp at h2
  rw[this]; simp
 ·simp only[Bool.or_eq_false_iff,Bool.not_eq_false',decide_eq_false_iff_not,Decidable.not_not] at h2;obtain⟨⟨q1,q2⟩,q3⟩:=h2;rw[ho1] at q1;rw[ho2 q1] at q2;have hnone:ilook a ((s.attack.take i).map λa=>(a,true))=none:=by
   have:=Qak a ((s.attack.take i).map λa=>(a,true));simp only[List.map_map,Function.comp_def,List.map_id'] at this;rw[←hmet,q3] at this;cases h5:ilook a ((s.attack.take i).map λa=>(a,true)) with
   |none=>rfl
   |some v=>rw[h5] at this; cases this
  rw[hmet] at q3;rw[q1,q2,q3] at hr;have hml:=Qy hmb (by simp);refine Xf (Xcl AVal.bool hmb a true hnone) (Yz _ hml) (Za (Zk ..) ?_);rw[Yg (n:=i) (by omega)];refine hag (i+1) _ _ (by omega) ⟨rfl,by omega,Xv hm0 (by simp) (λe=>hne e),?_,?_⟩
  ·rw[htk,List.map_append]; exact Qt _ hml
  ·rw[htk,hr]; simp
end Go.Ah.Tz
end
section
namespace Go.Ah.Tz
open Go.Proofs.Tryz (prog)
def RI(σ:List ABlk)(rd:List Nat)(v:AVal)(l:List Int):Prop:=Bor (hp σ) rd v (rowV l)
def RT(σ:List ABlk)(rd:List Nat)(v:AVal)(l:List Th):Prop:=Bor (hp σ) rd v (thV l)
theorem YcC:∀ {l:List Int},∀r∈l.map cel,roL r=true:=by
 intro l r hr;obtain⟨x,_,rfl⟩:=List.mem_map.1 hr; rfl
theorem th_ro:∀ {l:List Th},∀r∈l.map thC,roL r=true:=by
 intro l r hr;obtain⟨x,_,rfl⟩:=List.mem_map.1 hr; rfl
theorem RI.own{σ:List ABlk}{rd:List Nat}{b:Nat}{ex:Bool}{l:List Int}{n:Nat}(hb:hget σ b=.rows 1 (l.map cel))(hin:b∈rd)(hn:n=l.length):RI σ rd (.sl b 0 n ex) l:=
 Bor.own hb hin (by simp[hn]) (ZaZ _ _ (by simp[hn])) YcC
theorem RI.nils{σ:List ABlk}{rd:List Nat}:RI σ rd .nils []:=Bor.weak (Bor.ro rfl) (λM u d=>d.nils_rsl 1)
theorem RT.nils{σ:List ABlk}{rd:List Nat}:RT σ rd .nils []:=Bor.weak (Bor.ro rfl) (λM u d=>d.nils_rsl 4)
theorem RT.own{σ:List ABlk}{rd:List Nat}{b:Nat}{ex:Bool}{l:List Th}{n:Nat}(hb:hget σ b=.rows 4 (l.map thC))(hin:b∈rd)(hn:n=l.length):RT σ rd (.sl b 0 n ex) l:=
 Bor.own hb hin (by simp[hn]) (ZaZ _ _ (by simp[hn])) th_ro
@[reducible] def stQ(s:St)(a d0 h0 g0 u0 t0 d1 h1 g1 u1 t1:AVal):List AVal:=[iv s.turn,iv s.mover,iv8 s.phase,.bool s.struck,iv8 s.result,a,iv s.next,
 iv s.s0.life,iv s.s0.mana,iv s.s0.most,d0,h0,g0,u0,t0,iv s.s1.life,iv s.s1.mana,iv s.s1.most,d1,h1,g1,u1,t1]
def SB(σ:List ABlk)(rd:List Nat)(cs:List AVal)(s:St):Prop:=BorL (hp σ) rd cs (stC s)
theorem SB.mk{σ:List ABlk}{rd:List Nat}{s:St}{a d0 h0 g0 u0 t0 d1 h1 g1 u1 t1:AVal}(x1:RI σ rd a s.attack)(x2:RI σ rd d0 s.s0.deck)(x3:RI σ rd h0 s.s0.hand)(x4:RI σ rd g0 s.s0.grave)(x5:RT σ rd u0 s.s0.units)(x6:RI σ rd t0 s.s0.told)
 (y2:RI σ rd d1 s.s1.deck)(y3:RI σ rd h1 s.s1.hand)(y4:RI σ rd g1 s.s1.grave)(y5:RT σ rd u1 s.s1.units)(y6:RI σ rd t1 s.s1.told):SB σ rd (stQ s a d0 h0 g0 u0 t0 d1 h1 g1 u1 t1) s:=
 .cons (Bor.ro rfl) <| .cons (Bor.ro rfl) <| .cons (Bor.ro rfl) <| .cons (Bor.ro rfl) <| .cons (Bor.ro rfl) <| .cons x1 <| .cons (Bor.ro rfl) <| .cons (Bor.ro rfl) <| .cons (Bor.ro rfl) <| .cons (Bor.ro rfl) <| .cons x2 <| .cons x3 <| .cons x4 <| .cons x5 <| .cons x6 <|
 .cons (Bor.ro rfl) <| .cons (Bor.ro rfl) <| .cons (Bor.ro rfl) <| .cons y2 <| .cons y3 <| .cons y4 <| .cons y5 <| .cons y6 .nil
theorem SB.agg{σ:List ABlk}{rd:List Nat}{cs:List AVal}{s:St}(h:SB σ rd cs s):Bor (hp σ) rd (.agg cs) (stV s):=Bor.agg h
def zSd:Sd:=⟨0,0,0,[],[],[],[],[]⟩
def zSt:St:=⟨0,0,0,false,0,[],0,zSd,zSd⟩
theorem SB.zero{σ:List ABlk}{rd:List Nat}:SB σ rd (stQ zSt .nils .nils .nils .nils .nils .nils .nils .nils .nils .nils .nils) zSt:=SB.mk .nils .nils .nils .nils .nils .nils .nils .nils .nils .nils .nils
structure Ev where
 kind:Int
 side:Int
 card:Int
 id:Int
 other:Int
 n:Int
 cards:List Int
 deriving DecidableEq,Inhabited
@[reducible] def evC(e:Ev):List AVal:=[iv8 e.kind,iv e.side,iv e.card,iv e.id,iv e.other,iv e.n,rowV e.cards]
attribute [local irreducible] Ans.rd Ans.pu Ans.wr Ans.dr Ans.gr Ans.gw Ans.gl Ans.gd Ans.opt joinK W
set_option maxHeartbeats 1000000
theorem c56(b:Bk)(hf:bkFit b=true)(hsm:Yw b.cards)(s:St)(hs:StLe 1000000000 s){σ:List ABlk}{bb sb:Nat}(h1:hget σ bb=.box (bkC b))(h2:hget σ sb=.box (stC s)){K:AVal→List ABlk→Prop}
 (hF:mayR (bkR b).1 b s true=false→K .nilp σ)(hT:mayR (bkR b).1 b s true=true→K (.bptr (σ++stB s).length 0) (σ++stB s++[.box (.bptr bb 0::stO s σ.length)])):g56 VV [.bptr bb 0,.bptr sb 0] σ K:=by
 unfold g56;have hb1:hp σ bb=some (.box (bkC b)):=ZT h1 (by simp);have hb2:hp σ sb=some (.box (stC s)):=ZT h2 (by simp);refine XG (rd:=[bb,sb]) (c111 b hf hsm s hs true) rfl g111_ok.plain (.cons (Bor.box hb1 (by simp) (BorL.ro rfl)) <| .cons (Bor.box hb2 (by simp) (BorL.ro rfl)) <| .cons (Bor.ro rfl) .nil) rfl ?_;refine Za rfl (Qb (λh=>?_) (λh=>?_))
 ·exact hF (by simpa using h)
 refine Za rfl (Za (ld h2 rfl) ?_);refine Xas (c59 s hs) rfl g59_ok.plain rfl ?_;have e1:(AVal.agg (stO s 0)).ren (Qz σ.length)=.agg (stO s σ.length):=by
  simp[AVal.ren,renL,Qz,Nat.add_comm]; omega
 have e2:Qu σ.length (stB s)=stB s:=by
  simp only[Qu,stB,sdB,List.map_cons,List.map_append,List.map_nil,YU,Qal]
 rw[e1,e2];refine Za rfl (Xf rfl (QL _ _) ?_);exact hT (by simpa using h)
end Go.Ah.Tz
end
section
namespace Go.Ah.Tz
open Go.Proofs.Tryz (prog)
theorem Qcu(s:St)(n:Nat):(AVal.agg (stO s 0)).ren (Qz n)=.agg (stO s n):=by
 simp[AVal.ren,renL,Qz,Nat.add_comm]; omega
theorem Xcu(s:St)(n:Nat):Qu n (stB s)=stB s:=by
 simp only[Qu,stB,sdB,List.map_cons,List.map_append,List.map_nil,YU,Qal]
theorem SdLe.mono{n m:Nat}{s:Sd}(h:SdLe n s)(k:n≤m):SdLe m s:=⟨Nat.le_trans h.1 k,Nat.le_trans h.2 k,Nat.le_trans h.3 k,Nat.le_trans h.4 k,Nat.le_trans h.5 k⟩
theorem StLe.mono{n m:Nat}{s:St}(h:StLe n s)(k:n≤m):StLe m s:=⟨Nat.le_trans h.1 k,h.2.mono k,h.3.mono k⟩
theorem Xa3{e:Int}{b:Bk}{s:St}{bare:Bool}(h:mayR e b s bare=true):Xr b s=true:=by
 simp only[mayR,Bool.and_eq_true] at h;exact h.2.2.2.2.2.2.2.2.2.2.2.2.1
theorem c56n(b:Bk)(hf:bkFit b=true)(hsm:Yw b.cards)(s:St)(hs:StLe 1000000000 s){σ:List ABlk}{bb sb n0 n:Nat}(hn0:σ.length=n0)(hn:n0+11=n)(h1:hget σ bb=.box (bkC b))(h2:hget σ sb=.box (stC s)){K:AVal→List ABlk→Prop}
 (hF:mayR (bkR b).1 b s true=false→K .nilp σ)(hT:mayR (bkR b).1 b s true=true→K (.bptr n 0) (σ++stB s++[.box (.bptr bb 0::stO s n0)])):VV.call (.call 56) [.bptr bb 0,.bptr sb 0] σ K:=by
 subst hn0; subst hn;refine QC hP rfl g56_ok rfl (c56 b hf hsm s hs h1 h2 hF (λh=>?_));have:(σ++stB s).length=σ.length+11:=by simp[stB,sdB]
 rw[this]; exact hT h
def St.side(s:St)(k:Int):Sd:=if k=0 then s.s0 else s.s1
def St.put(s:St)(k:Int)(d:Sd):St:=if k=0 then { s with s0:=d } else { s with s1:=d }
@[reducible] def zStC:List AVal:=stQ zSt .nils .nils .nils .nils .nils .nils .nils .nils .nils .nils .nils
end Go.Ah.Tz
end
section
namespace Go.Ah.Tz
open Go.Proofs.Tryz (prog)
attribute [local irreducible] Ans.rd Ans.pu Ans.wr Ans.dr Ans.gr Ans.gw Ans.gl Ans.gd Ans.opt joinK W
set_option maxHeartbeats 4000000
theorem c118(l:List Th)(hl:l.length≤1000000000)(id:FuncId)(fs cs:List AVal)(hp:Ym prog id=true)(f:Th→Bool)(hc:∀x∈l,PC id (fs++[.agg (thC x)]++cs) (.bool (f x)))(hr:∀x,roL (fs++[.agg (thC x)]++cs)=true) :
  PC 118 [thV l,.func (.func id) fs cs] (iv (idxF f l 0)):=by
 refine Qc hP g118_ok rfl rfl ?_;unfold g118;refine Za (v:=iv l.length) (rd:=[]) (by simp[Xh]) ?_;refine Qk (ι:=Nat) (λi vs s=>vs=[iv i]∧i≤l.length∧idxF f l 0=idxF f (l.drop i) i) (λi=>l.length-i) 0 ⟨rfl,by omega,by simp⟩ ?_;rintro i vs s again ⟨rfl,hi,hr'⟩ hag;refine Za rfl (Qb (λh=>?_) (λh=>?_))
 ·have h:i<l.length:=by simpa using h
  refine Za (Yo _ thC _ _ _ l _ i h) (Za (ldr rfl) ?_);refine Yd (hc _ (List.getElem_mem h)) rfl hp (hr _) ?_;rw[YLD h,idxF] at hr';refine Qb (λh2=>?_) (λh2=>?_)
  ·rw[if_pos h2] at hr'; rw[hr']; rfl
  ·rw[if_neg (by rw[h2]; simp)] at hr';refine Za (Zk ..) ?_;rw[Yg (n:=i) (by omega)];exact hag (i+1) _ _ (by omega) ⟨rfl,by omega,by rw[hr']; push_cast; rfl⟩
 ·have h:i=l.length:=by simp at h; omega
  subst h;rw[List.drop_length,idxF] at hr';rw[hr']
theorem c119(u:Th)(id:Int):PC 119 [.agg (thC u),.rptr [iv id] 0] (.bool (decide (u.id=id))):=by
 refine Qc hP g119_ok rfl rfl ?_;unfold g119;exact Xf rfl rfl (Za rfl (Za (ld rfl rfl) (Za rfl (Za (Yf ..) rfl))))
theorem Xbp(id:Int):∀(l:List Th) (n:Int),idxF (λu:Th=>decide (u.id=id)) l n=match fnd l id with
  |some k=>n+k
  |none=>-1
 |[],n=>rfl
 |u::l,n=>by
  have ih:=Xbp id l (n+1);simp only[idxF,fnd,List.findIdx?_cons] at ih ⊢;by_cases h:u.id=id
  ·simp[h]
  ·simp only[decide_eq_false h,Bool.false_eq_true,if_false,ih];cases List.findIdx? (λu=>decide (u.id=id)) l with
   |none=>rfl
   |some k=>show n+1+(k:Int)=n+((k+1:Nat):Int); omega
theorem c71(s:St)(hs:StLe 1000000000 s)(id:Int):PC 71 [stV s,iv id] (unitV s id):=by
 have h0:=c118 s.s0.units hs.s0.units 119 [] [.rptr [iv id] 0] g119_ok.plain (λu=>decide (u.id=id)) (λx _=>c119 x id) (λx=>rfl);have h1:=c118 s.s1.units hs.s1.units 119 [] [.rptr [iv id] 0] g119_ok.plain (λu=>decide (u.id=id)) (λx _=>c119 x id) (λx=>rfl);have w1:IntKind.i64.wrap (0+1)=1:=by decide
 have w2:IntKind.i64.wrap (1+1)=2:=by decide
 rw[Xbp] at h0 h1;refine Qc hP g71_ok rfl rfl ?_;unfold g71;refine Xf rfl rfl (Xf rfl rfl ?_);refine YB 3 (Yj ?_);refine Za rfl (Ze (Za rfl (Za rfl (Za rfl (Za rfl (Za rfl ?_))))));refine Xo h0 rfl g118_ok.plain rfl rfl ?_;simp only[unitV,unitR];cases q0:fnd s.s0.units id with
 |some k=>
  simp only[q0];refine Za (XaG ..) ?_;rw[decide_eq_true (by omega)];exact Ze (by simp)
 |none=>
  simp only[q0];refine Za rfl (Yh (Za rfl ?_));rw[w1];refine Yj ?_;refine Za rfl (Ze (Za rfl (Za rfl (Za rfl (Za rfl (Za rfl ?_))))));refine Xo h1 rfl g118_ok.plain rfl rfl ?_;cases q1:fnd s.s1.units id with
  |some k=>
   simp only[q1];refine Za (XaG ..) ?_;rw[decide_eq_true (by omega)];exact Ze (by simp)
  |none=>
   simp only[q1];refine Za rfl (Yh (Za rfl ?_));rw[w2];refine Yj ?_;exact Za rfl (Yh (by simp))
def Zcc(b:Bk)(c:Int):Int:=((b.cards[c.toNat]?).getD default).shield
def hurt(b:Bk)(u:Th)(n:Int):Int:=max (IntKind.i64.wrap (n-Zcc b u.card)) 0
end Go.Ah.Tz
end
section
namespace Go.Ah.Tz
open Go.Proofs.Tryz (prog)
def cap4(n:Int):Int:=min (max n 0) 4000000
theorem Xad{b:Bk}{next:Int}:∀ {l:List Th} {ids:List Int},Qr b next ids l=true→∀u∈l,Xu b next u=true
 |v::l,ids,h,u,hu=>by
  simp only[Qr,Bool.and_eq_true] at h;rcases List.mem_cons.1 hu with rfl|hu
  ·exact h.1
  ·exact Xad h.2.2 u hu
theorem YaF{b:Bk}{next:Int}{u:Th}(h:Xu b next u=true):0≤u.card∧u.card.toNat<b.cards.length:=by
 simp only[Xu,Bool.and_eq_true,decide_eq_true_eq] at h;omega
theorem XbS{e:Int}{b:Bk}{s:St}{bare:Bool}(h:mayR e b s bare=true):∀u∈s.s0.units,0≤u.card∧u.card.toNat<b.cards.length:=by
 have:=Xa3 h;simp only[Xr,Bool.and_eq_true] at this;exact λu hu=>YaF (Xad this.2.1 u hu)
theorem QbS{e:Int}{b:Bk}{s:St}{bare:Bool}(h:mayR e b s bare=true):∀u∈s.s1.units,0≤u.card∧u.card.toNat<b.cards.length:=by
 have:=Xa3 h;simp only[Xr,Bool.and_eq_true] at this;exact λu hu=>YaF (Xad this.2.2.2 u hu)
theorem Qcl{l:List Th}{id:Int}{k:Nat}(h:fnd l id=some k):∃u,l[k]?=some u∧u.id=id:=by
 obtain⟨hk,h2,_⟩:=List.findIdx?_eq_some_iff_getElem.1 h;exact⟨l[k],by simp[hk],by simpa using h2⟩
end Go.Ah.Tz
end
section
namespace Go.Ah.Tz
open Go.Proofs.Tryz (prog)
attribute [local irreducible] Ans.rd Ans.pu Ans.wr Ans.dr Ans.gr Ans.gw Ans.gl Ans.gd Ans.opt joinK W
set_option maxHeartbeats 4000000
theorem c52(cs:List Cd)(hf:QF cs=true)(σ:List ABlk)(K:AVal→List ABlk→Prop)(hK:∀q,K (.bool q) σ):g52 VV [cdV cs] σ K:=by
 simp only[QF,Bool.and_eq_true,decide_eq_true_eq] at hf;obtain⟨f0,f1⟩:=hf;rw[bigE] at f0;have hlen:∀τ,Qe [cdV cs] τ=.ok (iv cs.length) [] []:=λτ=>by simp[Xh]
 unfold g52;refine Za (hlen _) ?_;refine Qk (ι:=Nat) (λi vs τ=>(∃a:Int,vs=[iv i,iv a])∧τ=σ∧i≤cs.length) (λi=>cs.length-i) 0 ⟨⟨0,rfl⟩,rfl,by omega⟩ ?_;rintro i vs τ again ⟨⟨a,rfl⟩,rfl,hi⟩ hag;refine Za rfl (Qb (λh=>?_) (λh=>?_))
 ·have h:i<cs.length:=by simpa using h
  have hfc:cdFit cs[i]=true:=List.all_eq_true.1 f1 _ (List.getElem_mem h);have hix:=Yo τ cdC false false 12 cs .i64 i h;generalize cs[i]=c at hfc hix;simp only[cdFit,Bool.and_eq_true] at hfc;refine Za hix (Za (ldr (cdLd _)) ?_);refine Yd (c110 c hfc.2.1 hfc.2.2.1 hfc.2.2.2) rfl g110_ok.plain rfl (Za (Zk ..) (Za (X2 ..) ?_));refine Yb0 (λ_=>rfl) (λ_=>rfl) (λ_=>hix) (λ_=>rfl) (λ_=>ldr (cdLd0 _)) (λ_=>rfl) (λ_=>X2 ..) ?_;have nxt:VV.rd (Yi .add false [iv i,(.int .i64 1)] τ) λt37_25=>again [t37_25,iv (IntKind.i64.wrap (a+(min (efsW 0 c.played+efsW 0 c.dead+efsW 0 c.dawn) 1073741824)))] τ:=by
   refine Za (Zk ..) ?_;rw[Yg (n:=i) (by omega)];exact hag (i+1) _ _ (by omega) ⟨⟨_,rfl⟩,rfl,by omega⟩
  generalize (_||_:Bool)=q;cases q with
  |true=>
   refine Yb rfl (Yb rfl (Yb rfl ?_));refine Zd rfl (Zd rfl (Zd rfl (Yb rfl (Za rfl ?_))));exact Ze (hK _)
  |false=>
   refine Xa (Za rfl (Xa (Za (X2 ..) (Xa (Za rfl ?_)))));generalize decide ((60:Int)<(i:Int))=q2;cases q2 with
   |true=>
    refine Xa (Za rfl (Xa (Za (hlen _) (Xa (Za (Zb6 ..) (Xa (Za rfl (Za rfl ?_))))))));exact Qb (λ_=>hK _) (λ_=>nxt)
   |false=>
    refine Yb rfl (Yb rfl (Yb rfl (Xa (Za rfl (Za rfl ?_)))));exact Yh nxt
 ·refine Za (hlen _) (Za (X2 ..) ?_);exact hK _
theorem c14(b:Bk)(hf:bkFit b=true)(σ:List ABlk)(K:AVal→List ABlk→Prop)(hK:∀q,K (.bool q) (σ++[.box (bkC b)])):g14 VV [bkV b] σ K:=by
 simp only[bkFit,Bool.and_eq_true,decide_eq_true_eq] at hf;obtain⟨f0,f1,f2⟩:=hf;rw[bigE] at f1;unfold g14;refine Xf (v:=.bptr σ.length 0) (rd:=[]) (up:=[(σ.length,.box (bkC b))]) rfl (QL _ _) ?_;have hB:=Yl σ (.box (bkC b));generalize σ.length=n at hB ⊢;generalize σ++[ABlk.box (bkC b)]=τ at hB hK ⊢;refine Za rfl (Za (ld hB rfl) (Za (v:=iv b.formats.length) (rd:=[]) (by simp[Xh]) ?_));refine Qk (ι:=Nat) (λi vs τ'=>(∃a:Int,vs=[iv i,iv a])∧τ'=τ∧i≤b.formats.length) (λi=>b.formats.length-i) 0 ⟨⟨0,rfl⟩,rfl,by omega⟩ ?_;rintro i vs τ' again ⟨⟨a,rfl⟩,rfl,hi⟩ hag;refine Za rfl (Qb (λh=>?_) (λh=>?_))
 ·have h:i<b.formats.length:=by simpa using h
  have hix:=Yo τ' foC false false 7 b.formats .i64 i h;generalize b.formats[i]=f at hix;refine Za rfl (Za (ld hB rfl) (Za hix (Za rfl (Za (v:=txV f.banned) (rd:=[]) (ldr rfl) (Za (v:=iv f.banned.length) (rd:=[]) (by simp[Xh]) (Za (Zk ..) ?_))))));refine Za rfl (Za (ld hB rfl) (Za hix (Za rfl (Za (v:=txV f.single) (rd:=[]) (ldr rfl) (Za (v:=iv f.single.length) (rd:=[]) (by simp[Xh]) (Za (Zk ..) ?_))))));refine Za (Zk ..) (Za (Zk ..) ?_);rw[Yg (n:=i) (by omega)];exact hag (i+1) _ _ (by omega) ⟨⟨_,rfl⟩,rfl,by omega⟩
 ·refine Za (X2 ..) ?_;generalize decide ((600:Int)<a)=q;cases q with
  |true=>
   refine Yb rfl (Yb rfl (Zc rfl (Za rfl ?_)));exact hK _
  |false=>
   refine Xa (Za rfl (Xa (Za (ld hB rfl) (Zb ?_))));refine QC hP rfl g52_ok rfl (c52 b.cards f0 _ _ (λq=>Za rfl ?_));exact hK _
end Go.Ah.Tz
end
section
namespace Go.Ah.Tz
open Go.Proofs.Tryz (prog)
theorem w19{s:St}(hs:StLe 1000000000 s){σ:List ABlk}{K:AVal→List ABlk→Prop}(hK:K (.agg (stO s σ.length)) (σ++stB s)):VV.call (.call 19) [stV s] σ K:=by
 refine Xas (c19 s hs) rfl g19_ok.plain rfl ?_;rw[Qcu,Xcu]; exact hK
end Go.Ah.Tz
end
section
namespace Go.Ah.Tz
open Go.Proofs.Tryz (prog)
open Go.Proofs.YtflcpnaigpgciaaGreatDoor.Rows (uptoBulk uptoBulkAll)
variable {H:Type}
theorem YM(b:List UInt8):uptoBulk (DataW.lit (H:=H) (.string b))=b.length+1:=by simp only[uptoBulk]
theorem ZJ(ds:List (DataW H)):uptoBulk (.agg ds)=uptoBulkAll ds+1:=by simp only[uptoBulk]
theorem Xcp(es sp:List (DataW H)):uptoBulk (.slice es sp)=uptoBulkAll es+uptoBulkAll sp+1:=by simp only[uptoBulk]
theorem Yx(d:DataW H)(ds:List (DataW H)):uptoBulkAll (d::ds)=uptoBulk d+uptoBulkAll ds:=by simp only[uptoBulkAll]
theorem Yb5(d:DataW H):1≤uptoBulk d:=by
 cases d with
 |lit l=>cases l<;>simp[uptoBulk]
 |_=>simp[uptoBulk]
def Xq(P:Program)(t:TypeId):Option (List TypeId):=match P.underlying t with
 |some (.struct fs)=>some (fs.toList.map (·.type))
 |_=>none
theorem YE{P:Program}{fuel:Nat}{t:TypeId}{xs:List AVal}{d:DataW H}{ts:List TypeId}(h:Typed P fuel t xs d)(hs:Xq P t=some ts):∃f parts ds,fuel=f+1∧xs=parts.flatten∧d=.agg ds∧Tri (Typed P f) ts parts ds:=by
 cases fuel with
 |zero=>exact h.elim
 |succ f=>
  unfold Typed at h;unfold Xq at hs;split at hs
  ·rename_i fs e;rw[e] at h;cases hs;obtain⟨parts,ds,h1,h2,h3⟩:=h;exact⟨f,parts,ds,rfl,h1,h2,h3⟩
  ·cases hs
theorem Yt{P:Program}{fuel:Nat}{t:TypeId}{xs:List AVal}{d:DataW H}{k:IntKind}(h:Typed P fuel t xs d)(hu:P.underlying t=some (.int k)):∃n,xs=[.int k n]∧(Lit.int k n).wf=true∧d=.lit (.int k n):=by
 cases fuel with
 |zero=>exact h.elim
 |succ f=>unfold Typed at h; rw[hu] at h; exact h
theorem Zbj{P:Program}{fuel:Nat}{t:TypeId}{xs:List AVal}{d:DataW H}(h:Typed P fuel t xs d)(hu:P.underlying t=some .bool):∃b,xs=[.bool b]∧d=.lit (.bool b):=by
 cases fuel with
 |zero=>exact h.elim
 |succ f=>unfold Typed at h; rw[hu] at h; exact h
theorem Qa9{P:Program}{fuel:Nat}{t:TypeId}{xs:List AVal}{d:DataW H}(h:Typed P fuel t xs d)(hu:P.underlying t=some .string):∃s,xs=[.str s]∧d=.lit (.string s):=by
 cases fuel with
 |zero=>exact h.elim
 |succ f=>unfold Typed at h; rw[hu] at h; exact h
theorem Xb2{P:Program}{fuel:Nat}{e:TypeId}{X:Type}(toC:X→List AVal)(m:X→Nat)(Q:X→Prop){B:Nat}(hx:∀xs (d:DataW H),Typed P fuel e xs d→uptoBulk d≤B→∃x,xs=toC x∧Q x∧m x≤uptoBulk d) :
  ∀ {rows:List (List AVal)} {es:List (DataW H)},Two (Typed P fuel e) rows es→uptoBulkAll es≤B→∃l:List X,rows=l.map toC∧(∀x∈l,Q x)∧(l.map m).sum≤uptoBulkAll es∧l.length≤uptoBulkAll es
 |[],[],_,_=>⟨[],rfl,by simp,by simp,by simp⟩
 |r::rows,d::es,h,hb=>by
  rw[Yx] at hb;obtain⟨x,e1,q1,m1⟩:=hx r d h.1 (by omega);obtain⟨l,e2,q2,s2,l2⟩:=Xb2 toC m Q hx h.2 (by omega);refine⟨x::l,by rw[e1,e2]; rfl,λy hy=>?_,?_,?_⟩
  ·rcases List.mem_cons.1 hy with rfl|hy
   ·exact q1
   ·exact q2 y hy
  ·rw[List.map_cons,List.sum_cons,Yx]; omega
  ·have:=Yb5 d;rw[List.length_cons,Yx]; omega
 |[],_::_,h,_=>h.elim
 |_::_,[],h,_=>h.elim
theorem XE{P:Program}{fuel:Nat}{t e:TypeId}{n:Nat}{xs:List AVal}{d:DataW H}{X:Type}(toC:X→List AVal)(m:X→Nat)(Q:X→Prop){B:Nat}(h:Typed P fuel t xs d)(hu:P.underlying t=some (.slice e))(hn:P.cellsOf e=n)
 (hx:∀f,f<fuel→∀xs (d:DataW H),Typed P f e xs d→uptoBulk d≤B→∃x,xs=toC x∧Q x∧m x≤uptoBulk d)(hb:uptoBulk d≤B) :
  ∃l:List X,xs=[.rsl false false n (l.map toC)]∧(∀x∈l,Q x)∧(l.map m).sum≤uptoBulk d∧l.length≤uptoBulk d:=by
 cases fuel with
 |zero=>exact h.elim
 |succ f=>
  unfold Typed at h;rw[hu] at h;subst hn;obtain⟨rows,rfl,⟨rfl,rfl⟩|⟨es,sp,rfl,h2⟩⟩:=h
  ·exact⟨[],rfl,by simp,by simp,by simp⟩
  ·rw[Xcp] at hb ⊢;obtain⟨l,rfl,q,s,k⟩:=Xb2 toC m Q (hx f (by omega)) h2 (by omega);exact⟨l,rfl,q,by omega,by omega⟩
theorem Zcx{P:Program}{fuel:Nat}{t e:TypeId}{xs:List AVal}{d:DataW H}(h:Typed P fuel t xs d)(hu:P.underlying t=some (.array 2 e)):∃f p q a b,fuel=f+1∧xs=p++q∧d=.agg [a,b]∧Typed P f e p a∧Typed P f e q b:=by
 cases fuel with
 |zero=>exact h.elim
 |succ f=>
  unfold Typed at h;rw[hu] at h;obtain⟨parts,ds,rfl,rfl,hl,h2⟩:=h
  match parts,hl,h2 with
  |[p,q],_,h2=>
   obtain⟨a,ds,rfl,ha,h2⟩:=h2.cons;obtain⟨b,ds,rfl,hb,h2⟩:=h2.cons
   match ds,h2 with
   |[],_=>exact⟨f,p,q,a,b,rfl,by simp,rfl,ha,hb⟩
theorem wf8{n:Int}(h:(Lit.int .i8 n).wf=true):i8B n=true:=by
 have h1:IntKind.i8.min = -128:=by decide
 have h2:IntKind.i8.max=127:=by decide
 simp only[Lit.wf,h1,h2] at h;exact h
theorem wf64{n:Int}(h:(Lit.int .i64 n).wf=true):i64B n=true:=by
 have h1:IntKind.i64.min = -9223372036854775808:=by decide
 have h2:IntKind.i64.max=9223372036854775807:=by decide
 simp only[Lit.wf,h1,h2] at h;exact h
theorem Xa4{l:List Nm}(h:∀x∈l,nmFit x=true):Qao l=true:=by
 induction l with
 |nil=>rfl
 |cons x l ih=>simp only[Qao,Bool.and_eq_true]; exact⟨h x (List.mem_cons_self ..),ih λy hy=>h y (List.mem_cons_of_mem _ hy)⟩
theorem QbJ{l:List Cn}(h:∀x∈l,cnFit x=true):Zay l=true:=by
 induction l with
 |nil=>rfl
 |cons x l ih=>simp only[Zay,Bool.and_eq_true]; exact⟨h x (List.mem_cons_self ..),ih λy hy=>h y (List.mem_cons_of_mem _ hy)⟩
theorem Qay{l:List Ef}(h:∀x∈l,efFit x=true):Xag l=true:=by
 induction l with
 |nil=>rfl
 |cons x l ih=>simp only[Xag,Bool.and_eq_true]; exact⟨h x (List.mem_cons_self ..),ih λy hy=>h y (List.mem_cons_of_mem _ hy)⟩
theorem ZaU:∀l:List Nm,(nmPs l).length=(l.map λx=>(nmP x).length).sum
 |[]=>rfl
 |x::l=>by simp only[nmPs,List.length_append,List.map_cons,List.sum_cons,ZaU l]
theorem Ybl:∀l:List Cn,(cnPs l).length=(l.map λx=>(cnP x).length).sum
 |[]=>rfl
 |x::l=>by simp only[cnPs,List.length_append,List.map_cons,List.sum_cons,Ybl l]
theorem Qat:∀l:List Ef,(efPs l).length=(l.map λx=>(efP x).length).sum
 |[]=>rfl
 |x::l=>by simp only[efPs,List.length_append,List.map_cons,List.sum_cons,Qat l]
theorem bigLe{n k:Nat}(h:n≤k)(hk:k≤1048576):decide (n≤big)=true:=decide_eq_true (Nat.le_trans h (Nat.le_trans hk (by decide)))
abbrev ZbF:TypeId:=26
abbrev YG:TypeId:=3
abbrev Qa8:TypeId:=4
abbrev QaW:TypeId:=9
abbrev Qbi:TypeId:=64
abbrev Yb1:TypeId:=62
abbrev XcA:TypeId:=137
abbrev Xcv:TypeId:=135
abbrev ZcK:TypeId:=192
abbrev Za9:TypeId:=80
abbrev QcJ:TypeId:=82
abbrev Ycv:TypeId:=22
abbrev YcK:TypeId:=96
abbrev Qcv:TypeId:=23
abbrev Xcc:TypeId:=94
abbrev Zb1:TypeId:=25
abbrev QcK:TypeId:=51
abbrev Ycw:TypeId:=28
abbrev QK:TypeId:=27
abbrev ZcO:TypeId:=30
abbrev Zcw:TypeId:=31
abbrev Xb1:TypeId:=33
theorem Yco:prog.underlying ZbF=some (.int .i8):=by kernel_rfl
theorem ZN:prog.underlying YG=some (.int .i64):=by kernel_rfl
theorem Zba:prog.underlying Qa8=some .bool:=by kernel_rfl
theorem Qb2:prog.underlying QaW=some .string:=by kernel_rfl
theorem QcL:prog.underlying Yb1=some (.slice Qbi):=by kernel_rfl
theorem u_cns:prog.underlying Xcv=some (.slice XcA):=by kernel_rfl
theorem Xcx:prog.underlying Za9=some (.slice ZcK):=by kernel_rfl
theorem u_cds:prog.underlying Ycv=some (.slice QcJ):=by kernel_rfl
theorem u_fos:prog.underlying Qcv=some (.slice YcK):=by kernel_rfl
theorem ZcM:prog.underlying Xcc=some (.slice QaW):=by kernel_rfl
theorem u_ths:prog.underlying Ycw=some (.slice QcK):=by kernel_rfl
theorem Xco:prog.underlying QK=some (.slice YG):=by kernel_rfl
theorem u_sds:prog.underlying Zcw=some (.array 2 ZcO):=by kernel_rfl
theorem n_nm:prog.cellsOf Qbi=4:=by kernel_rfl
theorem n_cn:prog.cellsOf XcA=5:=by kernel_rfl
theorem n_ef:prog.cellsOf ZcK=14:=by kernel_rfl
theorem n_cd:prog.cellsOf QcJ=12:=by kernel_rfl
theorem n_fo:prog.cellsOf YcK=7:=by kernel_rfl
theorem YcI:prog.cellsOf QaW=1:=by kernel_rfl
theorem n_th:prog.cellsOf QcK=4:=by kernel_rfl
theorem n_int:prog.cellsOf YG=1:=by kernel_rfl
theorem s_nm:Xq prog Qbi=some [ZbF,YG,ZbF,Yb1]:=by kernel_rfl
theorem s_cn:Xq prog XcA=some [ZbF,ZbF,QaW,Yb1,Xcv]:=by kernel_rfl
theorem s_ef:Xq prog ZcK=some [ZbF,ZbF,Qbi,QaW,XcA,Za9,Za9]:=by kernel_rfl
theorem s_cd:Xq prog QcJ=some [QaW,Qa8,YG,YG,YG,YG,YG,YG,Za9,Za9,Za9,YG]:=by kernel_rfl
theorem s_fo:Xq prog YcK=some [QaW,YG,YG,YG,Xcc,Xcc,YG]:=by kernel_rfl
theorem s_bk:Xq prog Zb1=some [Ycv,Qcv]:=by kernel_rfl
theorem s_th:Xq prog QcK=some [YG,YG,YG,Qa8]:=by kernel_rfl
theorem s_sd:Xq prog ZcO=some [YG,YG,YG,QK,QK,QK,Ycw,QK]:=by kernel_rfl
theorem s_st:Xq prog Xb1=some [YG,YG,ZbF,Qa8,ZbF,QK,YG,Zcw]:=by kernel_rfl
theorem Ycx(fuel:Nat):∀xs (d:DataW H),Typed prog fuel Qbi xs d→uptoBulk d≤1048576→∃x,xs=nmC x∧nmFit x=true∧(nmP x).length≤uptoBulk d:=by
 induction fuel using Nat.strongRecOn with
 |_ fuel ih=>
 intro xs d h hb;obtain⟨f,parts,ds,rfl,rfl,rfl,r⟩:=YE h s_nm;obtain⟨p0,parts,d0,ds,rfl,rfl,h0,r⟩:=r.cons;obtain⟨p1,parts,d1,ds,rfl,rfl,h1,r⟩:=r.cons;obtain⟨p2,parts,d2,ds,rfl,rfl,h2,r⟩:=r.cons;obtain⟨p3,parts,d3,ds,rfl,rfl,h3,r⟩:=r.cons;obtain⟨rfl,rfl⟩:=r.nil;obtain⟨v0,rfl,w0,rfl⟩:=Yt h0 Yco;obtain⟨v1,rfl,w1,rfl⟩:=Yt h1 ZN;obtain⟨v2,rfl,w2,rfl⟩:=Yt h2 Yco;simp only[ZJ,Yx,YM] at hb ⊢;obtain⟨l,rfl,q,s,k⟩:=XE nmC (λx=>(nmP x).length) (λx=>nmFit x=true) h3 QcL n_nm (λf' hf=>ih f' (by omega)) (show uptoBulk d3≤1048576 by omega);refine⟨.mk v0 v1 v2 l,by rw[Qx]; rfl,?_,?_⟩
 ·simp only[nmFit,bigLe k (show uptoBulk d3≤1048576 by omega),Xa4 q,wf8 w0,wf64 w1,Bool.and_self]
 ·simp only[nmP,List.length_cons,ZaU]; omega
theorem ty_cn(fuel:Nat):∀xs (d:DataW H),Typed prog fuel XcA xs d→uptoBulk d≤1048576→∃x,xs=cnC x∧cnFit x=true∧(cnP x).length≤uptoBulk d:=by
 induction fuel using Nat.strongRecOn with
 |_ fuel ih=>
 intro xs d h hb;obtain⟨f,parts,ds,rfl,rfl,rfl,r⟩:=YE h s_cn;obtain⟨p0,parts,d0,ds,rfl,rfl,h0,r⟩:=r.cons;obtain⟨p1,parts,d1,ds,rfl,rfl,h1,r⟩:=r.cons;obtain⟨p2,parts,d2,ds,rfl,rfl,h2,r⟩:=r.cons;obtain⟨p3,parts,d3,ds,rfl,rfl,h3,r⟩:=r.cons;obtain⟨p4,parts,d4,ds,rfl,rfl,h4,r⟩:=r.cons;obtain⟨rfl,rfl⟩:=r.nil;obtain⟨v0,rfl,w0,rfl⟩:=Yt h0 Yco;obtain⟨v1,rfl,w1,rfl⟩:=Yt h1 Yco;obtain⟨v2,rfl,rfl⟩:=Qa9 h2 Qb2;simp only[ZJ,Yx,YM] at hb ⊢;obtain⟨l,rfl,q,s,k⟩:=XE nmC (λx=>(nmP x).length) (λx=>nmFit x=true) h3 QcL n_nm (λf' _=>Ycx f') (show uptoBulk d3≤1048576 by omega);obtain⟨l2,rfl,q2,s2,k2⟩:=XE cnC (λx=>(cnP x).length) (λx=>cnFit x=true) h4 u_cns n_cn (λf' hf=>ih f' (by omega)) (show uptoBulk d4≤1048576 by omega);refine⟨.mk v0 v1 v2 l l2,by rw[ZM]; rfl,?_,?_⟩
 ·simp only[cnFit,bigLe k (show uptoBulk d3≤1048576 by omega),Xa4 q,bigLe k2 (show uptoBulk d4≤1048576 by omega),QbJ q2,wf8 w0,Bool.and_self]
 ·simp only[cnP,List.length_cons,List.length_append,ZaU,Ybl]; omega
theorem ty_ef(fuel:Nat):∀xs (d:DataW H),Typed prog fuel ZcK xs d→uptoBulk d≤1048576→∃x,xs=efC x∧efFit x=true∧(efP x).length≤uptoBulk d:=by
 induction fuel using Nat.strongRecOn with
 |_ fuel ih=>
 intro xs d h hb;obtain⟨f,parts,ds,rfl,rfl,rfl,r⟩:=YE h s_ef;obtain⟨p0,parts,d0,ds,rfl,rfl,h0,r⟩:=r.cons;obtain⟨p1,parts,d1,ds,rfl,rfl,h1,r⟩:=r.cons;obtain⟨p2,parts,d2,ds,rfl,rfl,h2,r⟩:=r.cons;obtain⟨p3,parts,d3,ds,rfl,rfl,h3,r⟩:=r.cons;obtain⟨p4,parts,d4,ds,rfl,rfl,h4,r⟩:=r.cons;obtain⟨p5,parts,d5,ds,rfl,rfl,h5,r⟩:=r.cons;obtain⟨p6,parts,d6,ds,rfl,rfl,h6,r⟩:=r.cons;obtain⟨rfl,rfl⟩:=r.nil;obtain⟨v0,rfl,w0,rfl⟩:=Yt h0 Yco;obtain⟨v1,rfl,w1,rfl⟩:=Yt h1 Yco;obtain⟨v3,rfl,rfl⟩:=Qa9 h3 Qb2;simp only[ZJ,Yx,YM] at hb ⊢;obtain⟨n,rfl,qn,kn⟩:=Ycx _ _ _ h2 (by omega);obtain⟨c,rfl,qc,kc⟩:=ty_cn _ _ _ h4 (by omega);obtain⟨l,rfl,q,s,k⟩:=XE efC (λx=>(efP x).length) (λx=>efFit x=true) h5 Xcx n_ef (λf' hf=>ih f' (by omega)) (show uptoBulk d5≤1048576 by omega);obtain⟨l2,rfl,q2,s2,k2⟩:=XE efC (λx=>(efP x).length) (λx=>efFit x=true) h6 Xcx n_ef (λf' hf=>ih f' (by omega)) (show uptoBulk d6≤1048576 by omega);refine⟨.mk v0 v1 n v3 c l l2,by rw[YD,Qx,ZM]; rfl,?_,?_⟩
 ·simp only[efFit,qn,qc,bigLe k (show uptoBulk d5≤1048576 by omega),Qay q,bigLe k2 (show uptoBulk d6≤1048576 by omega),Qay q2,wf8 w0,Bool.and_self]
 ·have e1:(if cntOp v0 then nmP n else []).length≤(nmP n).length:=by split<;>simp
  have e2:(if v0=8 then cnP c++(efPs l++efPs l2) else []).length≤(cnP c).length+(efPs l).length+(efPs l2).length:=by
   split
   ·simp only[List.length_append]; omega
   ·simp
  rw[Qat,Qat] at e2;simp only[efP,List.length_cons,List.length_append];omega
theorem Yb2{fuel:Nat}{xs:List AVal}{d:DataW H}(h:Typed prog fuel Za9 xs d)(hb:uptoBulk d≤1048576):∃l,xs=[efV l]∧lsFit l=true∧(efPs l).length≤uptoBulk d:=by
 obtain⟨l,rfl,q,s,k⟩:=XE efC (λx=>(efP x).length) (λx=>efFit x=true) h Xcx n_ef (λf' _=>ty_ef f') hb;exact⟨l,rfl,by simp only[lsFit,bigLe k hb,Qay q,Bool.and_self],by rw[Qat]; exact s⟩
theorem ty_cd(fuel:Nat)(xs:List AVal)(d:DataW H)(h:Typed prog fuel QcJ xs d)(hb:uptoBulk d≤1048576):∃x,xs=cdC x∧(cdFit x=true∧(cdP x).length≤1048576)∧0≤uptoBulk d:=by
 obtain⟨f,parts,ds,rfl,rfl,rfl,r⟩:=YE h s_cd;obtain⟨p0,parts,d0,ds,rfl,rfl,h0,r⟩:=r.cons;obtain⟨p1,parts,d1,ds,rfl,rfl,h1,r⟩:=r.cons;obtain⟨p2,parts,d2,ds,rfl,rfl,h2,r⟩:=r.cons;obtain⟨p3,parts,d3,ds,rfl,rfl,h3,r⟩:=r.cons;obtain⟨p4,parts,d4,ds,rfl,rfl,h4,r⟩:=r.cons;obtain⟨p5,parts,d5,ds,rfl,rfl,h5,r⟩:=r.cons;obtain⟨p6,parts,d6,ds,rfl,rfl,h6,r⟩:=r.cons;obtain⟨p7,parts,d7,ds,rfl,rfl,h7,r⟩:=r.cons;obtain⟨p8,parts,d8,ds,rfl,rfl,h8,r⟩:=r.cons;obtain⟨p9,parts,d9,ds,rfl,rfl,h9,r⟩:=r.cons;obtain⟨p10,parts,d10,ds,rfl,rfl,h10,r⟩:=r.cons;obtain⟨p11,parts,d11,ds,rfl,rfl,h11,r⟩:=r.cons;obtain⟨rfl,rfl⟩:=r.nil;obtain⟨v0,rfl,rfl⟩:=Qa9 h0 Qb2;obtain⟨v1,rfl,rfl⟩:=Zbj h1 Zba;obtain⟨v2,rfl,w2,rfl⟩:=Yt h2 ZN;obtain⟨v3,rfl,w3,rfl⟩:=Yt h3 ZN;obtain⟨v4,rfl,w4,rfl⟩:=Yt h4 ZN;obtain⟨v5,rfl,w5,rfl⟩:=Yt h5 ZN;obtain⟨v6,rfl,w6,rfl⟩:=Yt h6 ZN;obtain⟨v7,rfl,w7,rfl⟩:=Yt h7 ZN;obtain⟨v11,rfl,w11,rfl⟩:=Yt h11 ZN;simp only[ZJ,Yx,YM] at hb ⊢;obtain⟨a,rfl,qa,ka⟩:=Yb2 h8 (by omega);obtain⟨b,rfl,qb,kb⟩:=Yb2 h9 (by omega);obtain⟨c,rfl,qc,kc⟩:=Yb2 h10 (by omega);refine⟨⟨v0,v1,v2,v3,v4,v5,v6,v7,a,b,c,v11⟩,rfl,⟨?_,?_⟩,by omega⟩
 ·simp only[cdFit,bigLe (Nat.le_refl v0.length) (by omega),qa,qb,qc,Bool.and_self]
 ·simp only[cdP,List.length_append]; omega
theorem XcL(fuel:Nat)(xs:List AVal)(d:DataW H)(h:Typed prog fuel QaW xs d)(_:uptoBulk d≤1048576):∃x,xs=txC x∧True∧0≤uptoBulk d:=by
 obtain⟨s,rfl,rfl⟩:=Qa9 h Qb2;exact⟨s,rfl,trivial,by omega⟩
theorem ty_fo(fuel:Nat)(xs:List AVal)(d:DataW H)(h:Typed prog fuel YcK xs d)(hb:uptoBulk d≤1048576):∃x,xs=foC x∧foFit x=true∧0≤uptoBulk d:=by
 obtain⟨f,parts,ds,rfl,rfl,rfl,r⟩:=YE h s_fo;obtain⟨p0,parts,d0,ds,rfl,rfl,h0,r⟩:=r.cons;obtain⟨p1,parts,d1,ds,rfl,rfl,h1,r⟩:=r.cons;obtain⟨p2,parts,d2,ds,rfl,rfl,h2,r⟩:=r.cons;obtain⟨p3,parts,d3,ds,rfl,rfl,h3,r⟩:=r.cons;obtain⟨p4,parts,d4,ds,rfl,rfl,h4,r⟩:=r.cons;obtain⟨p5,parts,d5,ds,rfl,rfl,h5,r⟩:=r.cons;obtain⟨p6,parts,d6,ds,rfl,rfl,h6,r⟩:=r.cons;obtain⟨rfl,rfl⟩:=r.nil;obtain⟨v0,rfl,rfl⟩:=Qa9 h0 Qb2;obtain⟨v1,rfl,w1,rfl⟩:=Yt h1 ZN;obtain⟨v2,rfl,w2,rfl⟩:=Yt h2 ZN;obtain⟨v3,rfl,w3,rfl⟩:=Yt h3 ZN;obtain⟨v6,rfl,w6,rfl⟩:=Yt h6 ZN;simp only[ZJ,Yx,YM] at hb ⊢;obtain⟨a,rfl,_,_,ka⟩:=XE txC (λ_=>0) (λ_=>True) h4 ZcM YcI (λf' _=>XcL f') (show uptoBulk d4≤1048576 by omega);obtain⟨b,rfl,_,_,kb⟩:=XE txC (λ_=>0) (λ_=>True) h5 ZcM YcI (λf' _=>XcL f') (show uptoBulk d5≤1048576 by omega);refine⟨⟨v0,v1,v2,v3,a,b,v6⟩,rfl,?_,by omega⟩;simp only[foFit,bigLe (Nat.le_refl v0.length) (by omega),bigLe ka (show uptoBulk d4≤1048576 by omega),bigLe kb (show uptoBulk d5≤1048576 by omega),Bool.and_self]
theorem ty_bk{fuel:Nat}{xs:List AVal}{d:DataW H}(h:Typed prog fuel Zb1 xs d)(hb:uptoBulk d≤1048576):∃x,xs=bkC x∧bkFit x=true∧Yw x.cards:=by
 obtain⟨f,parts,ds,rfl,rfl,rfl,r⟩:=YE h s_bk;obtain⟨p0,parts,d0,ds,rfl,rfl,h0,r⟩:=r.cons;obtain⟨p1,parts,d1,ds,rfl,rfl,h1,r⟩:=r.cons;obtain⟨rfl,rfl⟩:=r.nil;simp only[ZJ,Yx,YM] at hb ⊢;obtain⟨a,rfl,q,_,k⟩:=XE cdC (λ_=>0) (λx=>cdFit x=true∧(cdP x).length≤1048576) h0 u_cds n_cd (λf' _=>ty_cd f') (show uptoBulk d0≤1048576 by omega);obtain⟨b,rfl,q2,_,k2⟩:=XE foC (λ_=>0) (λx=>foFit x=true) h1 u_fos n_fo (λf' _=>ty_fo f') (show uptoBulk d1≤1048576 by omega);refine⟨⟨a,b⟩,rfl,?_,λc hc=>Nat.le_trans (q c hc).2 (by decide)⟩;simp only[bkFit,QF,bigLe k (show uptoBulk d0≤1048576 by omega),bigLe k2 (show uptoBulk d1≤1048576 by omega),Bool.true_and,Bool.and_eq_true,List.all_eq_true];exact⟨λc hc=>(q c hc).1,q2⟩
theorem ty_th(fuel:Nat)(xs:List AVal)(d:DataW H)(h:Typed prog fuel QcK xs d)(hb:uptoBulk d≤1048576):∃x,xs=thC x∧True∧0≤uptoBulk d:=by
 obtain⟨f,parts,ds,rfl,rfl,rfl,r⟩:=YE h s_th;obtain⟨p0,parts,d0,ds,rfl,rfl,h0,r⟩:=r.cons;obtain⟨p1,parts,d1,ds,rfl,rfl,h1,r⟩:=r.cons;obtain⟨p2,parts,d2,ds,rfl,rfl,h2,r⟩:=r.cons;obtain⟨p3,parts,d3,ds,rfl,rfl,h3,r⟩:=r.cons;obtain⟨rfl,rfl⟩:=r.nil;obtain⟨v0,rfl,w0,rfl⟩:=Yt h0 ZN;obtain⟨v1,rfl,w1,rfl⟩:=Yt h1 ZN;obtain⟨v2,rfl,w2,rfl⟩:=Yt h2 ZN;obtain⟨v3,rfl,rfl⟩:=Zbj h3 Zba;simp only[ZJ,Yx,YM] at hb ⊢;exact⟨⟨v0,v1,v2,v3⟩,rfl,trivial,by omega⟩
theorem ty_i(fuel:Nat)(xs:List AVal)(d:DataW H)(h:Typed prog fuel YG xs d)(_:uptoBulk d≤1048576):∃x,xs=cel x∧True∧0≤uptoBulk d:=by
 obtain⟨s,rfl,_,rfl⟩:=Yt h ZN;exact⟨s,rfl,trivial,by omega⟩
theorem XaP{fuel:Nat}{xs:List AVal}{d:DataW H}(h:Typed prog fuel QK xs d)(hb:uptoBulk d≤1048576):∃l,xs=[rowV l]∧l.length≤2000000:=by
 obtain⟨l,rfl,_,_,k⟩:=XE cel (λ_=>0) (λ_=>True) h Xco n_int (λf' _=>ty_i f') hb;exact⟨l,rfl,by omega⟩
theorem YcL{fuel:Nat}{xs:List AVal}{d:DataW H}(h:Typed prog fuel ZcO xs d)(hb:uptoBulk d≤1048576):∃x,xs=sdC x∧SdLe 2000000 x:=by
 obtain⟨f,parts,ds,rfl,rfl,rfl,r⟩:=YE h s_sd;obtain⟨p0,parts,d0,ds,rfl,rfl,h0,r⟩:=r.cons;obtain⟨p1,parts,d1,ds,rfl,rfl,h1,r⟩:=r.cons;obtain⟨p2,parts,d2,ds,rfl,rfl,h2,r⟩:=r.cons;obtain⟨p3,parts,d3,ds,rfl,rfl,h3,r⟩:=r.cons;obtain⟨p4,parts,d4,ds,rfl,rfl,h4,r⟩:=r.cons;obtain⟨p5,parts,d5,ds,rfl,rfl,h5,r⟩:=r.cons;obtain⟨p6,parts,d6,ds,rfl,rfl,h6,r⟩:=r.cons;obtain⟨p7,parts,d7,ds,rfl,rfl,h7,r⟩:=r.cons;obtain⟨rfl,rfl⟩:=r.nil;obtain⟨v0,rfl,w0,rfl⟩:=Yt h0 ZN;obtain⟨v1,rfl,w1,rfl⟩:=Yt h1 ZN;obtain⟨v2,rfl,w2,rfl⟩:=Yt h2 ZN;simp only[ZJ,Yx,YM] at hb ⊢;obtain⟨a,rfl,ka⟩:=XaP h3 (by omega);obtain⟨b,rfl,kb⟩:=XaP h4 (by omega);obtain⟨c,rfl,kc⟩:=XaP h5 (by omega);obtain⟨u,rfl,_,_,ku⟩:=XE thC (λ_=>0) (λ_=>True) h6 u_ths n_th (λf' _=>ty_th f') (show uptoBulk d6≤1048576 by omega);obtain⟨t,rfl,kt⟩:=XaP h7 (by omega);exact⟨⟨v0,v1,v2,a,b,c,u,t⟩,rfl,ka,kb,kc,by show u.length≤_; omega,kt⟩
theorem ty_st{fuel:Nat}{xs:List AVal}{d:DataW H}(h:Typed prog fuel Xb1 xs d)(hb:uptoBulk d≤1048576):∃x,xs=stC x∧StLe 2000000 x:=by
 obtain⟨f,parts,ds,rfl,rfl,rfl,r⟩:=YE h s_st;obtain⟨p0,parts,d0,ds,rfl,rfl,h0,r⟩:=r.cons;obtain⟨p1,parts,d1,ds,rfl,rfl,h1,r⟩:=r.cons;obtain⟨p2,parts,d2,ds,rfl,rfl,h2,r⟩:=r.cons;obtain⟨p3,parts,d3,ds,rfl,rfl,h3,r⟩:=r.cons;obtain⟨p4,parts,d4,ds,rfl,rfl,h4,r⟩:=r.cons;obtain⟨p5,parts,d5,ds,rfl,rfl,h5,r⟩:=r.cons;obtain⟨p6,parts,d6,ds,rfl,rfl,h6,r⟩:=r.cons;obtain⟨p7,parts,d7,ds,rfl,rfl,h7,r⟩:=r.cons;obtain⟨rfl,rfl⟩:=r.nil;obtain⟨v0,rfl,w0,rfl⟩:=Yt h0 ZN;obtain⟨v1,rfl,w1,rfl⟩:=Yt h1 ZN;obtain⟨v2,rfl,w2,rfl⟩:=Yt h2 Yco;obtain⟨v3,rfl,rfl⟩:=Zbj h3 Zba;obtain⟨v4,rfl,w4,rfl⟩:=Yt h4 Yco;obtain⟨v6,rfl,w6,rfl⟩:=Yt h6 ZN;simp only[ZJ,Yx,YM] at hb ⊢;obtain⟨a,rfl,ka⟩:=XaP h5 (by omega);obtain⟨f',p,q,da,db,rfl,rfl,rfl,hp,hq⟩:=Zcx h7 u_sds;simp only[ZJ,Yx] at hb;obtain⟨x,rfl,kx⟩:=YcL hp (by omega);obtain⟨y,rfl,ky⟩:=YcL hq (by omega);exact⟨⟨v0,v1,v2,v3,v4,a,v6,x,y⟩,rfl,ka,kx,ky⟩
end Go.Ah.Tz
end
section
namespace Go.Ah.Tz
open Go.Proofs.Tryz (prog)
set_option maxRecDepth 1000000
def v18:AVal:=(.tup [(.agg [(.int .i64 1),(.int .i64 0),(.int .i8 0),(.bool false),(.int .i8 0),.nils,(.int .i64 9),(.int .i64 19),(.int .i64 0),(.int .i64 0),.nils,.nils,.nils,(.rsl false false 4 [[(.int .i64 1),(.int .i64 0),(.int .i64 0),(.bool false)],[(.int .i64 2),(.int .i64 1),(.int .i64 0),(.bool false)]]),.nils,(.int .i64 20),(.int .i64 0),(.int .i64 0),(.rsl false false 1 [[(.int .i64 1)],[(.int .i64 0)]]),.nils,.nils,.nils,.nils]),(.agg [(.int .i8 3),(.int .i64 0),(.int .i64 (-1)),(.int .i64 0),(.int .i64 0),(.int .i64 0),.nils]),(.int .i64 0)])
def v22:AVal:=(.tup [(.agg [(.int .i64 1),(.int .i64 0),(.int .i8 0),(.bool false),(.int .i8 0),.nils,(.int .i64 9),(.int .i64 20),(.int .i64 0),(.int .i64 0),.nils,.nils,.nils,(.rsl false false 4 [[(.int .i64 1),(.int .i64 0),(.int .i64 2),(.bool false)],[(.int .i64 2),(.int .i64 1),(.int .i64 0),(.bool false)]]),.nils,(.int .i64 20),(.int .i64 0),(.int .i64 0),(.rsl false false 1 [[(.int .i64 1)],[(.int .i64 0)]]),.nils,.nils,.nils,.nils]),(.agg [(.int .i8 5),(.int .i64 0),(.int .i64 0),(.int .i64 1),(.int .i64 0),(.int .i64 2),.nils]),(.int .i64 0)])
end Go.Ah.Tz
end
section
namespace Go.Proofs.YtflcpnaigpgciaaGreatDoor
open Go.ChangeShapes Go.WideShapes Go.ChangeAt Go.RowKit Go.Ah Go.Ah.Tz
theorem YaU{H:Type}{enc:TypeId×Value→H}{P:Program}{f:Func}{s:ChangeSpec}{apart fresh handsOn again:Bool}{W W':World}{args:Array Value}{v:Value}{ds gs:List (DataW H)}{before pa pv:List MemPlace}
 (hW:DataW.Whole enc P f.params.toList s.vars apart W args.toList ds gs before)
 (hres:∀(b:Nat) (sp:Nat→Bool) (hd:Bool),DataW.TrodAll enc P W' b sp hd f.resultTypes.toList (v.resultList f.resultTypes.size) (s.fn H (ds++gs)).results [])
 (hargs:∀sp:Nat→Bool,(∀p∈before,sp p.block=true)→DataW.TrodAll enc P W' 0 sp true f.params.toList args.toList (s.fn H (ds++gs)).args pa)
 (hvars:∀sp:Nat→Bool,(∀p∈before,sp p.block=true)→DataW.TrodVars enc P W' sp s.vars (s.fn H (ds++gs)).vars pv)
 (hps:before=pa++pv)(hb:Below W.heap.size W W')
 (hok:∀(j:Nat) (t:TypeId) (r:Value),f.resultTypes[j]?=some t→(v.resultList f.resultTypes.size)[j]?=some r→Value.okWide P W' .any 0 t r) :
  s.post enc P f apart fresh handsOn again W args v W':=by
 have hold:∀p∈before,(λb=>decide (b<W.heap.size)) p.block=true:=λp hp=>by simpa using hW.lt p hp
 refine⟨ds,gs,before,[],pa,pv,hW,hres _ _ _,hargs _ hold,hvars _ hold,World.keptBut_mono (λp hp=>⟨hp,?_⟩) (hb.frame (·∈before)),λ_=>?_⟩
 ·rw[hps,List.mem_append] at hp;exact Or.inr hp
 ·have hlt:=hW.lt;obtain⟨_,_,_,_,_,hz,hn⟩:=hW;refine⟨hok,_,_,([]++pa)++pv,⟨[]++pa,pv,trodAll_append (hargs _ (λ_ _=>rfl)) (hres _ _ _),hvars _ (λ_ _=>rfl),rfl,?_,?_⟩,?_⟩
  ·intro b off hp;have hin:MemPlace.cell b off∈before:=by rw[hps]; simpa using hp
   rw[hb.frozen (p:=⟨b,off,none⟩) (show b<W.heap.size from hlt _ hin)];exact hz b off hin
  ·intro ha;have:=hn ha;rw[hps] at this;simpa using this
  ·intro p hp _;rw[hps];simpa using hp
set_option maxRecDepth 100000
abbrev t_u8:TypeId:=5
abbrev XcK:TypeId:=318
theorem d_own:ownKnob Tryz.prog.godebug=none:=by kernel_rfl
theorem YcD:Tryz.prog.globalNamed "strings.asciiSpace" = some 0:=by kernel_rfl
theorem ZbM:(Tryz.prog.globals[0]?).map (·.type)=some XcK:=by kernel_rfl
theorem QbL:laidOutB Tryz.prog=true:=by kernel_rfl
def spaces:List Int:=(List.range 256).map λi=>match (Nat.ble 9 i&&Nat.ble i 13)||Nat.beq i 32 with|true=>1|false=>0
theorem Zcq{l:List (String×DataW Unit)}{x:String×DataW Unit}(hl:l=[x,("strings.asciiSpace",Lib.tabData .u8 spaces)]){W:World}(h:laidMet Tryz.prog l W):∀p∈GL0,Den (λb=>W.heap[b]?) noOwn (.rptr p.2 0) (.pointer (some ⟨p.1,0,none⟩)):=by
 subst hl;have ht:Lib.TabIs Tryz.prog W "strings.asciiSpace" .u8 spaces:=Lib.tabIs_of_head (rest:=[]) YcD ZbM (show Tryz.prog.underlying XcK=some (.array 256 t_u8) by kernel_rfl) (show Tryz.prog.underlying t_u8=some (.int .u8) by kernel_rfl) (by kernel_rfl) (by kernel_rfl) h.tail;have hlen:spaces.length=256:=by simp[spaces]
 have hrow:row0=spaces.map (AVal.int .u8):=by rw[row0,spaces,List.map_map]; rfl
 intro p hp;simp only[GL0,List.mem_singleton] at hp;subst hp;refine .rptr _ row0 0 0 0 (λk=>.int .u8 (spaces.getD k 0)) (λk hk=>?_) (λk y hy=>?_)
 ·have hk':k<spaces.length:=by rw[hrow,List.length_map] at hk; exact hk
  have:=(ZbI (ht.cell YcD k hk')).2;rw[Nat.zero_add]; exact this
 ·rw[hrow,List.getElem?_map] at hy;obtain⟨z,hz,rfl⟩:=Option.map_eq_some_iff.1 hy;have:spaces.getD k 0=z:=by simp[List.getD,hz]
  rw[this]; exact .int _ _ _
def QaQ:List TypeId:=[ZbF,YG,Qa8,QaW,Qbi,Yb1,XcA,Xcv,ZcK,Za9,QcJ,Ycv,YcK,Qcv,Xcc,Zb1,QcK,Ycw,QK,ZcO,Zcw,Xb1]
theorem XaZ:QaQ.all (tyOk Tryz.prog QaQ)=true:=by kernel_rfl
theorem Xb5{M:Nat→Option Obj}{xs:List AVal}{cs:Array Value}(h:DL M xs cs.toList):Den M noOwn (.agg xs) (.agg cs):=
 .agg _ _ _ (by have:=h.1; simpa using this.symm) (λi x v h1 h2=>h.2 i x v h1 (by simpa using h2))
theorem Zaj{P:Program}{t:TypeId}{ts:List TypeId}(h:Xq P t=some ts):∃fs,P.underlying t=some (.struct fs):=by
 unfold Xq at h;split at h
 ·rename_i fs e; exact⟨fs,e⟩
 ·cases h
section
variable {H:Type} {enc:TypeId×Value→H} {W:World} {base:Nat} {v:Value} {d:DataW H} {ps:List MemPlace}
theorem ZcD(ho:Value.okWide Tryz.prog W .any base Zb1 v)(h:DataW.Trod enc Tryz.prog W 0 (λ_=>true) true Zb1 v d ps)(hb:Rows.uptoBulk d≤1048576):∃b:Bk,bkFit b=true∧Yw b.cards∧Den (λk=>W.heap[k]?) noOwn (bkV b) v:=by
 obtain⟨fs,hfs⟩:=Zaj s_bk;obtain⟨cs,rfl,_⟩:=okWide_struct hfs ho;obtain⟨fuel,hf⟩:=h;obtain⟨_,xs,h1,h2⟩:=XX (S:=QaQ) XaZ fuel Zb1 (by decide) _ _ ⟨_,hf⟩;obtain⟨b,rfl,k1,k2⟩:=ty_bk h2 hb;exact⟨b,k1,k2,Xb5 h1⟩
theorem Ycq(ho:Value.okWide Tryz.prog W .any base Xb1 v)(h:DataW.Trod enc Tryz.prog W 0 (λ_=>true) true Xb1 v d ps)(hb:Rows.uptoBulk d≤1048576):∃s:St,StLe 2000000 s∧Den (λk=>W.heap[k]?) noOwn (stV s) v:=by
 obtain⟨fs,hfs⟩:=Zaj s_st;obtain⟨cs,rfl,_⟩:=okWide_struct hfs ho;obtain⟨fuel,hf⟩:=h;obtain⟨_,xs,h1,h2⟩:=XX (S:=QaQ) XaZ fuel Xb1 (by decide) _ _ ⟨_,hf⟩;obtain⟨s,rfl,k⟩:=ty_st h2 hb;exact⟨s,k,Xb5 h1⟩
end
theorem Xay{H:Type}{enc:TypeId×Value→H}{t:TypeId}(hr:Tryz.prog.readableRec t=true)(hrow:t<Tryz.prog.types.size){W W':World}{v:Value}{d:DataW H}{ps all:List MemPlace}(h:DataW.Trod enc Tryz.prog W 0 (λ_=>true) true t v d ps)(hb:Below W.heap.size W W')(hlt:∀p∈all,p.block<W.heap.size)(hin:∀p∈ps,p∈all){sp:Nat→Bool}(hs:∀p∈all,sp p.block=true):DataW.Trod enc Tryz.prog W' 0 sp true t v d ps:=
 WideElems.Trod_stays QbL hr hrow h (λp hp=>hb.same (hlt p (hin p hp))) (λp hp=>hs p (hin p hp))
theorem YaZ(t:TypeId)(h:(Tryz.prog.readableRec t&&decide (t<Tryz.prog.types.size))=true):Tryz.prog.readableRec t=true∧t<Tryz.prog.types.size:=by simpa using h
theorem r_bk:Tryz.prog.readableRec Zb1=true∧Zb1<Tryz.prog.types.size:=YaZ Zb1 (by kernel_rfl)
theorem r_st:Tryz.prog.readableRec Xb1=true∧Xb1<Tryz.prog.types.size:=YaZ Xb1 (by kernel_rfl)
def Qb5:List Int:=[9,13,1,32,133,101,160,5760,5600,8192,8202,1,8232,8233,1,8239,8287,48,12288,12288,1]
noncomputable def Qbc (os:Os):World:=
 let w0:=World.holding Tryz.prog os ⟨#[],#[],[]⟩
 let put (h:Array Obj) (g:Nat) (cs:Array Value):Array Obj:=h.modify g fun
  |.cells _ t frozen=>.cells cs t frozen
  |o=>o
 let h1:=put w0.heap 0 (spaces.map λz=>Value.int .u8 z).toArray
 let h2:=put h1 1 #[.pointer (some ⟨w0.heap.size,0,none⟩)]
 { w0 with heap:=(h2.push (.cells #[.slice (some ⟨w0.heap.size+1,0,none⟩) 7 7,.slice none 0 0,.int .i64 2] 328 (0,0))).push (.cells (Qb5.map λz=>Value.int .u16 z).toArray 331 (0,0)) }
theorem Zm{a b:Bool}(h:a=true)(k:b=true):(a&&b)=true:=by rw[h,k]; rfl
end Go.Proofs.YtflcpnaigpgciaaGreatDoor
end
section
namespace Go.Ah.Tz
open Go.Proofs.Tryz (prog)
abbrev mv2(s:St):List AVal:=[.bptr 0 0,iv s.turn,iv s.mover,iv8 s.phase,.bool s.struck,iv8 s.result,.sl 2 0 s.attack.length false,iv s.next,iv s.s0.life,iv s.s0.mana,iv s.s0.most,.sl 3 0 s.s0.deck.length false,.sl 4 0 s.s0.hand.length false,.sl 5 0 s.s0.grave.length false,.sl 6 0 s.s0.units.length false,.sl 7 0 s.s0.told.length false,iv s.s1.life,iv s.s1.mana,iv s.s1.most,.sl 8 0 s.s1.deck.length false,.sl 9 0 s.s1.hand.length false,.sl 10 0 s.s1.grave.length false,.sl 11 0 s.s1.units.length false,.sl 12 0 s.s1.told.length false]
def Qam(b:Bk)(c:Int):Cd:=(b.cards[c.toNat]?).getD default
def powGo(b:Bk)(place:Int):List Th→Int→Int×Int→Int×Int
 |[],_,a=>a
 |u::l,i,a=>powGo b place l (i+1) (if i=place then (IntKind.i64.wrap (a.1+(Qam b u.card).power),IntKind.i64.wrap (a.2+(Qam b u.card).health)) else (IntKind.i64.wrap (a.1+(Qam b u.card).aurap),IntKind.i64.wrap (a.2+(Qam b u.card).aurah)))
def powF(b:Bk)(l:List Th)(place:Int):Int×Int:=powGo b place l 0 (0,0)
theorem cdLd3(x:Cd):partA false 3 1 (cdC x)=some (iv x.power):=rfl
theorem cdLd4(x:Cd):partA false 4 1 (cdC x)=some (iv x.health):=rfl
theorem cdLd6(x:Cd):partA false 6 1 (cdC x)=some (iv x.aurap):=rfl
theorem cdLd7(x:Cd):partA false 7 1 (cdC x)=some (iv x.aurah):=rfl
attribute [local irreducible] Ans.rd Ans.pu Ans.wr Ans.dr Ans.gr Ans.gw Ans.gl Ans.gd Ans.opt joinK W
set_option maxHeartbeats 4000000
theorem c75_0(b:Bk)(s:St)(hl:s.s0.units.length≤1000000000)(hu:∀u∈s.s0.units,0≤u.card∧u.card.toNat<b.cards.length)(place:Int):PC 75 [.rptr (.rptr (bkC b) 0::stC s) 0,iv 0,iv place] (.tup [iv (powF b s.s0.units place).1,iv (powF b s.s0.units place).2]):=by
 refine Qc hP g75_ok rfl rfl ?_;unfold g75;refine Za rfl (Za rfl (Za rfl (Za rfl (Za rfl (Za (v:=thV s.s0.units) (rd:=[]) (ldr rfl) (Za (v:=iv s.s0.units.length) (rd:=[]) (by simp[Xh]) ?_))))));refine Qk (ι:=Nat) (λi vs _=>(∃a:Int×Int,vs=[iv i,iv a.1,iv a.2]∧powF b s.s0.units place=powGo b place (s.s0.units.drop i) i a)∧i≤s.s0.units.length) (λi=>s.s0.units.length-i) 0 ⟨⟨(0,0),rfl,by simp[powF]⟩,by omega⟩ ?_;rintro i vs σ again ⟨⟨a,rfl,hr⟩,hi⟩ hag;refine Za rfl (Qb (λh=>?_) (λh=>?_));rotate_left
 ·have h:i=s.s0.units.length:=by simp at h; omega
  subst h;rw[List.drop_length,powGo] at hr;show AVal.tup [iv a.1,iv a.2]=_;rw[hr]
 have h:i<s.s0.units.length:=by simpa using h
 have hmem:=List.getElem_mem h;rw[YLD h,powGo] at hr;have hix:=λ(t:List ABlk)=>Yo t thC false false 4 s.s0.units .i64 i h;generalize s.s0.units[i]=u at hmem hr hix;have hcu:=hu u hmem;have hcx:=λ(t:List ABlk)=>Zbz t cdC false false 12 b.cards .i64 u.card hcu.1 hcu.2;have hcd:Qam b u.card=b.cards[u.card.toNat]:=by simp[Qam,List.getElem?_eq_getElem hcu.2]
 rw[hcd] at hr;generalize b.cards[u.card.toNat]=c at hr hcx;refine Ql λk10 hk10=>?_;refine Za (hix _) (Za (ldr rfl) (Xz (row:=thC u) (row':=thC u) rfl rfl rfl ?_));have hB:=Yl σ (.box (thC u));refine Za rfl (Za rfl (Za (ldr rfl) (Za rfl (Za rfl (Za (ldr rfl) (Za rfl (Za (ld hB rfl) (Za (hcx _) (Za (Yf ..) ?_)))))))));refine Qb (λhp=>?_) (λhp=>?_)
 ·rw[if_pos (of_decide_eq_true hp)] at hr;refine Za rfl (Za rfl (Za (ldr (cdLd3 _)) (Za (Zk ..) (Za rfl (Za rfl (Za (ldr (cdLd4 _)) (Za (Zk ..) ?_)))))));rw[hk10];refine Za (Zk ..) ?_;rw[Yg (n:=i) (by omega)];exact hag (i+1) _ _ (by omega) ⟨⟨_,rfl,by rw[hr]; push_cast; rfl⟩,by omega⟩
 ·rw[if_neg (of_decide_eq_false hp)] at hr;refine Za rfl (Za rfl (Za (ldr (cdLd6 _)) (Za (Zk ..) (Za rfl (Za rfl (Za (ldr (cdLd7 _)) (Za (Zk ..) ?_)))))));rw[hk10];refine Za (Zk ..) ?_;rw[Yg (n:=i) (by omega)];exact hag (i+1) _ _ (by omega) ⟨⟨_,rfl,by rw[hr]; push_cast; rfl⟩,by omega⟩
theorem c75_1(b:Bk)(s:St)(hl:s.s1.units.length≤1000000000)(hu:∀u∈s.s1.units,0≤u.card∧u.card.toNat<b.cards.length)(place:Int):PC 75 [.rptr (.rptr (bkC b) 0::stC s) 0,iv 1,iv place] (.tup [iv (powF b s.s1.units place).1,iv (powF b s.s1.units place).2]):=by
 refine Qc hP g75_ok rfl rfl ?_;unfold g75;refine Za rfl (Za rfl (Za rfl (Za rfl (Za rfl (Za (v:=thV s.s1.units) (rd:=[]) (ldr rfl) (Za (v:=iv s.s1.units.length) (rd:=[]) (by simp[Xh]) ?_))))));refine Qk (ι:=Nat) (λi vs _=>(∃a:Int×Int,vs=[iv i,iv a.1,iv a.2]∧powF b s.s1.units place=powGo b place (s.s1.units.drop i) i a)∧i≤s.s1.units.length) (λi=>s.s1.units.length-i) 0 ⟨⟨(0,0),rfl,by simp[powF]⟩,by omega⟩ ?_;rintro i vs σ again ⟨⟨a,rfl,hr⟩,hi⟩ hag;refine Za rfl (Qb (λh=>?_) (λh=>?_));rotate_left
 ·have h:i=s.s1.units.length:=by simp at h; omega
  subst h;rw[List.drop_length,powGo] at hr;show AVal.tup [iv a.1,iv a.2]=_;rw[hr]
 have h:i<s.s1.units.length:=by simpa using h
 have hmem:=List.getElem_mem h;rw[YLD h,powGo] at hr;have hix:=λ(t:List ABlk)=>Yo t thC false false 4 s.s1.units .i64 i h;generalize s.s1.units[i]=u at hmem hr hix;have hcu:=hu u hmem;have hcx:=λ(t:List ABlk)=>Zbz t cdC false false 12 b.cards .i64 u.card hcu.1 hcu.2;have hcd:Qam b u.card=b.cards[u.card.toNat]:=by simp[Qam,List.getElem?_eq_getElem hcu.2]
 rw[hcd] at hr;generalize b.cards[u.card.toNat]=c at hr hcx;refine Ql λk10 hk10=>?_;refine Za (hix _) (Za (ldr rfl) (Xz (row:=thC u) (row':=thC u) rfl rfl rfl ?_));have hB:=Yl σ (.box (thC u));refine Za rfl (Za rfl (Za (ldr rfl) (Za rfl (Za rfl (Za (ldr rfl) (Za rfl (Za (ld hB rfl) (Za (hcx _) (Za (Yf ..) ?_)))))))));refine Qb (λhp=>?_) (λhp=>?_)
 ·rw[if_pos (of_decide_eq_true hp)] at hr;refine Za rfl (Za rfl (Za (ldr (cdLd3 _)) (Za (Zk ..) (Za rfl (Za rfl (Za (ldr (cdLd4 _)) (Za (Zk ..) ?_)))))));rw[hk10];refine Za (Zk ..) ?_;rw[Yg (n:=i) (by omega)];exact hag (i+1) _ _ (by omega) ⟨⟨_,rfl,by rw[hr]; push_cast; rfl⟩,by omega⟩
 ·rw[if_neg (of_decide_eq_false hp)] at hr;refine Za rfl (Za rfl (Za (ldr (cdLd6 _)) (Za (Zk ..) (Za rfl (Za rfl (Za (ldr (cdLd7 _)) (Za (Zk ..) ?_)))))));rw[hk10];refine Za (Zk ..) ?_;rw[Yg (n:=i) (by omega)];exact hag (i+1) _ _ (by omega) ⟨⟨_,rfl,by rw[hr]; push_cast; rfl⟩,by omega⟩
end Go.Ah.Tz
end
section
namespace Go.Ah.Tz
open Go.Proofs.Tryz (prog)
attribute [local irreducible] Ans.rd Ans.pu Ans.wr Ans.dr Ans.gr Ans.gw Ans.gl Ans.gd Ans.opt joinK W
set_option maxHeartbeats 4000000
theorem Xb6{σ:List ABlk}{b m:Nat}{L:List Int}(hb:hget σ b=.rows 1 (L.map cel))(hm:m<L.length)(x:Int):Xb 1 [.ptr b m 0,iv x] σ=.ok .junk [] [(b,.rows 1 ((L.set m x).map cel))]:=by
 have hl:m<(L.map cel).length:=by simpa using hm
 have h1:nth (L.map cel) m=some (cel L[m]):=by rw[Y1,List.getElem?_map,List.getElem?_eq_getElem hm]; rfl
 have h2:ZE m [iv x] (L.map cel)=some ((L.set m x).map cel):=by
  rw[QaE hl,List.map_set]; rfl
 show (match hget σ b with
   |.rows sz rs=>match nth rs m with
    |some row=>match cellsOf (iv x) with
     | some cs=>bif Nat.beq cs.length 1 then (match splice 0 cs row with
      |some row'=>match ZE m row' rs with
       |some rs'=>SRes.ok .junk [] [(b,.rows sz rs')]
       |none=>.stop
      | none=>.stop) else .stop
     |none=>.stop
    |none=>.stop
   | _=>.stop)=_
 rw[hb];simp only[h1];show (match ZE m [iv x] (L.map cel) with
  |some rs'=>SRes.ok .junk [] [(b,.rows 1 rs')]
  | none=>.stop)=_
 rw[h2]
end Go.Ah.Tz
end
section
namespace Go.Ah.Tz
open Go.Proofs.Tryz (prog)
abbrev XcC(x:St)(g0 g1:Nat):List AVal:=[iv x.turn,iv x.mover,iv8 x.phase,.bool x.struck,iv8 x.result,.sl 3 0 x.attack.length false,iv x.next,iv x.s0.life,iv x.s0.mana,iv x.s0.most,.sl 4 0 x.s0.deck.length false,.sl 5 0 x.s0.hand.length false,.sl g0 0 x.s0.grave.length false,.sl 7 0 x.s0.units.length false,.sl 8 0 x.s0.told.length false,iv x.s1.life,iv x.s1.mana,iv x.s1.most,.sl 9 0 x.s1.deck.length false,.sl 10 0 x.s1.hand.length false,.sl g1 0 x.s1.grave.length false,.sl 12 0 x.s1.units.length false,.sl 13 0 x.s1.told.length false]
def evN(e:Ev):List AVal:=[iv8 e.kind,iv e.side,iv e.card,iv e.id,iv e.other,iv e.n,.nils]
def Agr(τ τ':List ABlk)(ex:List Nat):Prop:=τ.length≤τ'.length∧∀c,c<τ.length→c∉ex→hget τ' c=hget τ c
theorem Agr.set(τ:List ABlk)(b:Nat)(x:ABlk):Agr τ (τ.set b x) [b]:=⟨by simp,λc hc h=>Qs x hc (by simpa using h)⟩
structure BMem (b:Bk) (s x:St) (g0 g1:Nat) (τ:List ABlk):Prop where
 k0:hget τ 0=.box (bkC b)
 k1:hget τ 1=.box (stC s)
 k2:hget τ 2=.box zStC
 mv:hget τ 14=.box (.bptr 0 0::XcC x g0 g1)
 at_:∃r,hget τ 3=.rows 1 ((x.attack++r).map cel)
 r4:hget τ 4=.rows 1 (x.s0.deck.map cel)
 r5:hget τ 5=.rows 1 (x.s0.hand.map cel)
 gr0:hget τ g0=.rows 1 (x.s0.grave.map cel)
 r7:∃r,hget τ 7=.rows 4 ((x.s0.units++r).map thC)
 r8:hget τ 8=.rows 1 (x.s0.told.map cel)
 r9:hget τ 9=.rows 1 (x.s1.deck.map cel)
 r10:hget τ 10=.rows 1 (x.s1.hand.map cel)
 gr1:hget τ g1=.rows 1 (x.s1.grave.map cel)
 r12:∃r,hget τ 12=.rows 4 ((x.s1.units++r).map thC)
 r13:hget τ 13=.rows 1 (x.s1.told.map cel)
 n0:g0=6∨15≤g0
 n1:g1=11∨15≤g1
 ne:g0≠g1
end Go.Ah.Tz
end
section
namespace Go.Ah.Tz
structure SideP (b:Bk) (x:Sd):Prop where
 life:wIn x.life=true
 mana:0≤x.mana∧wIn x.mana=true
 most:0≤x.most∧x.most≤10
 deck:Xn b.cards.length x.deck 60=true
 hand:Xn b.cards.length x.hand 10=true
 grave:Xn b.cards.length x.grave 1000000=true
 told:Xn b.cards.length x.told 1000000=true
 units:x.units.length≤7
def UnP(b:Bk)(s:St):Prop:=(∀u∈s.s0.units++s.s1.units,Xu b s.next u=true)∧((s.s0.units++s.s1.units).map Th.id).Nodup
def AtP(s:St):Prop:=(s.phase≠1→s.attack=[])∧(s.phase=1→s.struck=true∧s.attack.length≤7∧s.attack.Nodup∧∀a∈s.attack,(unitR s a).2.2=true∧(unitR s a).1=s.mover)
def HdP(s:St):Prop:=1≤s.turn∧s.turn≤4096∧0≤s.mover∧s.mover≤1∧0≤s.phase∧s.phase≤2∧0≤s.result∧s.result≤3∧((s.result==0)==(s.phase != 2))=true∧1≤s.next∧s.next≤1000000
structure MayP (b:Bk) (s:St):Prop where
 hd:HdP s
 s0:SideP b s.s0
 s1:SideP b s.s1
 un:UnP b s
 at_:AtP s
end Go.Ah.Tz
end
section
namespace Go.Ah.Tz
open Go.Proofs.Tryz (prog)
attribute [local irreducible] Ans.rd Ans.pu Ans.wr Ans.dr Ans.gr Ans.gw Ans.gl Ans.gd Ans.opt joinK W
set_option maxHeartbeats 4000000
theorem c55(b:Bk)(hf:bkFit b=true)(hsm:Yw b.cards)(s:St)(hs:StLe 1000000000 s):PC 55 [bkV b,stV s] (iv (bif mayR (bkR b).1 b s false then 0 else 170)):=by
 refine Qc hP g55_ok rfl rfl ?_;unfold g55;refine Xf (v:=.bptr 0 0) (rd:=[]) (up:=[(0,.box (bkC b))]) rfl rfl ?_;refine Xf (v:=.bptr 1 0) (rd:=[]) (up:=[(1,.box (stC s))]) rfl rfl ?_;refine XG (rd:=[0,1]) (c111 b hf hsm s hs false) rfl g111_ok.plain (.cons (Bor.box (row:=bkC b) rfl (by simp) (BorL.ro rfl)) <| .cons (Bor.box (row:=stC s) rfl (by simp) (BorL.ro rfl)) <| .cons (Bor.ro rfl) .nil) rfl ?_;generalize mayR (bkR b).1 b s false=q;cases q with
 |true=>exact Za rfl (Yh rfl)
 |false=>exact Za rfl (Ze rfl)
end Go.Ah.Tz
end
section
namespace Go.Ah.Tz
open Go.Proofs.Tryz (prog)
open Go.Proofs.YtflcpnaigpgciaaGreatDoor.Rows (uptoBulk uptoBulkAll)
variable {H:Type}
abbrev t_ac:TypeId:=72
abbrev t_prs:TypeId:=70
abbrev t_pr:TypeId:=151
end Go.Ah.Tz
namespace Go.Proofs.YtflcpnaigpgciaaGreatDoor
open Go.ChangeShapes Go.WideShapes Go.ChangeAt Go.RowKit Go.Ah Go.Ah.Tz
set_option maxRecDepth 100000
def ZaR:List TypeId:=[ZbF,YG,t_ac,t_prs,t_pr,QK]
theorem Zbx:ZaR.all (tyOk Tryz.prog ZaR)=true:=by kernel_rfl
end Go.Proofs.YtflcpnaigpgciaaGreatDoor
end
section
namespace Go.Proofs.YtflcpnaigpgciaaGreatDoor
open Go.ChangeShapes Go.WideShapes Go.ChangeAt Go.RowKit Go.Ah Go.Ah.Tz
set_option maxRecDepth 100000
theorem QcI:Tryz.prog.readableRec QK=true∧QK<Tryz.prog.types.size:=YaZ QK (by kernel_rfl)
section
variable {H:Type} {enc:TypeId×Value→H} {W:World} {base:Nat} {v:Value} {d:DataW H} {ps:List MemPlace}
theorem d_row(ho:Value.okWide Tryz.prog W .any base QK v)(h:DataW.Trod enc Tryz.prog W 0 (λ_=>true) true QK v d ps)(hb:Rows.uptoBulk d≤1048576):∃l:List Int,l.length≤1000000000∧Den (λk=>W.heap[k]?) noOwn (rowV l) v:=by
 obtain⟨a,len,cap,rfl⟩:=okWide_slice Xco ho;obtain⟨fuel,hf⟩:=h;obtain⟨_,xs,h1,h2⟩:=XX (S:=ZaR) Zbx fuel QK (by decide) _ _ ⟨_,hf⟩;obtain⟨l,rfl,k⟩:=XaP h2 hb;exact⟨l,by omega,h1.2 0 _ _ rfl rfl⟩
end
end Go.Proofs.YtflcpnaigpgciaaGreatDoor
end
section
namespace Go.Ah.Tz
open Go.Proofs.Tryz (prog)
open Go.Proofs.YtflcpnaigpgciaaGreatDoor.Rows (uptoBulk uptoBulkAll)
variable {H:Type}
abbrev ZaF:TypeId:=61
theorem ZcJ:Xq prog ZaF=some [YG,YG]:=by kernel_rfl
theorem ZcL{fuel:Nat}{xs:List AVal}{d:DataW H}(h:Typed prog fuel ZaF xs d):∃a b,xs=[iv a,iv b]:=by
 obtain⟨f,parts,ds,rfl,rfl,rfl,r⟩:=YE h ZcJ;obtain⟨p0,parts,d0,ds,rfl,rfl,h0,r⟩:=r.cons;obtain⟨p1,parts,d1,ds,rfl,rfl,h1,r⟩:=r.cons;obtain⟨rfl,rfl⟩:=r.nil;obtain⟨v0,rfl,w0,rfl⟩:=Yt h0 ZN;obtain⟨v1,rfl,w1,rfl⟩:=Yt h1 ZN;exact⟨v0,v1,rfl⟩
end Go.Ah.Tz
namespace Go.Proofs.YtflcpnaigpgciaaGreatDoor
open Go.ChangeShapes Go.WideShapes Go.ChangeAt Go.RowKit Go.Ah Go.Ah.Tz
set_option maxRecDepth 100000
def Yat:List TypeId:=[ZbF,YG,Qbi,Yb1,ZaF]
theorem YaJ:Yat.all (tyOk Tryz.prog Yat)=true:=by kernel_rfl
theorem XcI:Tryz.prog.readableRec ZaF=true∧ZaF<Tryz.prog.types.size:=YaZ ZaF (by kernel_rfl)
theorem r_nm:Tryz.prog.readableRec Qbi=true∧Qbi<Tryz.prog.types.size:=YaZ Qbi (by kernel_rfl)
section
variable {H:Type} {enc:TypeId×Value→H} {W:World} {base:Nat} {v:Value} {d:DataW H} {ps:List MemPlace}
theorem d_env(ho:Value.okWide Tryz.prog W .any base ZaF v)(h:DataW.Trod enc Tryz.prog W 0 (λ_=>true) true ZaF v d ps):∃a b:Int,Den (λk=>W.heap[k]?) noOwn (.agg [iv a,iv b]) v:=by
 obtain⟨fs,hfs⟩:=Zaj ZcJ;obtain⟨cs,rfl,_⟩:=okWide_struct hfs ho;obtain⟨fuel,hf⟩:=h;obtain⟨_,xs,h1,h2⟩:=XX (S:=Yat) YaJ fuel ZaF (by decide) _ _ ⟨_,hf⟩;obtain⟨a,b,rfl⟩:=ZcL h2;exact⟨a,b,Xb5 h1⟩
theorem d_num(ho:Value.okWide Tryz.prog W .any base Qbi v)(h:DataW.Trod enc Tryz.prog W 0 (λ_=>true) true Qbi v d ps)(hb:Rows.uptoBulk d≤1048576):∃x:Nm,nmFit x=true∧Den (λk=>W.heap[k]?) noOwn (.agg (nmC x)) v:=by
 obtain⟨fs,hfs⟩:=Zaj s_nm;obtain⟨cs,rfl,_⟩:=okWide_struct hfs ho;obtain⟨fuel,hf⟩:=h;obtain⟨_,xs,h1,h2⟩:=XX (S:=Yat) YaJ fuel Qbi (by decide) _ _ ⟨_,hf⟩;obtain⟨x,rfl,k1,k2⟩:=Ycx _ _ _ h2 hb;exact⟨x,k1,Xb5 h1⟩
end
end Go.Proofs.YtflcpnaigpgciaaGreatDoor
end
section
namespace Go.Ah.Tz
open Go.Proofs.Tryz (prog)
attribute [local irreducible] Ans.rd Ans.pu Ans.wr Ans.dr Ans.gr Ans.gw Ans.gl Ans.gd Ans.opt joinK W
set_option maxHeartbeats 8000000
theorem told{α:Type}(l:List α){Q:α→Int→Prop}(h:∀x∈l,∃n,Q x n):∃F:Nat→Int,∀i (h:i<l.length),Q l[i] (F i):=by
 refine Classical.axiomOfChoice (r:=λ(i:Nat) (n:Int)=>∀(h:i<l.length),Q l[i] n) (λi=>?_);by_cases hi:i<l.length
 ·obtain⟨n,hn⟩:=h l[i] (List.getElem_mem hi);exact⟨n,λ_=>hn⟩
 ·exact⟨0,λh'=>(hi h').elim⟩
end Go.Ah.Tz
end
section
namespace Go.Ah.Tz
open Go.Proofs.Tryz (prog)
theorem ZbE(s:St)(id:Int):(∃k:Nat,∃u,unitR s id=(0,(k:Int),true)∧s.s0.units[k]?=some u)∨(∃k:Nat,∃u,unitR s id=(1,(k:Int),true)∧s.s1.units[k]?=some u)∨unitR s id=(0,0,false):=by
 unfold unitR;cases q0:fnd s.s0.units id with
 |some k=>obtain⟨u,hk,_⟩:=Qcl q0; exact .inl ⟨k,u,rfl,hk⟩
 |none=>
  cases q1:fnd s.s1.units id with
  |some k=>obtain⟨u,hk,_⟩:=Qcl q1; exact .inr (.inl ⟨k,u,rfl,hk⟩)
  |none=>exact .inr (.inr rfl)
end Go.Ah.Tz
end
section
namespace Go.Ah
open Go.Sort (Holds putRow grow putCells)
theorem XbY{σ:List ABlk}{n c k:Nat}{ex2:Bool}{rs2:List (List AVal)}(hc:hget σ c=.rows n rs2)(hl2:rs2.length=k):ZF n σ (.sl c 0 k ex2)=some (rs2,[c]):=by
 simp only[ZF,hc];simp[cut,hl2];rw[show Nat.ble k k=true from Nat.ble_eq_true_of_le (Nat.le_refl _)];simp[←hl2]
theorem YbN(n by_:Nat){σ:List ABlk}{b c len k:Nat}{ex ex2:Bool}{rs rs2:List (List AVal)}(hb:hget σ b=.rows n rs)(hc:hget σ c=.rows n rs2)(hl:rs.length=len)(hl2:rs2.length=k)(hr:Zz rs2=true)(hroom:(2*(len+k)+192)*by_≤2 ^ 48) :
  Qi n by_ [.sl b 0 len ex,.sl c 0 k ex2] σ=.ok (.sl σ.length 0 (len+k) false) [c] ([(b,.dead)]++[(σ.length,.rows n (rs++rs2))]):=by
 have h2:Nat.ble ((2*(len+k)+192)*by_) (2 ^ 48)=true:=Nat.ble_eq_true_of_le hroom;have:Qi n by_ [.sl b 0 len ex,.sl c 0 k ex2] σ=YI n by_ σ rs [(b,.dead)] (.sl c 0 k ex2):=by
  simp[Qi,QaF,hb,hl]
 rw[this];unfold YI;simp only[XbY hc hl2,hr,hl2,h2,Bool.and_self,cond_true,hl]
theorem ZbN(n by_:Nat){σ:List ABlk}{c k:Nat}{ex2:Bool}{rs2:List (List AVal)}(hc:hget σ c=.rows n rs2)(hl2:rs2.length=k)(hr:Zz rs2=true)(hroom:(2*k+192)*by_≤2 ^ 48) :
  Qi n by_ [.nils,.sl c 0 k ex2] σ=.ok (.sl σ.length 0 k false) [c] ([]++[(σ.length,.rows n rs2)]):=by
 have h3:Nat.ble ((2*k+192)*by_) (2 ^ 48)=true:=Nat.ble_eq_true_of_le hroom;show YI n by_ σ [] [] (.sl c 0 k ex2)=_;unfold YI;simp only[XbY hc hl2,hr,hl2,List.length_nil,h3,Bool.and_self,cond_true,Nat.zero_add,List.nil_append]
end Go.Ah
end
section
namespace Go.Ah.Tz
open Go.Proofs.Tryz (prog)
def Xaq(s:St)(side:Int):Sd:=if side=0 then s.s0 else s.s1
structure CP (τ:List ABlk) (n:Nat) (t:St):Prop where
 box:hget τ (n+11)=.box (stO t n)
 key:∀i x,(stB t)[i]?=some x→hget τ (n+i)=x
end Go.Ah.Tz
end
section
namespace Go.Ah.Tz
open Go.Proofs.Tryz (prog)
attribute [local irreducible] Ans.rd Ans.pu Ans.wr Ans.dr Ans.gr Ans.gw Ans.gl Ans.gd Ans.opt joinK W
set_option maxHeartbeats 8000000
theorem Gr.set{σ τ:List ABlk}{n k:Nat}{rows:List (List AVal)}{v:AVal}(h:Gr σ n rows k v τ){c:Nat}(hc:c<σ.length)(x:ABlk):Gr (σ.set c x) n rows k v (τ.set c x):=by
 obtain⟨h1,h2,h3⟩:=h;refine⟨by simpa using h1,λd hd=>?_,?_⟩
 ·have hd':d<σ.length:=by simpa using hd
  by_cases e:d=c
  ·subst e; rw[Qt _ (by omega),Qt _ hc]
  ·rw[Qs _ (by omega) e,Qs _ hd' e]; exact h2 d hd'
 ·rcases h3 with h3|⟨q1,b,q2,q3,q4,q5⟩
  ·exact .inl h3
  ·exact .inr ⟨q1,b,by simpa using q2,q3,Xv q4 (by simp) (by omega),q5⟩
end Go.Ah.Tz
end
section
namespace Go.Ah.Tz
open Go.Proofs.Tryz (prog)
def powId(b:Bk)(s:St)(id:Int):Int×Int:=if (unitR s id).2.2 then powF b (Xaq s (unitR s id).1).units (unitR s id).2.1 else (0,0)
def powV(b:Bk)(s:St)(id:Int):AVal:=.tup [iv (powId b s id).1,iv (powId b s id).2,.bool (unitR s id).2.2]
attribute [local irreducible] Ans.rd Ans.pu Ans.wr Ans.dr Ans.gr Ans.gw Ans.gl Ans.gd Ans.opt joinK W
set_option maxHeartbeats 8000000
theorem c54(b:Bk)(hf:bkFit b=true)(hsm:Yw b.cards)(s:St)(hs:StLe 1000000000 s)(hm:mayR (bkR b).1 b s true=true)(id:Int):PC 54 [bkV b,stV s,iv id] (powV b s id):=by
 refine Qc hP g54_ok rfl rfl ?_;unfold g54;refine Xf (v:=.bptr 0 0) (rd:=[]) (up:=[(0,.box (bkC b))]) rfl rfl ?_;refine Xf (v:=.bptr 1 0) (rd:=[]) (up:=[(1,.box (stC s))]) rfl rfl ?_;refine c56n b hf hsm s hs (n0:=2) (n:=13) rfl rfl rfl rfl (λh=>by rw[hm] at h; cases h) (λ_=>?_);refine Za rfl (Yh (Za (ld (row:=stC s) rfl rfl) (Yd (c71 s hs id) rfl g71_ok.plain rfl (Za rfl (Za rfl (Za rfl (Za rfl ?_)))))));rcases ZbE s id with ⟨k,u,hu,hk⟩|⟨k,u,hu,hk⟩|hu
 ·have e:powV b s id=.tup [iv (powF b s.s0.units k).1,iv (powF b s.s0.units k).2,.bool true]:=by simp[powV,powId,hu,Xaq]
  rw[e,hu];refine Yh ?_;refine XG (rd:=[0,2,3,4,5,6,7,8,9,10,11,12,13]) (c75_0 b s hs.s0.units (XbS hm) k) rfl g75_ok.plain (.cons (Bor.box (row:=mv2 s) rfl (by decide) (.cons (Bor.box (row:=bkC b) rfl (by decide) (BorL.ro rfl)) ?_)) <| .cons (Bor.ro rfl) <| .cons (Bor.ro rfl) .nil) rfl ?_
  ·exact SB.mk (s:=s) (RI.own rfl (by decide) rfl) (RI.own rfl (by decide) rfl) (RI.own rfl (by decide) rfl) (RI.own rfl (by decide) rfl) (RT.own rfl (by decide) rfl) (RI.own rfl (by decide) rfl) (RI.own rfl (by decide) rfl) (RI.own rfl (by decide) rfl) (RI.own rfl (by decide) rfl) (RT.own rfl (by decide) rfl) (RI.own rfl (by decide) rfl)
  exact Za rfl (Za rfl rfl)
 ·have e:powV b s id=.tup [iv (powF b s.s1.units k).1,iv (powF b s.s1.units k).2,.bool true]:=by simp[powV,powId,hu,Xaq]
  rw[e,hu];refine Yh ?_;refine XG (rd:=[0,2,3,4,5,6,7,8,9,10,11,12,13]) (c75_1 b s hs.s1.units (QbS hm) k) rfl g75_ok.plain (.cons (Bor.box (row:=mv2 s) rfl (by decide) (.cons (Bor.box (row:=bkC b) rfl (by decide) (BorL.ro rfl)) ?_)) <| .cons (Bor.ro rfl) <| .cons (Bor.ro rfl) .nil) rfl ?_
  ·exact SB.mk (s:=s) (RI.own rfl (by decide) rfl) (RI.own rfl (by decide) rfl) (RI.own rfl (by decide) rfl) (RI.own rfl (by decide) rfl) (RT.own rfl (by decide) rfl) (RI.own rfl (by decide) rfl) (RI.own rfl (by decide) rfl) (RI.own rfl (by decide) rfl) (RI.own rfl (by decide) rfl) (RT.own rfl (by decide) rfl) (RI.own rfl (by decide) rfl)
  exact Za rfl (Za rfl rfl)
 ·have e:powV b s id=.tup [iv 0,iv 0,.bool false]:=by simp[powV,powId,hu]
  rw[e,hu];exact Ze rfl
end Go.Ah.Tz
end
section
namespace Go.Ah
def layD(D:List Deferred)(a:Act):Act:={ a with defers:=a.defers++D }
section
variable {P:Program}
theorem YZ(D:List Deferred)(a:Act)(d:Option Nat)(v:Value):(layD D a).put d v=layD D (a.put d v):=by
 cases d<;>rfl
theorem ZaB(D:List Deferred)(a:Act):(layD D a).eval=a.eval:=by
 funext x; cases x<;>rfl
theorem ZaG{ops:Array Oper}{Q Q':Exit→Act→World→Prop}(D:List Deferred)(l2:List Nat)(hn:∀a w,Q .normal a w→wpOps P ops Q' l2 (layD D a) w)(hq:∀e a w,e≠.normal→Q e a w→Q' e (layD D a) w) :
  ∀(l:List Nat) (a:Act) (w:World),wpOps P ops Q l a w→wpOps P ops Q' (l++l2) (layD D a) w
 |[],a,w,h=>hn _ _ h
 |i::rest,a,w,h=>by
  have hout:LetsOut Q→LetsOut Q':=λ⟨a,w,q⟩=>⟨_,w,hq _ _ _ (by simp) q⟩;have ih:=ZaG D l2 hn hq rest;simp only[List.cons_append,wpOps] at h ⊢;cases ho:ops[i]? with
  |none=>simp only[ho] at h ⊢; exact ih _ _ h
  |some o=>
   simp only[ho] at h ⊢;have ht:(layD D a).tmps=a.tmps:=rfl;rw[ht];split
   ·rename_i hw;rw[if_pos hw] at h;rcases h with h|⟨h1,h2⟩
    ·left;unfold Oper.wp at h ⊢;rw[ZaB];generalize (execOp a.eval o).run P w=r at h ⊢;cases r with
     |ok nx w'=>
      cases nx with
      |value v=>simp only[Oper.upon] at h ⊢; rw[YZ]; exact ih _ _ h
      |skip=>simp only[Oper.upon] at h ⊢; rw[YZ]; exact ih _ _ h
      |defer d=>
       simp only[Oper.upon] at h ⊢;rw[show ({ layD D a with defers:=d::(layD D a).defers }:Act)=layD D { a with defers:=d::a.defers } from rfl,YZ];exact ih _ _ h
      |enter f args=>
       simp only[Oper.upon] at h ⊢;refine Calls.mono h (λe w'' k=>?_);cases e with
       |returned v=>simp only at k ⊢; rw[YZ]; exact ih _ _ k
       |panicked c=>exact hq _ _ _ (by simp) k
       |outgrown=>exact hout k
      |row row args=>
       simp only[Oper.upon] at h ⊢;refine Rows.mono h (λv w'' k=>?_);rw[YZ]; exact ih _ _ k
      |_=>exact h.elim
     |halt hh w'=>
      cases hh with
      |panic v=>exact hq _ _ _ (by simp) h
      |_=>exact h.elim
    ·right;refine⟨?_,hout h2⟩;unfold Oper.asks at h1 ⊢;rw[ZaB]; exact h1
   ·rename_i hw; rw[if_neg hw] at h; rw[YZ]; exact ih _ _ h
end
section
variable {P:Program} {GL:Globs}
theorem ZS{n:Nat}{c1 c2:Code}{m1:MCode}(hc:CodeOk P GL n c1 m1){w0:World}{L:Ln}{g:Gm}{ρ:Frame}{σ:List ABlk}{a:Act}{w:World}(r:Rep GL w0 L g (hp σ) w)(d:DenF n g ρ a){Q1:APost}{Qw:Exit→Act→World→Prop}(h:Awp P GL n m1 ρ σ Q1)
 (hn:∀g' ρ' σ' a' w',g.Le g'→Rep GL w0 L g' (hp σ') w'→DenF n g' ρ' a'→Q1 .normal ρ' σ'→c2.wp P Qw a' w')(hx:∀i ρ σ,¬Q1 (.exit i) ρ σ)
 (hr:∀g' ρ' σ' a' w',g.Le g'→Rep GL w0 L g' (hp σ') w'→DenF n g' ρ' a'→Q1 .ret ρ' σ'→Qw .ret a' w'):(Code.seq c1 c2).wp P Qw a w:=by
 refine wp_seq (wp_mono (h c1 hc w0 L g a w r d) (λe a' w' hl=>?_));cases e with
 |normal=>obtain⟨g',ρ',σ',k1,k2,k3,k4⟩:=hl; exact hn g' ρ' σ' a' w' k1 k2 k3 k4
 |ret=>obtain⟨g',ρ',σ',k1,k2,k3,k4⟩:=hl; exact hr g' ρ' σ' a' w' k1 k2 k3 k4
 |exit id=>obtain⟨g',ρ',σ',k1,k2,k3,k4⟩:=hl; exact(hx _ _ _ k4).elim
 |_=>exact hl.elim
end
end Go.Ah
end
section
namespace Go.Ah.Tz
open Go.Proofs.Tryz (prog)
set_option maxRecDepth 100000
def pre81{α:Type}(A:Ans α)(x0 x1 x2 x3:AVal)(σ:List ABlk)(K R:List AVal→List ABlk→α):α:=
 A.wr (Xk [x2] σ) σ λt6_0 σ=>
 A.wr (Xe [.nili] [] σ) σ λt8_1 σ=>
 A.wr (Xe [(.int .i64 0)] [] σ) σ λt9_2 σ=>
 A.rd (Qa [x1] σ) λt12_3=>
 A.rd (Xc true 23 [t12_3] σ) λt13_4=>
 A.wr (Xe [(.int .i64 0),(.int .i64 0),(.int .i8 0),(.bool false),(.int .i8 0),.nils,(.int .i64 0),(.int .i64 0),(.int .i64 0),(.int .i64 0),.nils,.nils,.nils,.nils,.nils,(.int .i64 0),(.int .i64 0),(.int .i64 0),.nils,.nils,.nils,.nils,.nils] [] σ) σ λt10_5 σ=>
 A.wr (Xb 23 [t10_5,t13_4] σ) σ λ_ σ=>
 A.rd (Ya 2 [t10_5] σ) λt14_6=>
 A.rd (Xc false 1 [t14_6] σ) λt15_7=>
 A.rd (Yi .eql false [t15_7,(.int .i8 1)] σ) λt16_8=>
 A.gr t16_8 true (λk=>A.rd (Ya 5 [t10_5] σ) k) λt18_9=>
 A.gr t16_8 true (λk=>A.rd (Xc false 1 [t18_9] σ) k) λt19_10=>
 A.gr t16_8 true (λk=>A.rd (Qe [t19_10] σ) k) λt20_11=>
 A.gr t16_8 true (λk=>A.rd (Yi .eql false [t20_11,(.int .i64 0)] σ) k) λt21_12=>
 A.rd (Zn [t16_8,t21_12,(.bool false)] σ) λt22_13=>
 joinK (λk14=>
 A.test t22_13 (
 A.rd (Ya 2 [t10_5] σ) λt23_16=>
 A.wr (Xb 1 [t23_16,(.int .i8 0)] σ) σ λ_ σ=>
 k14 [] σ) (
 k14 [] σ)) (λv15 σ=>
 A.pu (Qa [x0] σ) λt26_17=>
 A.dr (Xc true 2 [t26_17] σ) σ λt27_18 l19 σ=>
 A.dr (Xc true 23 [t10_5] σ) σ λt28_20 l21 σ=>
 A.dcall (.call 55) [t27_18,t28_20] σ λt29_22 l23 σ=>
 A.pu (Yi .neq false [t29_22,(.int .i64 0)] σ) λt30_24=>
 A.gr t30_24 false (λk=>A.pu (Qh [x1] σ) k) λt32_25=>
 A.gr t30_24 false (λk=>A.pu (Qa [t32_25] σ) k) λt33_26=>
 A.gr t30_24 false (λk=>A.pu (Ya 2 [t33_26] σ) k) λt34_27=>
 A.gl t30_24 false (λk=>A.dr (Xc false 1 [t34_27] σ) σ k) σ λt35_28 l29 σ=>
 A.gr t30_24 false (λk=>A.pu (Yi .eql false [t35_28,(.int .i8 1)] σ) k) λt36_30=>
 A.gr t30_24 false (λk=>A.pu (Qh [t36_30] σ) k) λt37_31=>
 A.gr t37_31 true (λk=>A.pu (Qh [x1] σ) k) λt38_32=>
 A.gr t37_31 true (λk=>A.pu (Qa [t38_32] σ) k) λt39_33=>
 A.gr t37_31 true (λk=>A.pu (Ya 3 [t39_33] σ) k) λt40_34=>
 A.gl t37_31 true (λk=>A.dr (Xc false 1 [t40_34] σ) σ k) σ λt41_35 l36 σ=>
 A.gr t37_31 true (λk=>A.pu (Qo .not [t41_35] σ) k) λt42_37=>
 A.gr t30_24 false (λk=>A.pu (Zn [t37_31,t42_37,(.bool false)] σ) k) λt43_38=>
 A.pu (Zn [t30_24,(.bool true),t43_38] σ) λt44_39=>
 A.gd (Zi [[],[0],[0,1],[],[0,1,2,3],[0,1,2,3,4],[0,1,2,3,4,5],[0,1,2,3,4,5,6],[0,1,2,3,4,5,6,7],[0,1,2,3,4,5,6,7,8],[0,1,2,3,4,5,6,7,8,9],[0,1,2,3,4,5,6,7,8,9,10],[0,1,2,3,4,5,6,7,8,9,10,11],[0,1,2,3,4,5,6,7,8,9,10,11,12],[0,1,2,3,4,5,6,7,8,9,10,11,12,13],[0,1,2,3,4,5,6,7,8,9,10,11,12,13,14],[0,1,2,3,4,5,6,7,8,9,10,11,12,13,14,15],[0,1,2,3,4,5,6,7,8,9,10,11,12,13,14,15,16],[0,1,2,3,4,5,6,7,8,9,10,11,12,13,14,15,16,17],[0,1,2,3,4,5,6,7,8,9,10,11,12,13,14,15,16,17,18],[0,1,2,3,4,5,6,7,8,9,10,11,12,13,14,15,16,17,18,19]] [([],[]),([],[]),l19,l21,l23,([],[]),([],[]),([],[]),([],[]),([],[]),l29,([],[]),([],[]),([],[]),([],[]),([],[]),l36,([],[]),([],[]),([],[]),([],[])]) <|
 A.test t44_39 (
 A.wr (Xb 1 [t8_1,.nili] σ) σ λ_ σ=>
 A.wr (Xb 1 [t9_2,(.int .i64 170)] σ) σ λ_ σ=>
 R [t8_1,t9_2] σ) (
 A.rd (Ya 0 [t6_0] σ) λt46_40=>
 A.rd (Xc false 1 [t46_40] σ) λt47_41=>
 A.rd (Yi .lss false [t47_41,(.int .i64 0)] σ) λt48_42=>
 A.gr t48_42 false (λk=>A.rd (Ya 0 [t6_0] σ) k) λt50_43=>
 A.gr t48_42 false (λk=>A.rd (Xc false 1 [t50_43] σ) k) λt51_44=>
 A.gr t48_42 false (λk=>A.rd (Yi .gtr false [t51_44,(.int .i64 1)] σ) k) λt52_45=>
 A.rd (Zn [t48_42,(.bool true),t52_45] σ) λt53_46=>
 A.test t53_46 (
 A.wr (Xb 1 [t8_1,.nili] σ) σ λ_ σ=>
 A.wr (Xb 1 [t9_2,(.int .i64 2)] σ) σ λ_ σ=>
 R [t8_1,t9_2] σ) (
 K [x0,x1,x3,t6_0,t8_1,t9_2] σ)))
def k1:Code→Code
 |.seq a _=>a
 |c=>c
def k2:Code→Code
 |.seq _ b=>b
 |c=>c
def kOps:Code→Array Oper
 |.region _ ops _=>ops
 |_=>#[]
def b81(P:Program):Code:=match P.funcs[81]? with
 |some f=>f.body.getD .skip
 |none=>.skip
def Zby(P:Program):Code:=k1 (b81 P)
def Yby(P:Program):Code:=k1 (k2 (b81 P))
def Xby(P:Program):Code:=k1 (k2 (k2 (b81 P)))
def Qby(P:Program):Code:=k1 (k2 (k2 (k2 (b81 P))))
def Xac(P:Program):Array Oper:=kOps (k1 (k2 (k2 (k2 (k2 (b81 P))))))
def QZ(P:Program):Array Oper:=kOps (k1 (k2 (k2 (k2 (k2 (k2 (b81 P)))))))
theorem Qci:Go.Proofs.Tryz.f81.body=some (.seq (Zby prog) (.seq (Yby prog) (.seq (Xby prog) (.seq (Qby prog) (.seq (.region 8 (Xac prog) false) (.seq (.region 9 (QZ prog) false) .ret)))))):=by kernel_rfl
def mc81(P:Program)(c:Code):MCode:=(Ys P GL0 62 c).getD .skip
theorem XaT{c:Code}(h:(Ys prog GL0 62 c).isSome=true):CodeOk prog GL0 62 c (mc81 prog c):=by
 unfold mc81;cases e:Ys prog GL0 62 c with
 |none=>rw[e] at h; cases h
 |some m=>exact Yay e
theorem ZcB:CodeOk prog GL0 62 (Zby prog) (mc81 prog (Zby prog)):=XaT (by kernel_rfl)
theorem YcB:CodeOk prog GL0 62 (Yby prog) (mc81 prog (Yby prog)):=XaT (by kernel_rfl)
theorem XcB:CodeOk prog GL0 62 (Xby prog) (mc81 prog (Xby prog)):=XaT (by kernel_rfl)
theorem QcB:CodeOk prog GL0 62 (Qby prog) (mc81 prog (Qby prog)):=XaT (by kernel_rfl)
def Zbw(P:Program):DCode:=(annot (mc81 P (Zby P)) []).1
def Ybw(P:Program):DCode:=(annot (mc81 P (Yby P)) []).1
def Xbw(P:Program):DCode:=(annot (mc81 P (Xby P)) [some []]).1
def Qbw(P:Program):DCode:=(annot (mc81 P (Qby P)) [none,none,none]).1
theorem Zck:(Zbw prog).ok=true:=by kernel_rfl
theorem Yck:(Ybw prog).ok=true:=by kernel_rfl
theorem Xck:(Xbw prog).ok=true:=by kernel_rfl
theorem Qck:(Qbw prog).ok=true:=by kernel_rfl
theorem Zbs(x0 x1 x2 x3:AVal)(α:Type)(A:Ans α)(σ:List ABlk)(K R:List AVal→List ABlk→α) :
  dn A (Zbw prog) (frame0 [x0,x1,x2,x3]) σ (λρ σ=>dn A (Ybw prog) ρ σ (λρ σ=>dn A (Xbw prog) ρ σ (λρ σ=>dn A (Qbw prog) ρ σ (λρ σ=>K (getF ρ [0,1,3,6,8,9]) σ)
   (λ_ _ _=>A.stop) (λρ σ=>R (getF ρ [8,9]) σ)) (λ_ _ _=>A.stop) (λρ σ=>R (getF ρ [8,9]) σ)) (λ_ _ _=>A.stop) (λρ σ=>R (getF ρ [8,9]) σ)) (λ_ _ _=>A.stop) (λρ σ=>R (getF ρ [8,9]) σ)
  = pre81 A x0 x1 x2 x3 σ K R:=by kernel_rfl
end Go.Ah.Tz
end
section
namespace Go.Ah.Tz
open Go.Proofs.Tryz (prog)
set_option maxRecDepth 100000
attribute [local irreducible] Ans.rd Ans.pu Ans.wr Ans.dr Ans.gr Ans.gw Ans.gl Ans.gd Ans.opt joinK W
set_option maxHeartbeats 8000000
theorem XaB{e:Int}{b:Bk}{s:St}(h:mayR e b s false=true)(hp:s.phase=1):s.attack.length≠0∧s.struck=true:=by
 simp only[mayR,Bool.and_eq_true] at h;obtain⟨_,_,_,_,_,_,_,_,_,_,_,_,_,h⟩:=h;rw[if_neg (by simp[hp])] at h;simp only[Bool.not_false,Bool.and_true,Bool.and_eq_true,Bool.not_eq_true',decide_eq_false_iff_not] at h;exact⟨h.1,h.2.1⟩
theorem Qbz(b:Bk)(hf:bkFit b=true)(hsm:Yw b.cards)(s:St)(hs:StLe 1000000000 s)(hm:mayR (bkR b).1 b s false=true)(sd tg:Int)(h0:0≤sd)(h1:sd≤1)(v:AVal){K R:List AVal→List ABlk→Prop}
 (hK:K [.rptr (bkC b) 0,.rptr (stC s) 0,.iface 143 v,.bptr 0 0,.bptr 1 0,.bptr 2 0] [.box [iv sd,iv tg],.box [.nili],.box [iv 0],.box (stC s)]) :
  pre81 VV (.rptr (bkC b) 0) (.rptr (stC s) 0) (.agg [iv sd,iv tg]) (.iface 143 v) [] K R:=by
 have c55':=c55 b hf hsm s hs;rw[hm] at c55';unfold pre81;refine Xf (v:=.bptr 0 0) (rd:=[]) (up:=[(0,.box [iv sd,iv tg])]) rfl rfl (Xf (v:=.bptr 1 0) rfl rfl (Xf (v:=.bptr 2 0) rfl rfl (Za rfl (Za (ldr (row:=stC s) rfl) (Xf (v:=.bptr 3 0) rfl rfl (Xf (v:=.junk) (up:=[(3,.box (stC s))]) (rd:=[]) rfl rfl ?_))))));refine Za rfl (Za (ld (row:=stC s) rfl rfl) (Za rfl ?_));have hq:((s.phase==1)&&((s.attack.length:Int)==0))=false:=by
  rcases YBE (s.phase==1) with h|h
  ·have:=XaB hm (by simpa using h);simp only[h,Bool.true_and]; simp; intro e; simp[e] at this
  ·simp[h]
 refine Zbu (v1:=.bptr 3 5) (v2:=rowV s.attack) (v3:=iv s.attack.length) (d:=((s.attack.length:Int)==0)) (q3:=[]) rfl (ld (row:=stC s) rfl rfl) (by simp[rowV,Qe]) rfl ?_;rw[hq];refine XH (Yh ?_);refine Xg rfl (Xj (v:=bkV b) (ldr (row:=bkC b) rfl) rfl (Xj (v:=stV s) (ld (row:=stC s) rfl rfl) rfl (Zh c55' rfl g55_ok.plain rfl (Xg (v:=.bool false) rfl ?_))));refine Xa (Xg rfl (Xa (Xg rfl (Xa (Xg rfl (YaW (Xj (v:=iv8 s.phase) (ldr (row:=stC s) rfl) rfl (Xa (Xg (v:=.bool (s.phase==1)) rfl (Xa (Xg rfl ?_)))))))))));rcases YBE (s.phase==1) with h|h
 ·rw[h];refine Xa (Xg rfl (Xa (Xg rfl (Xa (Xg rfl (YaW (Xj (v:=.bool s.struck) (ldr (row:=stC s) rfl) rfl (Xa (Xg rfl ?_)))))))));rw[(XaB hm (by simpa using h)).2];refine Xa (Xg rfl (Xg rfl (Xx (by kernel_rfl) (Yh ?_))));refine Za rfl (Za (ld (row:=[iv sd,iv tg]) (v:=iv sd) rfl rfl) (Za (v:=.bool (decide (sd<0))) rfl ?_));rw[show decide (sd<0)=false from decide_eq_false (by omega)];refine Xa (Za rfl (Xa (Za (ld (row:=[iv sd,iv tg]) (v:=iv sd) rfl rfl) (Xa (Za (v:=.bool (decide (sd>1))) rfl ?_)))));rw[show decide (sd>1)=false from decide_eq_false (by omega)];exact Za rfl (Yh hK)
 ·rw[h];refine Yb rfl (Yb rfl (Yb rfl (Qbt rfl (Yb rfl (Xa (Xg rfl (Xg rfl (Xx (by kernel_rfl) (Yh ?_)))))))));refine Za rfl (Za (ld (row:=[iv sd,iv tg]) (v:=iv sd) rfl rfl) (Za (v:=.bool (decide (sd<0))) rfl ?_));rw[show decide (sd<0)=false from decide_eq_false (by omega)];refine Xa (Za rfl (Xa (Za (ld (row:=[iv sd,iv tg]) (v:=iv sd) rfl rfl) (Xa (Za (v:=.bool (decide (sd>1))) rfl ?_)))));rw[show decide (sd>1)=false from decide_eq_false (by omega)];exact Za rfl (Yh hK)
end Go.Ah.Tz
end
section
namespace Go.Ah.Tz
open Go.Proofs.Tryz (prog)
set_option maxRecDepth 100000
set_option maxHeartbeats 4000000
theorem idle123(p q:Value)(w:World):CallsD prog 123 #[p,q] .returning w λe u' w'=>e=.returned (.tuple #[])∧u'=.returning∧w'=w:=by
 refine callsD_of_wpS Go.Proofs.Tryz.func123 rfl λc₀ cs hu=>?_;apply wpS_seq;apply wpS_region;simp[wpOpsS,go_sem,recoverD,hu,Go.Proofs.Tryz.ntmps123,Exit.thenS];refine wpS_cond (t:=false) (by simp[Act.eval,Array.replicate]) ?_;simp only[Bool.false_eq_true,if_false];refine wpS_of_wp (wp_skip ?_);cases c₀;simp_all [bodyPostS,results,Go.Proofs.Tryz.results123]
def op81(l:Program→Array Oper)(i:Nat)(P:Program):Oper:=((l P)[i]?).getD default
theorem s81_8:(Xac prog).size=2:=by kernel_rfl
theorem s81_9:(QZ prog).size=9:=by kernel_rfl
theorem YcN:(Xac prog)[0]?=some (op81 Xac 0 prog)∧(op81 Xac 0 prog).op=.makeFunc (.func 123) #[] #[.tmp 8,.tmp 9]∧(op81 Xac 0 prog).dst=some 54∧(op81 Xac 0 prog).guard=none:=⟨by kernel_rfl,by kernel_rfl,by kernel_rfl,by kernel_rfl⟩
theorem XcN:(Xac prog)[1]?=some (op81 Xac 1 prog)∧(op81 Xac 1 prog).op=.defer ⟨.value (.tmp 54),#[],#[]⟩∧(op81 Xac 1 prog).dst=none∧(op81 Xac 1 prog).guard=none:=⟨by kernel_rfl,by kernel_rfl,by kernel_rfl,by kernel_rfl⟩
theorem QcN:(QZ prog)[6]?=some (op81 QZ 6 prog)∧(∃ts,(op81 QZ 6 prog).op=.call ⟨.invoke (.tmp 55) "baize/value.ask",#[.tmp 60],ts⟩)∧(op81 QZ 6 prog).dst=some 61∧(op81 QZ 6 prog).guard=none:=⟨by kernel_rfl,⟨match (op81 QZ 6 prog).op with | .call c=>c.argTypes|_=>#[],by kernel_rfl⟩,by kernel_rfl,by kernel_rfl⟩
theorem ask143(v:Value)(args:Array Value)(w:World):(callMethod (.iface 143 v) "baize/value.ask" args).run prog w=.ok (.enter 289 (#[v]++args)) w:=by kernel_rfl
def m9a(P:Program):List MOper:=(mapM' (Yag P GL0 62 (QZ P).toList) ((QZ P).toList.take 6)).getD []
def m9b(P:Program):List MOper:=(mapM' (Yag P GL0 62 (QZ P).toList) ((QZ P).toList.drop 7)).getD []
theorem QbR:(m9a prog).length=6:=by kernel_rfl
theorem ZbS:(m9b prog).length=2:=by kernel_rfl
theorem Xa1{α:Type}{o:Option (List α)}{n:Nat}(h:(o.getD []).length=n+1):o=some (o.getD []):=by
 cases o with
 |none=>cases h
 |some a=>rfl
theorem YcH(j:Nat)(m:MOper)(e:(m9a prog)[j]?=some m):∃o,(QZ prog)[0+j]?=some o∧OperOk prog GL0 62 (QZ prog) o m:=by
 obtain⟨h1,h2⟩:=Qah (Xa1 (n:=5) QbR);obtain⟨o,k1,k2⟩:=h2 j m e;refine⟨o,?_,Qab k2⟩;rw[List.getElem?_take] at k1;split at k1
 ·simpa using k1
 ·cases k1
theorem XcH(j:Nat)(m:MOper)(e:(m9b prog)[j]?=some m):∃o,(QZ prog)[7+j]?=some o∧OperOk prog GL0 62 (QZ prog) o m:=by
 obtain⟨h1,h2⟩:=Qah (Xa1 (n:=1) ZbS);obtain⟨o,k1,k2⟩:=h2 j m e;refine⟨o,?_,Qab k2⟩;rw[List.getElem?_drop] at k1;simpa using k1
theorem d9a(x0 x1 x3 t6 t8 t9 f:AVal)(α:Type)(A:Ans α)(σ:List ABlk)(K:List AVal→List ABlk→α) :
  dnOps A (m9a prog) [(54,f),(0,x0),(1,x1),(3,x3),(6,t6),(8,t8),(9,t9)] σ (λρ σ=>K (getF ρ [55,60,8,9]) σ) =
  A.rd (Xc true 2 [t6] σ) λt58=>A.rd (Ye [.nilp,.nilp,.int .i64 0,.int .i64 0] [(0,1),(1,1),(2,2)] [x0,x1,t58] σ) λt59=>A.wr (Xk [t59] σ) σ λt60 σ=>K [x3,t60,t8,t9] σ:=by kernel_rfl
theorem d9b(t55 t60 t8 t9 y:AVal)(α:Type)(A:Ans α)(σ:List ABlk)(K:List AVal→List ABlk→α) :
  dnOps A (m9b prog) [(61,y),(55,t55),(60,t60),(8,t8),(9,t9)] σ (λρ σ=>K (getF ρ [8,9]) σ) =
  A.wr (Xb 1 [t8,y] σ) σ λ_ σ=>A.wr (Xb 1 [t9,.int .i64 0] σ) σ λ_ σ=>K [t8,t9] σ:=by kernel_rfl
theorem r81:All2 (RvOk prog) Go.Proofs.Tryz.f81.results.toList [.c 8 false 1,.c 9 false 1]:=X7 (f:=Xbc prog) ZaJ (by kernel_rfl)
theorem n81:Go.Proofs.Tryz.f81.ntmps=62:=by kernel_rfl
theorem YaG{P:Program}{ops:Array Oper}{Q:Exit→Act→World→Prop}{i:Nat}{rest:List Nat}{a:Act}{w:World}{o:Oper}(ho:ops[i]?=some o)(hg:o.guard=none)(h:o.wp P a w (wpOps P ops Q rest) Q):wpOps P ops Q (i::rest) a w:=by
 simp only[wpOps,ho];rw[if_pos (by simp[Region.wanted,hg])];exact .inl h
def postQ(K R:Frame→List ABlk→Prop):APost
 |.normal,ρ,σ=>K ρ σ
 |.ret,ρ,σ=>R ρ σ
 |.exit _,_,_=>False
theorem piece{n:Nat}(m:DCode)(hm:m.ok=true){ρ:Frame}{σ:List ABlk}{K R:Frame→List ABlk→Prop}(h:dn VV m ρ σ K (λ_ _ _=>VV.stop) R):Awp prog GL0 n m.er ρ σ (postQ K R):=
 YJ hP (Qco prog GL0) m (Q:=postQ K R) hm (λ_ _ _ h=>h) (λ_ _ _ _ h=>h) (λ_ _ _ h=>h) h
theorem c81G(bk st:List AVal)(sd tg:Int)(ty:TypeId)(fn:FuncId)(vs0:List AVal)(j:Nat)(y:AVal)(hyf:y.flat=true)(hyr:y.ro=true)(hyc:cellsOf y=some [y])
 (hask:∀(v:Value) (args:Array Value) (w:World),(callMethod (.iface ty v) "baize/value.ask" args).run prog w=.ok (.enter fn (#[v]++args)) w)
 (hw:pre81 VV (.rptr bk 0) (.rptr st 0) (.agg [iv sd,iv tg]) (.iface ty (.agg [.rptr vs0 j])) [] (λvs σ=>vs=[.rptr bk 0,.rptr st 0,.iface ty (.agg [.rptr vs0 j]),.bptr 0 0,.bptr 1 0,.bptr 2 0]∧σ=[.box [iv sd,iv tg],.box [.nili],.box [iv 0],.box st]) (λ_ _=>False))
 (h289:PC fn [.agg [.rptr vs0 j],.rptr [.rptr bk 0,.rptr st 0,iv sd,iv tg] 0] y) :
  PC 81 [.rptr bk 0,.rptr st 0,.agg [iv sd,iv tg],.iface ty (.agg [.rptr vs0 j])] (.tup [y,iv 0]):=by
 intro w M vs hM hg hx;have r0:=Rep.start (GL:=GL0) w M hM hg;have hh:hp []=noHp:=by funext b; simp[hp,noHp]
 rw[←hh] at r0;have d0:=YO hx (n:=62) (by simp);refine calls_of_wp_defers Go.Proofs.Tryz.func81 Qci ?_;rw[n81];rw[←Zbs] at hw;have e0:(Zbw prog).er=mc81 prog (Zby prog):=Zw _ _;have e1:(Ybw prog).er=mc81 prog (Yby prog):=Zw _ _;have e2:(Xbw prog).er=mc81 prog (Xby prog):=Zw _ _;have e3:(Qbw prog).er=mc81 prog (Qby prog):=Zw _ _;refine ZS (e0▸ZcB) r0 d0 (piece (Zbw prog) Zck hw) (λg1 ρ1 σ1 a1 w1 l1 r1 d1 hw1=>?_) (λ_ _ _ h=>h) (λ_ _ _ _ _ _ _ _ h=>False.elim h);refine ZS (e1▸YcB) r1 d1 (piece (Ybw prog) Yck hw1) (λg2 ρ2 σ2 a2 w2 l2 r2 d2 hw2=>?_) (λ_ _ _ h=>h) (λ_ _ _ _ _ _ _ _ h=>False.elim h);refine ZS (e2▸XcB) r2 d2 (piece (Xbw prog) Xck hw2) (λg3 ρ3 σ3 a3 w3 l3 r3 d3 hw3=>?_) (λ_ _ _ h=>h) (λ_ _ _ _ _ _ _ _ h=>False.elim h);refine ZS (e3▸QcB) r3 d3 (piece (Qbw prog) Qck hw3) (λg4 ρ4 σ4 a4 w4 l4 r4 d4 hw4=>?_) (λ_ _ _ h=>h) (λ_ _ _ _ _ _ _ _ h=>False.elim h);obtain⟨hv,hσ⟩:=hw4;subst hσ;simp only[getF,List.cons.injEq,and_true] at hv;obtain⟨q0,q1,q3,q6,q8,q9⟩:=hv;have d5:DenF 62 g4 [(0,.rptr bk 0),(1,.rptr st 0),(3,.iface ty (.agg [.rptr vs0 j])),(6,.bptr 0 0),(8,.bptr 1 0),(9,.bptr 2 0)] a4:=d4.weak (Yam.le ⟨q0,q1,q3,q6,q8,q9,trivial⟩);clear d4;have le4:=((l1.trans l2).trans l3).trans l4;have k8:g4.den (.bptr 1 0) (a4.tmps.getD 8 undef):=d5.slot 8;have k9:g4.den (.bptr 2 0) (a4.tmps.getD 9 undef):=d5.slot 9;generalize hp8:a4.tmps.getD 8 undef=p8 at k8;generalize hp9:a4.tmps.getD 9 undef=p9 at k9;refine wp_seq (wp_region ?_);rw[s81_8,show List.range 2=[0,1] from rfl];refine YaG YcN.1 YcN.2.2.2 ?_;unfold Oper.wp;have hmf:∀(fn:Fn) (first cap:Array Value) (w:World),(Instr.makeFunc fn first cap).run prog w=.ok (.func fn first cap) w:=λ_ _ _ _=>rfl;have run0:(execOp a4.eval (op81 Xac 0 prog)).run prog w4=.ok (.value (.func (.func 123) #[] #[p8,p9])) w4:=by
  rw[←hp8,←hp9];simp only[execOp,YcN.2.1,Sem.run_bind,hmf,Result.andThen_ok,Sem.run_pure];simp[Act.eval]
 rw[run0,Oper.upon_value,YcN.2.2.1];have hd54:g4.den (.func (.func 123) [] [.bptr 1 0,.bptr 2 0]) (.func (.func 123) #[] #[p8,p9]):=by
  refine .func _ _ _ _ _ _ rfl rfl (by simp) (λi x u e1 e2=>?_)
  match i with
  |0=>simp at e1 e2; subst e1; subst e2; exact k8
  |1=>simp at e1 e2; subst e1; subst e2; exact k9
  |i+2=>simp at e1
 have d6:=d5.put (d:=54) (by decide) hd54;generalize ha5:a4.put (some 54) (.func (.func 123) #[] #[p8,p9])=a5 at d6 ⊢;have h54:a5.tmps.getD 54 undef=.func (.func 123) #[] #[p8,p9]:=by
  rw[←ha5];have hsz:=d5.size;simp[Act.put,Array.getD,hsz]
 refine YaG XcN.1 XcN.2.2.2 ?_;unfold Oper.wp;have run1:(execOp a5.eval (op81 Xac 1 prog)).run prog w4=.ok (.defer { target:=.fn (.func 123) #[p8,p9],args:=#[] }) w4:=by
  simp only[execOp,XcN.2.1,resolve,Act.eval,h54,Deferred.ofValue,Sem.run_bind,Sem.run_pure,Result.andThen_ok];simp
 rw[run1,Oper.upon_defer,XcN.2.2.1];have hlay:({ a5 with defers:={ target:=.fn (.func 123) #[p8,p9],args:=#[] }::a5.defers }:Act).put none undef=layD [{ target:=.fn (.func 123) #[p8,p9],args:=#[] }] a5:=by
  simp[Act.put,layD,d6.defers]
 rw[hlay];show wpOps prog (Xac prog) _ [] _ w4;simp only[wpOps];refine wp_seq (wp_region ?_);rw[s81_9,show List.range 9=List.range' 0 6++(6::List.range' 7 2) from rfl];have key1:dnOps VV (m9a prog) [(54,.func (.func 123) [] [.bptr 1 0,.bptr 2 0]),(0,.rptr bk 0),(1,.rptr st 0),(3,.iface ty (.agg [.rptr vs0 j])),(6,.bptr 0 0),(8,.bptr 1 0),(9,.bptr 2 0)] [.box [iv sd,iv tg],.box [.nili],.box [iv 0],.box st]
   (λρ σ=>getF ρ [55,60,8,9]=[.iface ty (.agg [.rptr vs0 j]),.bptr 4 0,.bptr 1 0,.bptr 2 0]∧σ=[.box [iv sd,iv tg],.box [.nili],.box [iv 0],.box st,.box [.rptr bk 0,.rptr st 0,iv sd,iv tg]]):=by
  have:=d9a (.rptr bk 0) (.rptr st 0) (.iface ty (.agg [.rptr vs0 j])) (.bptr 0 0) (.bptr 1 0) (.bptr 2 0) (.func (.func 123) [] [.bptr 1 0,.bptr 2 0]) Prop VV [.box [iv sd,iv tg],.box [.nili],.box [iv 0],.box st]
   (λvs σ=>vs=[.iface ty (.agg [.rptr vs0 j]),.bptr 4 0,.bptr 1 0,.bptr 2 0]∧σ=[.box [iv sd,iv tg],.box [.nili],.box [iv 0],.box st,.box [.rptr bk 0,.rptr st 0,iv sd,iv tg]])
  rw[this];exact Za (ld (row:=[iv sd,iv tg]) rfl rfl) (Za rfl (Xf rfl rfl ⟨rfl,rfl⟩))
 have key2:=XQ (Qco prog GL0) (fl:=false) (lg:=[]) (λe=>by cases e) key1;have hlen:List.range' 0 6=List.range' 0 (m9a prog).length:=by rw[QbR]
 rw[hlen];refine ZaG (P:=prog) (Q:=λe a w'=>e=.normal∧Lift GL0 w ⟨[],M⟩ 62 g4 (λρ σ _=>getF ρ [55,60,8,9]=[.iface ty (.agg [.rptr vs0 j]),.bptr 4 0,.bptr 1 0,.bptr 2 0]∧σ=[.box [iv sd,iv tg],.box [.nili],.box [iv 0],.box st,.box [.rptr bk 0,.rptr st 0,iv sd,iv tg]]) a w') _ _ (λa6 w6 hq=>?_) (λe a w hne hq=>(hne hq.1).elim) _ a5 w4
  (QT _ _ (m9a prog) 0 _ _ [] g4 a5 w4 YcH key2 r4 d6 (λa' w' hl=>⟨rfl,?_⟩))
 ·obtain⟨_,g5,ρ5,σ5,lg5,l5,r5,d5',hv5,hσ5⟩:=hq;subst hσ5;simp only[getF,List.cons.injEq,and_true] at hv5;obtain⟨q55,q60,q8',q9'⟩:=hv5;have d7:DenF 62 g5 [(55,.iface ty (.agg [.rptr vs0 j])),(60,.bptr 4 0),(8,.bptr 1 0),(9,.bptr 2 0)] a6:=d5'.weak (Yam.le ⟨q55,q60,q8',q9',trivial⟩);refine YaG QcN.1 QcN.2.2.2 ?_;unfold Oper.wp;rw[ZaB];have k55:=d7.slot 55;have k60:=d7.slot 60;simp only[fget] at k55 k60;obtain⟨ts,hop⟩:=QcN.2.1;generalize hp55:a6.tmps.getD 55 undef=p55 at k55;generalize hp60:a6.tmps.getD 60 undef=p60 at k60;have k55':g5.den (.iface ty (.agg [.rptr vs0 j])) p55:=k55;have k60':g5.den (.bptr 4 0) p60:=k60;cases k55' with
  |iface _ _ _ vv hvv=>
  have e60:a6.eval (.tmp 60)=p60:=hp60;have run6:(execOp a6.eval (op81 QZ 6 prog)).run prog w6=.ok (.enter fn #[vv,p60]) w6:=by
   have e55:a6.eval (.tmp 55)=.iface ty vv:=hp55;simp only[execOp,hop,resolve,e55,Sem.run_bind,Sem.run_pure,Result.andThen_ok,invoke];rw[show (#[Value.iface ty vv]++Array.map a6.eval #[Operand.tmp 60]) = #[Value.iface ty vv,p60] from by simp[e60]];exact hask vv #[p60] w6
  rw[run6,Oper.upon_enter];have hbor:Yr [.box [iv sd,iv tg],.box [.nili],.box [iv 0],.box st,.box [.rptr bk 0,.rptr st 0,iv sd,iv tg]] 1000 [.agg [.rptr vs0 j],.bptr 4 0]=some ([.agg [.rptr vs0 j],.rptr [.rptr bk 0,.rptr st 0,iv sd,iv tg] 0],[4]):=rfl;have ac:=h289.lend (YN _ _ _ _ hbor _ (λ_ q=>q)) hyf;refine Calls.mono (ac w ⟨[],M⟩ g5 _ w6 [vv,p60] r5 ⟨hvv,k60',trivial⟩ (λ_ _=>rfl) (λ_ h=>by cases h)) ?_;rintro e w7 ⟨u,rfl,g6,l6,r6,hu⟩;show wpOps prog (QZ prog) _ (List.range' 7 2) ((layD _ a6).put (op81 QZ 6 prog).dst u) w7;rw[QcN.2.2.1,YZ];have d8:=(d7.mono l6).put (d:=61) (by decide) hu;have key3:dnOps VV (m9b prog) [(61,y),(55,.iface ty (.agg [.rptr vs0 j])),(60,.bptr 4 0),(8,.bptr 1 0),(9,.bptr 2 0)] [.box [iv sd,iv tg],.box [.nili],.box [iv 0],.box st,.box [.rptr bk 0,.rptr st 0,iv sd,iv tg]]
    (λρ σ=>getF ρ [8,9]=[.bptr 1 0,.bptr 2 0]∧σ=[.box [iv sd,iv tg],.box [y],.box [iv 0],.box st,.box [.rptr bk 0,.rptr st 0,iv sd,iv tg]]):=by
   have:=d9b (.iface ty (.agg [.rptr vs0 j])) (.bptr 4 0) (.bptr 1 0) (.bptr 2 0) y Prop VV [.box [iv sd,iv tg],.box [.nili],.box [iv 0],.box st,.box [.rptr bk 0,.rptr st 0,iv sd,iv tg]]
    (λvs σ=>vs=[.bptr 1 0,.bptr 2 0]∧σ=[.box [iv sd,iv tg],.box [y],.box [iv 0],.box st,.box [.rptr bk 0,.rptr st 0,iv sd,iv tg]])
   rw[this];exact Xf (stv (row:=[.nili]) rfl hyc rfl rfl) rfl (Xf (v:=.junk) (up:=[(2,.box [iv 0])]) (rd:=[]) rfl rfl ⟨rfl,rfl⟩)
  have key4:=XQ (Qco prog GL0) (fl:=false) (lg:=[]) (λe=>by cases e) key3;rw[show List.range' 7 2=List.range' 7 (m9b prog).length++[] by rw[ZbS]; rfl];refine ZaG (P:=prog) (Q:=λe a w'=>e=.normal∧Lift GL0 w ⟨[],M⟩ 62 g6 (λρ σ _=>getF ρ [8,9]=[.bptr 1 0,.bptr 2 0]∧σ=[.box [iv sd,iv tg],.box [y],.box [iv 0],.box st,.box [.rptr bk 0,.rptr st 0,iv sd,iv tg]]) a w') _ _ (λa8 w8 hq=>?_) (λe a w hne hq=>(hne hq.1).elim) _ _ w7
   (QT _ _ (m9b prog) 7 _ _ [] g6 _ w7 XcH key4 r6 d8 (λa' w' hl=>⟨rfl,?_⟩))
  ·obtain⟨_,g7,ρ7,σ7,lg7,l7,r7,d9,hv7,hσ7⟩:=hq;subst hσ7;simp only[getF,List.cons.injEq,and_true] at hv7;simp only[wpOps];refine wp_ret ?_;show Leaves prog Go.Proofs.Tryz.f81 a8.tmps _ (a8.defers++[{ target:=.fn (.func 123) #[p8,p9],args:=#[] }]) .returning w8;rw[d9.defers];refine leaves_cons (f:=123) (args:=#[p8,p9]) (by simp) (by rfl) ((idle123 p8 p9 w8).mono ?_);rintro e u' w9 ⟨rfl,rfl,rfl⟩;have hret:retV [.c 8 false 1,.c 9 false 1] ρ7 [.box [iv sd,iv tg],.box [y],.box [iv 0],.box st,.box [.rptr bk 0,.rptr st 0,iv sd,iv tg]]=some (.tup [y,iv 0]):=by
    simp[retV,retL,ret1,hv7.1,hv7.2,hget,partA,nth,retOf]
   obtain⟨uo,ho1,ho2⟩:=Q7 (P:=prog) r7 d9 r81 hret;refine⟨uo,ho1,uo,rfl,r7.keeps,g7.M,?_,r7.stable,λb o e=>?_,Den.ro ho2 (by simp[AVal.ro,roL,hyr]) _⟩
   ·exact(le4.trans (l5.trans (l6.trans l7))).m
   ·rcases r7.src b o e with q|q|q
    ·exact .inl q
    ·exact .inr q
    ·simp at q
  ·obtain⟨g',ρ',σ',lg',k1,k2,k3,k4,_⟩:=hl;exact⟨g',ρ',σ',lg',k1,k2,k3,k4⟩
 ·obtain⟨g',ρ',σ',lg',k1,k2,k3,k4,_⟩:=hl;exact⟨g',ρ',σ',lg',k1,k2,k3,k4⟩
theorem c81(b:Bk)(hf:bkFit b=true)(hsm:Yw b.cards)(s:St)(hs:StLe 1000000000 s)(hm:mayR (bkR b).1 b s false=true)(sd tg:Int)(h0:0≤sd)(h1:sd≤1)(vs0:List AVal)(j:Nat)(n:Int)
 (h289:PC 289 [.agg [.rptr vs0 j],.rptr [.rptr (bkC b) 0,.rptr (stC s) 0,iv sd,iv tg] 0] (.iface 3 (iv n))) :
  PC 81 [.rptr (bkC b) 0,.rptr (stC s) 0,.agg [iv sd,iv tg],.iface 143 (.agg [.rptr vs0 j])] (.tup [.iface 3 (iv n),iv 0]):=
 c81G (bkC b) (stC s) sd tg 143 289 vs0 j (.iface 3 (iv n)) rfl rfl rfl ask143 (Qbz b hf hsm s hs hm sd tg h0 h1 (.agg [.rptr vs0 j]) ⟨rfl,rfl⟩) h289
theorem c81R(bk st:List AVal)(sd tg:Int)(v:AVal)(k:Int)
 (hw:pre81 VV (.rptr bk 0) (.rptr st 0) (.agg [iv sd,iv tg]) v [] (λ_ _=>False) (λvs σ=>vs=[.bptr 1 0,.bptr 2 0]∧σ=[.box [iv sd,iv tg],.box [.nili],.box [iv k],.box st])) :
  PC 81 [.rptr bk 0,.rptr st 0,.agg [iv sd,iv tg],v] (.tup [.nili,iv k]):=by
 intro w M vs hM hg hx;have r0:=Rep.start (GL:=GL0) w M hM hg;have hh:hp []=noHp:=by funext b; simp[hp,noHp]
 rw[←hh] at r0;have d0:=YO hx (n:=62) (by simp);refine calls_of_wp_defers Go.Proofs.Tryz.func81 Qci ?_;rw[n81];rw[←Zbs] at hw;have e0:(Zbw prog).er=mc81 prog (Zby prog):=Zw _ _;have e1:(Ybw prog).er=mc81 prog (Yby prog):=Zw _ _;have e2:(Xbw prog).er=mc81 prog (Xby prog):=Zw _ _;have e3:(Qbw prog).er=mc81 prog (Qby prog):=Zw _ _;have fin:∀(g':Gm) (ρ':Frame) (σ':List ABlk) (a':Act) (w':World),(⟨M,noOwn⟩:Gm).Le g'→Rep GL0 w ⟨[],M⟩ g' (hp σ') w'→DenF 62 g' ρ' a'→(getF ρ' [8,9]=[.bptr 1 0,.bptr 2 0]∧σ'=[.box [iv sd,iv tg],.box [.nili],.box [iv k],.box st]) →
   bodyPostD prog Go.Proofs.Tryz.f81 (λe w'=>∃u,e=.returned u∧Keeps ⟨[],M⟩ w w'∧∃M',MLe M M'∧(∀b o,M' b=some o→w'.heap[b]?=some o)∧(∀b o,M' b=some o→M b=some o∨w.heap.size≤b)∧Den M' noOwn (.tup [.nili,iv k]) u) .ret a' w':=by
  rintro g' ρ' σ' a' w' le r d ⟨hv,rfl⟩;simp only[getF,List.cons.injEq,and_true] at hv;have hret:retV [.c 8 false 1,.c 9 false 1] ρ' [.box [iv sd,iv tg],.box [.nili],.box [iv k],.box st]=some (.tup [.nili,iv k]):=by
   simp[retV,retL,ret1,hv.1,hv.2,hget,partA,nth,retOf]
  obtain⟨uo,ho1,ho2⟩:=Q7 (P:=prog) r d r81 hret;show Leaves prog Go.Proofs.Tryz.f81 a'.tmps _ a'.defers .returning w';rw[d.defers];refine⟨uo,ho1,uo,rfl,r.keeps,g'.M,le.m,r.stable,λb o e=>?_,Den.ro ho2 rfl _⟩;rcases r.src b o e with q|q|q
  ·exact .inl q
  ·exact .inr q
  ·simp at q
 refine ZS (e0▸ZcB) r0 d0 (piece (Zbw prog) Zck hw) (λg1 ρ1 σ1 a1 w1 l1 r1 d1 hw1=>?_) (λ_ _ _ h=>h) fin;refine ZS (e1▸YcB) r1 d1 (piece (Ybw prog) Yck hw1) (λg2 ρ2 σ2 a2 w2 l2 r2 d2 hw2=>?_) (λ_ _ _ h=>h) (λ_ _ _ _ _ l r d h=>fin _ _ _ _ _ (l1.trans l) r d h);refine ZS (e2▸XcB) r2 d2 (piece (Xbw prog) Xck hw2) (λg3 ρ3 σ3 a3 w3 l3 r3 d3 hw3=>?_) (λ_ _ _ h=>h) (λ_ _ _ _ _ l r d h=>fin _ _ _ _ _ ((l1.trans l2).trans l) r d h);refine ZS (e3▸QcB) r3 d3 (piece (Qbw prog) Qck hw3) (λg4 ρ4 σ4 a4 w4 l4 r4 d4 hw4=>False.elim hw4) (λ_ _ _ h=>h) (λ_ _ _ _ _ l r d h=>fin _ _ _ _ _ (((l1.trans l2).trans l3).trans l) r d h)
end Go.Ah.Tz
end
section
namespace Go.Ah.Tz
open Go.Proofs.Tryz (prog)
set_option maxRecDepth 100000
attribute [local irreducible] Ans.rd Ans.pu Ans.wr Ans.dr Ans.gr Ans.gw Ans.gl Ans.gd Ans.opt joinK W
set_option maxHeartbeats 4000000
def brt(n:Int):Int:=min (max n (-1000000)) 1000000
theorem c290(n:Int):PC 290 [iv n] (iv (brt n)):=by
 refine Qc hP g290_ok rfl rfl ?_;unfold g290;exact Za (Ycl ..) (Za (Zaa ..) rfl)
@[reducible] def asR(b:Bk)(s:St)(sd tg:Int):List AVal:=[.rptr (bkC b) 0,.rptr (stC s) 0,iv sd,iv tg]
@[reducible] def asP(b:Bk)(s:St)(sd tg:Int):AVal:=.rptr (asR b s sd tg) 0
def whoS(sd who:Int):Int:=if who=1 then 1-sd else sd
theorem c295(b:Bk)(s:St)(sd tg who:Int)(h0:0≤sd)(h1:sd≤1):PC 295 [asP b s sd tg,iv8 who] (.rptr (stC s) (bif whoS sd who==0 then 7 else 15)):=by
 have hs:sd=0∨sd=1:=by omega
 refine Qc hP g295_ok rfl rfl ?_;unfold g295;refine Za (Yf ..) (Qb (λh=>?_) (λh=>?_))
 ·have h:who=1:=by simpa using h
  subst h;rcases hs with rfl|rfl
  ·repeat first|refine Za (ldr (row:=asR _ _ _ _) rfl) ?_|refine Za rfl ?_
   rfl
  ·repeat first|refine Za (ldr (row:=asR _ _ _ _) rfl) ?_|refine Za rfl ?_
   rfl
 ·have h:who≠1:=by simpa using h
  rcases hs with rfl|rfl
  ·repeat first|refine Za (ldr (row:=asR _ _ _ _) rfl) ?_|refine Za rfl ?_
   simp[whoS,h]
  ·repeat first|refine Za (ldr (row:=asR _ _ _ _) rfl) ?_|refine Za rfl ?_
   simp[whoS,h]
def sdK(s:St)(k:Int):Sd:=if k=0 then s.s0 else s.s1
theorem Z9{sd who:Int}(h0:0≤sd)(h1:sd≤1):whoS sd who=0∨whoS sd who=1:=by unfold whoS; split<;>omega
theorem c293(row:List AVal)(j:Nat)(x:Nm)(hx:NmAt row j x):PC 293 [.rptr row j] (iv x.n):=by
 refine Qc hP g293_ok rfl rfl ?_;unfold g293;exact Za rfl (Za rfl (Za (ldr hx.h1) rfl))
theorem c294(b:Bk)(s:St)(sd tg:Int)(h0:0≤sd)(h1:sd≤1)(row:List AVal)(j:Nat)(x:Nm)(hx:NmAt row j x):PC 294 [.rptr row j,.rptr [asP b s sd tg] 0] (iv (sdK s (whoS sd x.who)).life):=by
 refine Qc hP g294_ok rfl rfl ?_;unfold g294;refine Xj (ldr (row:=[asP b s sd tg]) rfl) rfl (Xg rfl (Xg rfl (Xj (ldr hx.h2) rfl (Zh (c295 b s sd tg x.who h0 h1) rfl g295_ok.plain rfl ?_))));rcases Z9 (who:=x.who) h0 h1 with h|h
 ·rw[h];exact Xg rfl (Xg rfl (Xj (ldr (row:=stC s) rfl) rfl (Xx (by kernel_rfl) rfl)))
 ·rw[h];exact Xg rfl (Xg rfl (Xj (ldr (row:=stC s) rfl) rfl (Xx (by kernel_rfl) rfl)))
theorem c296(b:Bk)(s:St)(sd tg:Int)(h0:0≤sd)(h1:sd≤1)(row:List AVal)(j:Nat)(x:Nm)(hx:NmAt row j x):PC 296 [.rptr row j,.rptr [asP b s sd tg] 0] (iv (sdK s (whoS sd x.who)).hand.length):=by
 refine Qc hP g296_ok rfl rfl ?_;unfold g296;refine Xj (ldr (row:=[asP b s sd tg]) rfl) rfl (Xg rfl (Xg rfl (Xj (ldr hx.h2) rfl (Zh (c295 b s sd tg x.who h0 h1) rfl g295_ok.plain rfl ?_))));rcases Z9 (who:=x.who) h0 h1 with h|h
 ·rw[h];refine Xg rfl (Xg rfl (Xj (v:=rowV s.s0.hand) (ldr (row:=stC s) rfl) rfl (Xg (v:=iv s.s0.hand.length) (by simp[Qe]) (Xx (by kernel_rfl) rfl))))
 ·rw[h];refine Xg rfl (Xg rfl (Xj (v:=rowV s.s1.hand) (ldr (row:=stC s) rfl) rfl (Xg (v:=iv s.s1.hand.length) (by simp[Qe]) (Xx (by kernel_rfl) rfl))))
theorem c297(b:Bk)(s:St)(sd tg:Int)(h0:0≤sd)(h1:sd≤1)(row:List AVal)(j:Nat)(x:Nm)(hx:NmAt row j x):PC 297 [.rptr row j,.rptr [asP b s sd tg] 0] (iv (sdK s (whoS sd x.who)).deck.length):=by
 refine Qc hP g297_ok rfl rfl ?_;unfold g297;refine Xj (ldr (row:=[asP b s sd tg]) rfl) rfl (Xg rfl (Xg rfl (Xj (ldr hx.h2) rfl (Zh (c295 b s sd tg x.who h0 h1) rfl g295_ok.plain rfl ?_))));rcases Z9 (who:=x.who) h0 h1 with h|h
 ·rw[h];refine Xg rfl (Xg rfl (Xj (v:=rowV s.s0.deck) (ldr (row:=stC s) rfl) rfl (Xg (v:=iv s.s0.deck.length) (by simp[Qe]) (Xx (by kernel_rfl) rfl))))
 ·rw[h];refine Xg rfl (Xg rfl (Xj (v:=rowV s.s1.deck) (ldr (row:=stC s) rfl) rfl (Xg (v:=iv s.s1.deck.length) (by simp[Qe]) (Xx (by kernel_rfl) rfl))))
theorem c298(b:Bk)(s:St)(sd tg:Int)(h0:0≤sd)(h1:sd≤1)(row:List AVal)(j:Nat)(x:Nm)(hx:NmAt row j x):PC 298 [.rptr row j,.rptr [asP b s sd tg] 0] (iv (sdK s (whoS sd x.who)).units.length):=by
 refine Qc hP g298_ok rfl rfl ?_;unfold g298;refine Xj (ldr (row:=[asP b s sd tg]) rfl) rfl (Xg rfl (Xg rfl (Xj (ldr hx.h2) rfl (Zh (c295 b s sd tg x.who h0 h1) rfl g295_ok.plain rfl ?_))));rcases Z9 (who:=x.who) h0 h1 with h|h
 ·rw[h];refine Xg rfl (Xg rfl (Xj (v:=thV s.s0.units) (ldr (row:=stC s) rfl) rfl (Xg (v:=iv s.s0.units.length) (by simp[Qe]) (Xx (by kernel_rfl) rfl))))
 ·rw[h];refine Xg rfl (Xg rfl (Xj (v:=thV s.s1.units) (ldr (row:=stC s) rfl) rfl (Xg (v:=iv s.s1.units.length) (by simp[Qe]) (Xx (by kernel_rfl) rfl))))
theorem c299(b:Bk)(s:St)(sd tg:Int)(h0:0≤sd)(h1:sd≤1)(y:AVal):PC 299 [y,.rptr [asP b s sd tg] 0] (iv (sdK s sd).mana):=by
 refine Qc hP g299_ok rfl rfl ?_;unfold g299;refine Za (ldr (row:=[asP b s sd tg]) rfl) (Yd (c295 b s sd tg 0 h0 h1) rfl g295_ok.plain rfl ?_);have hs:sd=0∨sd=1:=by omega
 rcases hs with rfl|rfl
 ·exact Za rfl (Za rfl (Za (ldr (row:=stC s) rfl) rfl))
 ·exact Za rfl (Za rfl (Za (ldr (row:=stC s) rfl) rfl))
def topN(b:Bk)(d:Sd):Int:=match d.deck with
 |[]=>0
 |c::_=>match b.cards[c.toNat]? with
  |some k=>k.cost
  |none=>0
theorem c300(b:Bk)(s:St)(sd tg:Int)(h0:0≤sd)(h1:sd≤1)(hd:∀c∈(sdK s sd).deck,0≤c∧c.toNat<b.cards.length)(y:AVal):PC 300 [y,.rptr [asP b s sd tg] 0] (iv (topN b (sdK s sd))):=by
 refine Qc hP g300_ok rfl rfl ?_;unfold g300;refine Za (ldr (row:=[asP b s sd tg]) rfl) (Yd (c295 b s sd tg 0 h0 h1) rfl g295_ok.plain rfl ?_);have go:∀(j:Nat),partA false (j+3) 1 (stC s)=some (rowV (sdK s sd).deck)→∀t:AVal,t=.rptr (stC s) j →
   VV.rd (Qa [t] []) λt7_2=>
   VV.rd (Ya 3 [t7_2] []) λt8_3=>
   VV.rd (Xc false 1 [t8_3] []) λt9_4=>
   VV.rd (Qe [t9_4] []) λt11_5=>
   VV.rd (Yi .gtr false [t11_5,(.int .i64 0)] []) λt12_6=>
   VV.test t12_6 (
   VV.rd (Xc false 1 [.rptr [asP b s sd tg] 0] []) λt13_7=>
   VV.rd (Qa [t13_7] []) λt14_8=>
   VV.rd (Ya 0 [t14_8] []) λt15_9=>
   VV.rd (Xc false 1 [t15_9] []) λt16_10=>
   VV.rd (Qa [t16_10] []) λt17_11=>
   VV.rd (Ya 0 [t17_11] []) λt18_12=>
   VV.rd (Xc false 1 [t18_12] []) λt19_13=>
   VV.rd (Yc 1 [t9_4,(.int .i64 0)] []) λt21_14=>
   VV.rd (Xc false 1 [t21_14] []) λt22_15=>
   VV.rd (Yc 12 [t19_13,t22_15] []) λt23_16=>
   VV.rd (Ya 2 [t23_16] []) λt24_17=>
   VV.rd (Xc false 1 [t24_17] []) λt25_18=>
   t25_18=iv (topN b (sdK s sd))) (
   (AVal.int .i64 0)=iv (topN b (sdK s sd))):=by
  rintro j hj t rfl;refine Za rfl (Za rfl (Za (ldr hj) (Za (v:=iv (sdK s sd).deck.length) (rd:=[]) (by simp[Qe]) (Za rfl ?_))));cases hdk:(sdK s sd).deck with
  |nil=>refine Qb (λh=>by simp at h) (λ_=>?_); simp[topN,hdk]
  |cons c l=>
   obtain⟨q1,q2⟩:=hd c (by rw[hdk]; simp);refine Qb (λ_=>?_) (λh=>by simp at h);refine Za (ldr (row:=[asP b s sd tg]) rfl) (Za rfl (Za rfl (Za (ldr (row:=asR b s sd tg) rfl) (Za rfl (Za rfl (Za (v:=cdV b.cards) (ldr (row:=bkC b) rfl) ?_))))));refine Za (v:=.rptr [iv c] 0) (rd:=[]) rfl (Za (ldr (row:=[iv c]) rfl) (Za (Zbz _ cdC _ _ _ b.cards _ c q1 q2) (Za rfl (Za (v:=iv b.cards[c.toNat].cost) (ldr rfl) ?_))));simp[topN,hdk,q2]
 have hs:sd=0∨sd=1:=by omega
 rcases hs with rfl|rfl
 ·exact go 7 rfl _ rfl
 ·exact go 15 rfl _ rfl
end Go.Ah.Tz
end
section
namespace Go.Ah.Tz
open Go.Proofs.Tryz (prog)
set_option maxRecDepth 100000
def QaN(b:Bk)(s:St)(sd tg op n who:Int):Int:=
 if op=0 then n else if op=1 then (sdK s (whoS sd who)).life else if op=2 then (sdK s (whoS sd who)).hand.length else if op=3 then (sdK s (whoS sd who)).deck.length
 else if op=4 then (sdK s (whoS sd who)).units.length else if op=5 then (sdK s sd).mana else if op=6 then topN b (sdK s sd) else (powId b s tg).1
def bothF(op y z:Int):Int:=if op=8 then y+z else if op=9 then y-z else if op=10 then y*z else if op=11 then min y z else max y z
def bothL(op:Int):List Int→Int
 |y::z::_=>bothF op y z
 |_=>0
mutual
def numF (b:Bk) (s:St) (sd tg:Int):Nm→Int
 |.mk op n who kids=>brt (if op<8 then QaN b s sd tg op n who else bothL op (numFs b s sd tg kids))
def numFs (b:Bk) (s:St) (sd tg:Int):List Nm→List Int
 |[]=>[]
 |x::l=>numF b s sd tg x::numFs b s sd tg l
end
theorem YaC(b:Bk)(s:St)(sd tg:Int)(x:Nm):numF b s sd tg x=brt (if x.op<8 then QaN b s sd tg x.op x.n x.who else bothL x.op (numFs b s sd tg x.kids)):=by cases x; rfl
theorem QcA(n:Int):-1000000≤brt n∧brt n≤1000000:=by unfold brt; omega
theorem Qbf(b:Bk)(s:St)(sd tg:Int)(x:Nm):-1000000≤numF b s sd tg x∧numF b s sd tg x≤1000000:=by rw[YaC]; exact QcA _
attribute [local irreducible] Ans.rd Ans.pu Ans.wr Ans.dr Ans.gr Ans.gw Ans.gl Ans.gd Ans.opt joinK W
set_option maxHeartbeats 4000000
theorem c302(y z:Int)(hy:-1000000≤y∧y≤1000000)(hz:-1000000≤z∧z≤1000000):PC 302 [iv y,iv z] (iv (y+z)):=by
 refine Qc hP g302_ok rfl rfl ?_;unfold g302;refine Za rfl ?_;rw[wrapI (by omega) (by omega)]
theorem c303(y z:Int)(hy:-1000000≤y∧y≤1000000)(hz:-1000000≤z∧z≤1000000):PC 303 [iv y,iv z] (iv (y-z)):=by
 refine Qc hP g303_ok rfl rfl ?_;unfold g303;refine Za rfl ?_;rw[wrapI (by omega) (by omega)]
theorem QcH{y z:Int}(hy:-1000000≤y∧y≤1000000)(hz:-1000000≤z∧z≤1000000):-1000000000000≤y*z∧y*z≤1000000000000:=by
 have h1:(y*z).natAbs≤1000000*1000000:=by rw[Int.natAbs_mul]; exact Nat.mul_le_mul (by omega) (by omega)
 omega
theorem c304(y z:Int)(hy:-1000000≤y∧y≤1000000)(hz:-1000000≤z∧z≤1000000):PC 304 [iv y,iv z] (iv (y*z)):=by
 refine Qc hP g304_ok rfl rfl ?_;unfold g304;refine Za rfl ?_;have:=QcH hy hz;rw[wrapI (by omega) (by omega)]
theorem c305(y z:Int):PC 305 [iv y,iv z] (iv (min y z)):=by
 refine Qc hP g305_ok rfl rfl ?_;unfold g305;exact Za (Zaa ..) rfl
theorem c306(y z:Int):PC 306 [iv y,iv z] (iv (max y z)):=by
 refine Qc hP g306_ok rfl rfl ?_;unfold g306;exact Za (Ycl ..) rfl
theorem c301(b:Bk)(hf:bkFit b=true)(hsm:Yw b.cards)(s:St)(hs:StLe 1000000000 s)(hm:mayR (bkR b).1 b s true=true)(sd tg:Int)(y:AVal):PC 301 [y,.rptr [asP b s sd tg] 0] (iv (powId b s tg).1):=by
 refine Qc hP g301_ok rfl rfl ?_;unfold g301;refine Xj (ldr (row:=[asP b s sd tg]) rfl) rfl (Xg rfl (Xg rfl (Xj (ldr (row:=asR b s sd tg) rfl) rfl (Xg rfl (Xj (v:=bkV b) (ldr (row:=bkC b) rfl) rfl ?_)))));refine Xj (ldr (row:=[asP b s sd tg]) rfl) rfl (Xg rfl (Xg rfl (Xj (ldr (row:=asR b s sd tg) rfl) rfl (Xg rfl (Xj (v:=stV s) (ldr (row:=stC s) rfl) rfl ?_)))));refine Xj (ldr (row:=[asP b s sd tg]) rfl) rfl (Xg rfl (Xg rfl (Xg rfl (Xj (v:=iv tg) (ldr (row:=asR b s sd tg) rfl) rfl (Zh (c54 b hf hsm s hs hm tg) rfl g54_ok.plain rfl ?_)))));exact Xg rfl (Xg rfl (Xg rfl (Xx (by kernel_rfl) rfl)))
@[reducible] def capA(b:Bk)(s:St)(sd tg:Int):AVal:=.rptr [asP b s sd tg] 0
@[reducible] def clA(b:Bk)(s:St)(sd tg:Int):AVal:=.agg [.func (.func 293) [] [],.func (.func 294) [] [capA b s sd tg],.func (.func 296) [] [capA b s sd tg],.func (.func 297) [] [capA b s sd tg],.func (.func 298) [] [capA b s sd tg],.func (.func 299) [] [capA b s sd tg],.func (.func 300) [] [capA b s sd tg],.func (.func 301) [] [capA b s sd tg]]
theorem c291(b:Bk)(s:St)(sd tg:Int):PC 291 [asP b s sd tg] (clA b s sd tg):=by
 refine XaC hP g291_ok rfl ⟨.agg [.func (.func 293) [] [],.func (.func 294) [] [.bptr 0 0],.func (.func 296) [] [.bptr 0 0],.func (.func 297) [] [.bptr 0 0],.func (.func 298) [] [.bptr 0 0],.func (.func 299) [] [.bptr 0 0],.func (.func 300) [] [.bptr 0 0],.func (.func 301) [] [.bptr 0 0]],
  [.box [asP b s sd tg],.box [.func (.func 293) [] [],.func (.func 294) [] [.bptr 0 0],.func (.func 296) [] [.bptr 0 0],.func (.func 297) [] [.bptr 0 0],.func (.func 298) [] [.bptr 0 0],.func (.func 299) [] [.bptr 0 0],.func (.func 300) [] [.bptr 0 0],.func (.func 301) [] [.bptr 0 0]]],rfl,?_⟩
 unfold g291;refine Xf rfl rfl (Xf rfl rfl ?_);repeat first|refine Za rfl ?_|refine Xf rfl rfl ?_
 exact Zt rfl ⟨rfl,rfl⟩
@[reducible] def clB:AVal:=.agg [.func (.func 302) [] [],.func (.func 303) [] [],.func (.func 304) [] [],.func (.func 305) [] [],.func (.func 306) [] []]
theorem c292:PC 292 [] clB:=by
 refine Qc hP g292_ok rfl rfl ?_;unfold g292;exact Xf rfl rfl (Za rfl (Xf rfl rfl (Zt rfl rfl)))
end Go.Ah.Tz
end
section
namespace Go.Ah.Tz
open Go.Proofs.Tryz (prog)
set_option maxRecDepth 100000
attribute [local irreducible] Ans.rd Ans.pu Ans.wr Ans.dr Ans.gr Ans.gw Ans.gl Ans.gd Ans.opt joinK W
set_option maxHeartbeats 8000000
theorem c289'(b:Bk)(hf:bkFit b=true)(hsm:Yw b.cards)(s:St)(hs:StLe 1000000000 s)(hm:mayR (bkR b).1 b s true=true)(sd tg:Int)(h0:0≤sd)(h1:sd≤1)(hd:∀c∈(sdK s sd).deck,0≤c∧c.toNat<b.cards.length)(t:Bool) :
  ∀(k:Nat) (x:Nm) (row:List AVal) (j:Nat),NmAt row j x→SizeOf.sizeOf x≤k→nmFit x=true→nmOk t x=true→PC 289 [.agg [.rptr row j],asP b s sd tg] (.iface 3 (iv (numF b s sd tg x)))
 |0,x,_,_,_,h,_,_=>by cases x; simp at h
 |k+1,x,row,j,hx,hk,hfx,hok=>by
  have hk1:=hok;rw[Ybf] at hk1;simp only[Bool.and_eq_true] at hk1;obtain⟨k1,k2,k3⟩:=hk1;simp only[nmTop,Bool.and_eq_true,decide_eq_true_eq] at k1;obtain⟨ka,kb,kc⟩:=k1;refine Qc hP g289_ok rfl rfl ?_;unfold g289;refine Xf (v:=.bptr 0 0) (rd:=[]) (up:=[(0,.box [.rptr row j])]) rfl rfl (Za rfl (Za (ld (row:=[.rptr row j]) rfl rfl) (Za rfl (Za rfl (Za (ldr hx.h0) (Za (v:=.bool (decide (x.op<8))) rfl ?_))))));refine Qb (λh=>?_) (λh=>?_)
  ·have h:x.op<8:=by simpa using h
   have hv:numF b s sd tg x=brt (QaN b s sd tg x.op x.n x.who):=by rw[YaC,if_pos h]
   rw[hv];refine Zh (c291 b s sd tg) rfl g291_ok.plain rfl ?_;refine Xg rfl (Xj (ld (row:=[.rptr row j]) rfl rfl) rfl (Xg rfl (Xg rfl (Xj (ldr hx.h0) rfl ?_))));have hop:x.op=0∨x.op=1∨x.op=2∨x.op=3∨x.op=4∨x.op=5∨x.op=6∨x.op=7:=by omega
   rcases hop with e|e|e|e|e|e|e|e<;>rw[e]
   ·exact Xg rfl (Xg rfl (Xj (ld (row:=[.rptr row j]) rfl rfl) rfl (Zh (c293 row j x hx) rfl g293_ok.plain rfl (Zh (c290 _) rfl g290_ok.plain rfl (Xg rfl (Xx (by kernel_rfl) rfl))))))
   ·exact Xg rfl (Xg rfl (Xj (ld (row:=[.rptr row j]) rfl rfl) rfl (Zh (c294 b s sd tg h0 h1 row j x hx) rfl g294_ok.plain rfl (Zh (c290 _) rfl g290_ok.plain rfl (Xg rfl (Xx (by kernel_rfl) rfl))))))
   ·exact Xg rfl (Xg rfl (Xj (ld (row:=[.rptr row j]) rfl rfl) rfl (Zh (c296 b s sd tg h0 h1 row j x hx) rfl g296_ok.plain rfl (Zh (c290 _) rfl g290_ok.plain rfl (Xg rfl (Xx (by kernel_rfl) rfl))))))
   ·exact Xg rfl (Xg rfl (Xj (ld (row:=[.rptr row j]) rfl rfl) rfl (Zh (c297 b s sd tg h0 h1 row j x hx) rfl g297_ok.plain rfl (Zh (c290 _) rfl g290_ok.plain rfl (Xg rfl (Xx (by kernel_rfl) rfl))))))
   ·exact Xg rfl (Xg rfl (Xj (ld (row:=[.rptr row j]) rfl rfl) rfl (Zh (c298 b s sd tg h0 h1 row j x hx) rfl g298_ok.plain rfl (Zh (c290 _) rfl g290_ok.plain rfl (Xg rfl (Xx (by kernel_rfl) rfl))))))
   ·exact Xg rfl (Xg rfl (Xj (ld (row:=[.rptr row j]) rfl rfl) rfl (Zh (c299 b s sd tg h0 h1 _) rfl g299_ok.plain rfl (Zh (c290 _) rfl g290_ok.plain rfl (Xg rfl (Xx (by kernel_rfl) rfl))))))
   ·exact Xg rfl (Xg rfl (Xj (ld (row:=[.rptr row j]) rfl rfl) rfl (Zh (c300 b s sd tg h0 h1 hd _) rfl g300_ok.plain rfl (Zh (c290 _) rfl g290_ok.plain rfl (Xg rfl (Xx (by kernel_rfl) rfl))))))
   ·exact Xg rfl (Xg rfl (Xj (ld (row:=[.rptr row j]) rfl rfl) rfl (Zh (c301 b hf hsm s hs hm sd tg _) rfl g301_ok.plain rfl (Zh (c290 _) rfl g290_ok.plain rfl (Xg rfl (Xx (by kernel_rfl) rfl))))))
  ·have h:¬x.op<8:=by simpa using h
   have hl:x.kids.length=2:=by rw[kc]; simp[nmK]; omega
   have hm0:x.kids[0]∈x.kids:=List.getElem_mem (by omega);have hm1:x.kids[1]∈x.kids:=List.getElem_mem (by omega);have hks:∀y∈x.kids,nmOk t y=true:=by
    have:∀l:List Nm,nmsOk t l=true→∀y∈l,nmOk t y=true:=by
     intro l
     induction l with
     |nil=>intro _ y hy; simp at hy
     |cons a l ih=>
      intro hh y hy;simp only[nmsOk,Bool.and_eq_true] at hh;simp only[List.mem_cons] at hy;rcases hy with rfl|hy
      ·exact hh.1
      ·exact ih hh.2 y hy
    exact this _ k2
   have hv:numF b s sd tg x=brt (bothF x.op (numF b s sd tg x.kids[0]) (numF b s sd tg x.kids[1])):=by
    rw[YaC,if_neg h];have hkk:x.kids=[x.kids[0],x.kids[1]]:=by
     apply List.ext_getElem (by simp[hl]);intro i h1 h2;have:i=0∨i=1:=by simp at h2; omega
     rcases this with rfl|rfl<;>rfl
    conv=>lhs; rw[hkk]
    simp[numFs,bothL]
   rw[hv];have r0:=c289' b hf hsm s hs hm sd tg h0 h1 hd t k x.kids[0] (nmC x.kids[0]) 0 (nmAt _) (by have:=ZV hm0; omega) (YH hfx hm0) (hks _ hm0);have r1:=c289' b hf hsm s hs hm sd tg h0 h1 hd t k x.kids[1] (nmC x.kids[1]) 0 (nmAt _) (by have:=ZV hm1; omega) (YH hfx hm1) (hks _ hm1);have b0:=Qbf b s sd tg x.kids[0];have b1:=Qbf b s sd tg x.kids[1];refine Za rfl (Za (ld (row:=[.rptr row j]) rfl rfl) (Za rfl (Za rfl (Za (ldr hx.h3) (Za (Yo _ nmC _ _ _ x.kids _ 0 (by omega)) (Za rfl (Yd r0 rfl g289_ok.plain rfl (Za rfl ?_))))))));refine Za rfl (Za (ld (row:=[.rptr row j]) rfl rfl) (Za rfl (Za rfl (Za (ldr hx.h3) (Za (Yo _ nmC _ _ _ x.kids _ 1 (by omega)) (Za rfl (Yd r1 rfl g289_ok.plain rfl (Za rfl ?_))))))));refine Zh c292 rfl g292_ok.plain rfl (Xg rfl (Xj (ld (row:=[.rptr row j]) rfl rfl) rfl (Xg rfl (Xg rfl (Xj (ldr hx.h0) rfl ?_)))));have hop:x.op=8∨x.op=9∨x.op=10∨x.op=11∨x.op=12:=by omega
   rcases hop with e|e|e|e|e<;>rw[e]
   ·exact Xg rfl (Xg rfl (Zh (c302 _ _ b0 b1) rfl g302_ok.plain rfl (Zh (c290 _) rfl g290_ok.plain rfl (Xg rfl (Xx (by kernel_rfl) rfl)))))
   ·exact Xg rfl (Xg rfl (Zh (c303 _ _ b0 b1) rfl g303_ok.plain rfl (Zh (c290 _) rfl g290_ok.plain rfl (Xg rfl (Xx (by kernel_rfl) rfl)))))
   ·exact Xg rfl (Xg rfl (Zh (c304 _ _ b0 b1) rfl g304_ok.plain rfl (Zh (c290 _) rfl g290_ok.plain rfl (Xg rfl (Xx (by kernel_rfl) rfl)))))
   ·exact Xg rfl (Xg rfl (Zh (c305 _ _) rfl g305_ok.plain rfl (Zh (c290 _) rfl g290_ok.plain rfl (Xg rfl (Xx (by kernel_rfl) rfl)))))
   ·exact Xg rfl (Xg rfl (Zh (c306 _ _) rfl g306_ok.plain rfl (Zh (c290 _) rfl g290_ok.plain rfl (Xg rfl (Xx (by kernel_rfl) rfl)))))
end Go.Ah.Tz
end
section
namespace Go.Ah.Tz
open Go.Proofs.Tryz (prog)
set_option maxRecDepth 100000
attribute [local irreducible] Ans.rd Ans.pu Ans.wr Ans.dr Ans.gr Ans.gw Ans.gl Ans.gd Ans.opt joinK W
set_option maxHeartbeats 4000000
theorem c125(cs:List Cd)(hf:QF cs=true)(l:List Ef)(hl:lsFit l=true):PC 125 [cdV cs,efV l] (.bool (lstOk cs true 1 l)):=by
 simp only[QF,Bool.and_eq_true,decide_eq_true_eq] at hf;obtain⟨f0,f1⟩:=hf;rw[bigE] at f0;refine Qc hP g125_ok rfl rfl ?_;unfold g125;refine Xf rfl rfl (Za rfl ?_);refine Qk (ι:=Nat) (λi vs σ=>∃m,vs=[iv i]∧hget σ 0=.map (mpE m)∧0<σ.length∧i≤cs.length∧UnitsO m (cs.take i)) (λi=>cs.length-i) 0 ⟨[],rfl,rfl,by simp,by omega,λt=>by simp[tlook,findO]⟩ ?_;rintro i vs σ again ⟨m,rfl,hm,hln,hi,hu⟩ hag;refine Za rfl ?_;refine Qb (λh=>?_) (λh=>?_)
 ·have hil:i<cs.length:=by simpa using h
  have hix:=λ(s:List ABlk)=>Yo s cdC false false 12 cs .i64 i hil;have htk:cs.take (i+1)=cs.take i++[cs[i]]:=Zu cs i hil;generalize cs[i]=c at hix htk;refine Ql λk10 hk10=>?_;have kk:∀m' σ',UnitsO m' (cs.take i++[c])→hget σ' 0=.map (mpE m')→0<σ'.length→k10 [] σ':=by
   intro m' σ' q1 q3 q4;rw[hk10];refine Za (Zk ..) ?_;rw[Yg (n:=i) (by omega)];exact hag (i+1) _ _ (by omega) ⟨m',rfl,q3,q4,by omega,by rw[htk]; exact q1⟩
  clear hk10 hag;refine Za (hix _) (Za (ldr (cdLd _)) (Xz (row:=cdC c) (row':=cdC c) rfl rfl rfl ?_));have hB0:=Yl σ (ABlk.box (cdC c));have hm':hget (σ++[ABlk.box (cdC c)]) 0=.map (mpE m):=Qm _ hm (by simp);have hl':0<(σ++[ABlk.box (cdC c)]).length:=by simp
  generalize σ++[ABlk.box (cdC c)]=base at hB0 hm' hl' ⊢;generalize σ.length=b at hB0 ⊢;refine Za rfl (Za (ld hB0 rfl) (Za (ZbO hm' _) (Za rfl (Za rfl (Za rfl ?_)))));refine Qb (λh=>?_) (λh=>?_)
  ·have h:(tlook c.name m).isSome=false:=by simpa using h
   refine Za rfl (Za (ld hB0 rfl) (Za rfl (Za (ld hB0 rfl) (Xf (QaJ hm' _ _) (Yz _ hl') ?_))));exact kk _ _ (hu.new h) (Qt _ hl') (by simpa using hl')
  ·have h:(tlook c.name m).isSome=true:=by simpa using h
   exact kk _ _ (hu.old h) hm' hl'
 have h:i=cs.length:=by simp at h; omega
 subst h;rw[List.take_length] at hu;refine Za rfl (Xf (v:=.bptr σ.length 0) (rd:=[]) (up:=[(σ.length,.box [.map 0,.bool true])]) rfl (QL _ _) ?_);have hB:=Yl σ (ABlk.box [.map 0,.bool true]);have hm':hget (σ++[ABlk.box [.map 0,.bool true]]) 0=.map (mpE m):=Qm _ hm (by simp);refine XG (rd:=[0,σ.length]) (c157 m cs hu.units true l 1 hl (by omega)) rfl g157_ok.plain (.cons (Bor.box (YT hB) (by simp) (.cons (Bor.map (Yah hm') (by simp) (Qbg (Zaw m))) (BorL.ro rfl))) (BorL.ro rfl)) rfl ?_;rfl
def cn0:Cn:=.mk 0 0 [] [] []
def gainE(x:Nm):Ef:=.mk 3 0 x [] cn0 [] []
def ZaO(x:Nm):Cd:=⟨[80,114,111,98,101],false,0,0,0,0,0,0,[gainE x],[],[],0⟩
@[reducible] def gainR(x:Nm):List AVal:=[iv8 3,iv8 0,iv8 x.op,iv x.n,iv8 x.who,.rsl false false 4 (x.kids.map nmC),.str [],iv8 0,iv8 0,.str [],.nils,.nils,.nils,.nils]
theorem Zb7{h0:Hp}{rd:List Nat}(x:Nm):BorL h0 rd (gainR x) (efC (gainE x)):=by
 rw[YD];exact .cons (Bor.ro rfl) <| .cons (Bor.ro rfl) <| .cons (Bor.ro rfl) <| .cons (Bor.ro rfl) <| .cons (Bor.ro rfl) <| .cons (Bor.ro rfl) <| .cons (Bor.ro rfl) <| .cons (Bor.ro rfl) <| .cons (Bor.ro rfl) <| .cons (Bor.ro rfl) <|
  .cons (Bor.weak (Bor.ro rfl) (λM u d=>d.nils_rsl 4)) <| .cons (Bor.weak (Bor.ro rfl) (λM u d=>d.nils_rsl 5)) <| .cons (Bor.weak (Bor.ro rfl) (λM u d=>d.nils_rsl 14)) <| .cons (Bor.weak (Bor.ro rfl) (λM u d=>d.nils_rsl 14)) .nil
theorem XbP{h0:Hp}{rd:List Nat}(x:Nm){b:Nat}(hb:h0 b=some (.rows 14 [gainR x]))(hin:b∈rd):Bor h0 rd (.sl b 0 1 true) (efV [gainE x]):=by
 refine Bor.weak (y:=.rsl true false 14 [efC (gainE x)]) (Bor.sl hb hin (by simp) rfl (λi row row' e1 e2=>?_)) (λM u d=>d.rsl_weak)
 match i with
 |0=>simp at e1 e2; subst e1; subst e2; exact Zb7 x
 |i+1=>simp at e2
theorem Xbo{x:Nm}(h:nmFit x=true):lsFit [gainE x]=true:=by
 simp[lsFit,gainE,Xag,efFit,h,cnFit,cn0,bigE,Qao,Zay,i8B]
theorem c82(b:Bk)(hf:bkFit b=true)(x:Nm)(hx:nmFit x=true)(hok:nmOk true x=true)(hw:nmW x≤200):PC 82 [.rptr (nmC x) 0,.nilp,.rptr (bkC b) 0] (.bool true):=by
 have hcs:QF b.cards=true:=by
  simp only[bkFit,Bool.and_eq_true] at hf; exact hf.1
 have hlen:((nmP x).length:Int)=nmW x:=by have:=Xct x; omega
 have hP1:(cdP (ZaO x)).length=1+(nmP x).length:=by simp[cdP,ZaO,efPs,gainE,efP,cntOp]; omega
 have hW:cdW (ZaO x)=1+nmW x:=by rw[ZcC,hP1]; omega
 have hlst:lstOk b.cards true 1 [gainE x]=true:=by
  simp[lstOk,efsOk,Zbe,gainE,Ef.op,Ef.c,Ef.thn,Ef.els,Ef.n,Ef.name,Ef.who,cntOp,hok,noCond,cn0,efEnd,efMid,Cn.op,Cn.who,Cn.name,Cn.nums,Cn.kids]
 have hw1:decide (cdW (ZaO x)-1>200)=false:=decide_eq_false (by omega);have h124:=c124 (ZaO x) (Xbo hx) rfl rfl (by rw[hP1]; omega);have h125:=c125 b.cards hcs [gainE x] (Xbo hx);rw[hlst] at h125;rw[Qx];refine Qc hP g82_ok rfl rfl ?_;unfold g82;refine Za rfl (Xf (v:=.bptr 0 0) rfl rfl (Xf (v:=.junk) (rd:=[]) (up:=[(0,.box [iv8 3,iv8 0,iv8 0,iv 0,iv8 0,.nils,.str [],iv8 0,iv8 0,.str [],.nils,.nils,.nils,.nils])]) rfl rfl (Za rfl (XH (Ze (Za rfl (Za (ldr rfl) (Za rfl ?_))))))));refine Xf (v:=.junk) (rd:=[]) (up:=[(0,.box (gainR x))]) rfl rfl ?_;refine Za (ld (row:=gainR x) rfl rfl) (Xf (v:=.sl 1 0 1 true) (rd:=[]) (up:=[(1,.rows 14 [gainR x])]) rfl rfl (Za rfl (Xf (v:=.bptr 2 0) rfl rfl ?_)));refine Xf (v:=.junk) (rd:=[]) (up:=[(2,.box [.str [80,114,111,98,101],.bool false,iv 0,iv 0,iv 0,iv 0,iv 0,iv 0,.sl 1 0 1 true,.nils,.nils,iv 0])]) rfl rfl ?_;refine Za (ld (row:=[.str [80,114,111,98,101],.bool false,iv 0,iv 0,iv 0,iv 0,iv 0,iv 0,.sl 1 0 1 true,.nils,.nils,iv 0]) rfl rfl) ?_;refine XG (rd:=[1]) h124 rfl g124_ok.plain (.cons (Bor.agg ?_) .nil) rfl ?_
 ·exact .cons (Bor.ro rfl) <| .cons (Bor.ro rfl) <| .cons (Bor.ro rfl) <| .cons (Bor.ro rfl) <| .cons (Bor.ro rfl) <| .cons (Bor.ro rfl) <| .cons (Bor.ro rfl) <| .cons (Bor.ro rfl) <| .cons (XbP x rfl (by simp)) <|
   .cons (Bor.weak (Bor.ro rfl) (λM u d=>d.nils_rsl 14)) <| .cons (Bor.weak (Bor.ro rfl) (λM u d=>d.nils_rsl 14)) <| .cons (Bor.ro rfl) .nil
 refine Za (e_sub ..) ?_;rw[wrapI (by omega) (by omega)];refine Za (v:=.bool (decide (cdW (ZaO x)-1>200))) rfl ?_;rw[hw1];refine Yh (Xg rfl (Xg rfl (Xj (v:=cdV b.cards) (ldr (row:=bkC b) rfl) rfl (Xg rfl (Xj (v:=.sl 1 0 1 true) (ld (row:=[.str [80,114,111,98,101],.bool false,iv 0,iv 0,iv 0,iv 0,iv 0,iv 0,.sl 1 0 1 true,.nils,.nils,iv 0]) rfl rfl) rfl ?_)))));exact YbF (rd:=[1]) h125 rfl g125_ok.plain (.cons (Bor.ro rfl) (.cons (XbP x rfl (by simp)) .nil)) rfl (Xx (by kernel_rfl) rfl)
end Go.Ah.Tz
end
section
namespace Go.Ah.Tz
open Go.Proofs.Tryz (prog)
set_option maxRecDepth 100000
theorem Ya3{e:Int}{b:Bk}{s:St}(h:mayR e b s false=true):mayR e b s true=true:=by
 simp only[mayR,Bool.and_eq_true] at h ⊢;obtain⟨a1,a2,a3,a4,a5,a6,a7,a8,a9,b1,b2,b3,b4,h⟩:=h;refine⟨a1,a2,a3,a4,a5,a6,a7,a8,a9,b1,b2,b3,b4,?_⟩;split at h
 ·rename_i q; rw[if_pos q]; exact h
 ·rename_i q; rw[if_neg q]; simp only[Bool.and_eq_true] at h ⊢; exact⟨by simp,h.2⟩
def nm0:Nm:=.mk 0 0 0 []
theorem g81_plain:Ym prog 81=true:=by kernel_rfl
attribute [local irreducible] Ans.rd Ans.pu Ans.wr Ans.dr Ans.gr Ans.gw Ans.gl Ans.gd Ans.opt joinK W
set_option maxHeartbeats 4000000
theorem c31(b:Bk)(hf:bkFit b=true)(hsm:Yw b.cards)(s:St)(hs:StLe 1000000000 s)(hm:mayR (bkR b).1 b s false=true)(sd tg:Int)(h0:0≤sd)(h1:sd≤1)(hd:∀c∈(sdK s sd).deck,0≤c∧c.toNat<b.cards.length)
 (x:Nm)(hx:nmFit x=true)(hok:nmOk true x=true)(hw:nmW x≤200):PC 31 [bkV b,stV s,.agg [iv sd,iv tg],.agg (nmC x)] (.tup [iv (numF b s sd tg x),iv 0]):=by
 have hz:=c289' b hf hsm s hs (Ya3 hm) sd tg h0 h1 hd true _ nm0 (nmC nm0) 0 (nmAt _) (Nat.le_refl _) rfl rfl;have h289:=c289' b hf hsm s hs (Ya3 hm) sd tg h0 h1 hd true _ x (nmC x) 0 (nmAt _) (Nat.le_refl _) hx hok;have a0:=c81 b hf hsm s hs hm sd tg h0 h1 _ _ _ hz;have a1:=c81 b hf hsm s hs hm sd tg h0 h1 _ _ _ h289;have h82:=c82 b hf x hx hok hw;refine Qc hP g31_ok rfl rfl ?_;unfold g31;refine Xf (v:=.bptr 0 0) (rd:=[]) (up:=[(0,.box (bkC b))]) rfl rfl (Xf (v:=.bptr 1 0) (rd:=[]) (up:=[(1,.box (stC s))]) rfl rfl (Xf (v:=.bptr 2 0) rfl rfl ?_));refine Xf (v:=.bptr 3 0) (rd:=[]) (up:=[(3,.box (nmC x))]) (by rw[Qx]; rfl) rfl ?_;refine Za (ld (row:=[iv sd,iv tg]) rfl rfl) (Za rfl (Xf (v:=.bptr 4 0) rfl rfl (Za rfl (Za rfl ?_))));have B0:∀ {σ:List ABlk} {rd:List Nat},hget σ 0=.box (bkC b)→0∈rd→Bor (hp σ) rd (.bptr 0 0) (.rptr (bkC b) 0):=λh hin=>Bor.box (YT h) hin (BorL.ro rfl);have B1:∀ {σ:List ABlk} {rd:List Nat},hget σ 1=.box (stC s)→1∈rd→Bor (hp σ) rd (.bptr 1 0) (.rptr (stC s) 0):=λh hin=>Bor.box (YT h) hin (BorL.ro rfl);have B3:∀ {σ:List ABlk} {rd:List Nat},hget σ 3=.box (nmC x)→3∈rd→Bor (hp σ) rd (.bptr 3 0) (.rptr (nmC x) 0):=λh hin=>Bor.box (YT h) hin (BorL.ro (by have:=nmRo x; simpa[roL,AVal.ro] using this));refine XG (rd:=[0,1,4]) a0 rfl g81_plain (.cons (B0 rfl (by simp)) <| .cons (B1 rfl (by simp)) <| .cons (Bor.ro rfl) <| .cons (Bor.iface (Bor.agg (.cons (Bor.box (row:=[iv8 0,iv 0,iv8 0,.nils]) rfl (by simp) ?_) .nil))) .nil) rfl ?_
 ·exact .cons (Bor.ro rfl) <| .cons (Bor.ro rfl) <| .cons (Bor.ro rfl) <| .cons (Bor.weak (Bor.ro rfl) (λM u d=>d.nils_rsl 4)) .nil
 refine Za rfl (Za rfl (Za rfl (Zb ?_)));refine XG (rd:=[0,3]) h82 rfl g82_ok.plain (.cons (B3 rfl (by simp)) <| .cons (Bor.ro rfl) <| .cons (B0 rfl (by simp)) .nil) rfl ?_;refine Xa (Za rfl (Za rfl (Yh (Za rfl (XH (Ze ?_))))));refine Za (ld (row:=[iv sd,iv tg]) rfl rfl) (Za rfl (Za rfl ?_));refine XG (rd:=[0,1,3]) a1 rfl g81_plain (.cons (B0 rfl (by simp)) <| .cons (B1 rfl (by simp)) <| .cons (Bor.ro rfl) <| .cons (Bor.iface (Bor.agg (.cons (B3 rfl (by simp)) .nil))) .nil) rfl ?_;exact Za rfl (Za rfl (Za rfl (Yh (Za rfl rfl))))
end Go.Ah.Tz
end
section
namespace Go.Ah.Tz
open Go.Proofs.Tryz (prog)
attribute [local irreducible] Ans.rd Ans.pu Ans.wr Ans.dr Ans.gr Ans.gw Ans.gl Ans.gd Ans.opt joinK W
set_option maxHeartbeats 4000000
def sizeN(s:St):Int:=s.attack.length+(s.s0.deck.length+s.s0.hand.length+s.s0.grave.length+s.s0.units.length+s.s0.told.length)+(s.s1.deck.length+s.s1.hand.length+s.s1.grave.length+s.s1.units.length+s.s1.told.length)
theorem c15x(s:St)(hs:StLe 2000000 s):PC 15 [stV s] (.bool (decide (2000<sizeN s))):=by
 have a0:=hs.attack;obtain⟨d0,h0,g0,u0,t0⟩:=hs.s0;obtain⟨d1,h1,g1,u1,t1⟩:=hs.s1;have w1:IntKind.i64.wrap (0+1)=1:=by decide
 have w2:IntKind.i64.wrap (1+1)=2:=by decide
 refine Qc hP g15_ok rfl rfl ?_;unfold g15;refine Xf rfl rfl (Za rfl (Za rfl (Za (v:=iv s.attack.length) (rd:=[]) (by simp[Xh]) ?_)));refine YB 3 (Yj ?_);refine Za rfl (Ze ?_);refine Za rfl (Za rfl (Za rfl (Xf rfl rfl (Xf rfl rfl ?_))));refine Za rfl (Za rfl (Za (v:=iv s.s0.deck.length) (rd:=[]) (by simp[Xh]) ?_));refine Za rfl (Za rfl (Za (v:=iv s.s0.hand.length) (rd:=[]) (by simp[Xh]) (Za (Zk ..) ?_)));rw[wrapI (n:=(s.s0.deck.length:Int)+(s.s0.hand.length:Int)) (by omega) (by omega)];refine Za rfl (Za rfl (Za (v:=iv s.s0.grave.length) (rd:=[]) (by simp[Xh]) (Za (Zk ..) ?_)));rw[wrapI (n:=(s.s0.deck.length:Int)+(s.s0.hand.length:Int)+(s.s0.grave.length:Int)) (by omega) (by omega)];refine Za rfl (Za rfl (Za (v:=iv s.s0.units.length) (rd:=[]) (by simp[Xh]) (Za (Zk ..) ?_)));rw[wrapI (n:=(s.s0.deck.length:Int)+(s.s0.hand.length:Int)+(s.s0.grave.length:Int)+(s.s0.units.length:Int)) (by omega) (by omega)];refine Za rfl (Za rfl (Za (v:=iv s.s0.told.length) (rd:=[]) (by simp[Xh]) (Za (Zk ..) ?_)));rw[wrapI (n:=(s.s0.deck.length:Int)+(s.s0.hand.length:Int)+(s.s0.grave.length:Int)+(s.s0.units.length:Int)+(s.s0.told.length:Int)) (by omega) (by omega)];refine Za (Zk ..) (Za rfl ?_);rw[w1,wrapI (n:=(s.attack.length:Int)+((s.s0.deck.length:Int)+(s.s0.hand.length:Int)+(s.s0.grave.length:Int)+(s.s0.units.length:Int)+(s.s0.told.length:Int))) (by omega) (by omega)];refine Yj ?_;refine Za rfl (Ze ?_);refine Za rfl (Za rfl (Za rfl (Xf rfl rfl (Xf rfl rfl ?_))));refine Za rfl (Za rfl (Za (v:=iv s.s1.deck.length) (rd:=[]) (by simp[Xh]) ?_));refine Za rfl (Za rfl (Za (v:=iv s.s1.hand.length) (rd:=[]) (by simp[Xh]) (Za (Zk ..) ?_)));rw[wrapI (n:=(s.s1.deck.length:Int)+(s.s1.hand.length:Int)) (by omega) (by omega)];refine Za rfl (Za rfl (Za (v:=iv s.s1.grave.length) (rd:=[]) (by simp[Xh]) (Za (Zk ..) ?_)));rw[wrapI (n:=(s.s1.deck.length:Int)+(s.s1.hand.length:Int)+(s.s1.grave.length:Int)) (by omega) (by omega)];refine Za rfl (Za rfl (Za (v:=iv s.s1.units.length) (rd:=[]) (by simp[Xh]) (Za (Zk ..) ?_)));rw[wrapI (n:=(s.s1.deck.length:Int)+(s.s1.hand.length:Int)+(s.s1.grave.length:Int)+(s.s1.units.length:Int)) (by omega) (by omega)];refine Za rfl (Za rfl (Za (v:=iv s.s1.told.length) (rd:=[]) (by simp[Xh]) (Za (Zk ..) ?_)));rw[wrapI (n:=(s.s1.deck.length:Int)+(s.s1.hand.length:Int)+(s.s1.grave.length:Int)+(s.s1.units.length:Int)+(s.s1.told.length:Int)) (by omega) (by omega)];refine Za (Zk ..) (Za rfl ?_);rw[w2,wrapI (n:=(s.attack.length:Int)+((s.s0.deck.length:Int)+(s.s0.hand.length:Int)+(s.s0.grave.length:Int)+(s.s0.units.length:Int)+(s.s0.told.length:Int))+((s.s1.deck.length:Int)+(s.s1.hand.length:Int)+(s.s1.grave.length:Int)+(s.s1.units.length:Int)+(s.s1.told.length:Int))) (by omega) (by omega)];refine Yj ?_;exact Za rfl (Yh (Za (X2 ..) rfl))
end Go.Ah.Tz
end
section
namespace Go.Ah.Tz
open Go.Proofs.Tryz (prog)
set_option maxRecDepth 100000
mutual
def topB:Nm→Bool
 |.mk op _ _ kids=>topBs kids||decide (op=6)
def topBs:List Nm→Bool
 |[]=>false
 |x::l=>topB x||topBs l
end
theorem Zb2(x:Nm):topB x=(topBs x.kids||decide (x.op=6)):=by cases x; rfl
def repl(s:St)(d0 h0 d1 h1:List Int):St:={ s with s0:={ s.s0 with deck:=d0,hand:=h0,told:=[] },s1:={ s.s1 with deck:=d1,hand:=h1,told:=[] } }
theorem QbD(s:St)(d0 h0 d1 h1:List Int):unitR (repl s d0 h0 d1 h1)=unitR s:=rfl
theorem YaI(s:St)(d0 h0 d1 h1:List Int):∀(l prev:List Int),attOk (repl s d0 h0 d1 h1) prev l=attOk s prev l
 |[],_=>rfl
 |a::l,prev=>by
  simp only[attOk,YaI s d0 h0 d1 h1 l];rfl
def Rng(n:Nat)(l l':List Int):Prop:=l'.length=l.length∧∀c∈l',0≤c∧c<n
theorem Zag{n:Nat}{l l':List Int}{m:Int}(h:Xn n l m=true)(r:Rng n l l'):Xn n l' m=true:=by
 simp only[Xn,Bool.and_eq_true,decide_eq_true_eq,List.all_eq_true] at h ⊢;exact⟨by rw[r.1]; exact h.1,λc hc=>by simpa using r.2 c hc⟩
theorem YbS{e:Int}{b:Bk}{s:St}{d0 h0 d1 h1:List Int}(h:mayR e b s false=true)(r1:Rng b.cards.length s.s0.deck d0)(r2:Rng b.cards.length s.s0.hand h0)(r3:Rng b.cards.length s.s1.deck d1)(r4:Rng b.cards.length s.s1.hand h1) :
  mayR e b (repl s d0 h0 d1 h1) false=true:=by
 simp only[mayR,Bool.and_eq_true] at h ⊢;obtain⟨a1,a2,a3,a4,a5,a6,a7,a8,a9,b1,b2,b3,b4,hh⟩:=h;refine⟨a1,a2,a3,a4,a5,a6,a7,a8,a9,b1,b2,b3,?_,?_⟩
 ·simp only[Xr,Xl,Bool.and_eq_true] at b4 ⊢;obtain⟨⟨q1,q2,q3,q4,q5,q6,q7,q8,q9,q10⟩,u1,⟨p1,p2,p3,p4,p5,p6,p7,p8,p9,p10⟩,u2⟩:=b4;exact⟨⟨q1,q2,q3,q4,q5,Zag q6 r1,Zag q7 r2,q8,by simp[Xn,repl],q10⟩,u1,⟨p1,p2,p3,p4,p5,Zag p6 r3,Zag p7 r4,p8,by simp[Xn,repl],p10⟩,u2⟩
 ·rw[YaI]; exact hh
theorem Ycm{e:Int}{b:Bk}{s:St}(h:mayR e b s false=true):(∀c∈s.s0.deck,0≤c∧c<b.cards.length)∧(∀c∈s.s0.hand,0≤c∧c<b.cards.length)∧(∀c∈s.s1.deck,0≤c∧c<b.cards.length)∧(∀c∈s.s1.hand,0≤c∧c<b.cards.length):=by
 simp only[mayR,Bool.and_eq_true] at h;obtain⟨a1,a2,a3,a4,a5,a6,a7,a8,a9,b1,b2,b3,b4,hh⟩:=h;simp only[Xr,Xl,Bool.and_eq_true] at b4;obtain⟨⟨q1,q2,q3,q4,q5,q6,q7,q8,q9,q10⟩,u1,⟨p1,p2,p3,p4,p5,p6,p7,p8,p9,p10⟩,u2⟩:=b4;have go:∀ {l:List Int} {m:Int},Xn b.cards.length l m=true→∀c∈l,0≤c∧c<b.cards.length:=by
  intro l m hl c hc;simp only[Xn,Bool.and_eq_true,List.all_eq_true] at hl;simpa using hl.2 c hc
 exact⟨go q6,go q7,go p6,go p7⟩
theorem Xbq{e:Int}{b:Bk}{s:St}(h:mayR e b s false=true)(sd:Int):∀c∈(sdK s sd).deck,0≤c∧c.toNat<b.cards.length:=by
 obtain⟨h1,_,h3,_⟩:=Ycm h;intro c hc;unfold sdK at hc;split at hc
 ·have:=h1 c hc; omega
 ·have:=h3 c hc; omega
section
variable {s:St} {d0 h0 d1 h1:List Int} (e1:d0.length=s.s0.deck.length) (e2:h0.length=s.s0.hand.length) (e3:d1.length=s.s1.deck.length) (e4:h1.length=s.s1.hand.length)
include e1 e2 e3 e4
theorem Ybg(b:Bk)(sd tg op n who:Int)(h6:op≠6):QaN b (repl s d0 h0 d1 h1) sd tg op n who=QaN b s sd tg op n who:=by
 have kl:∀k,(sdK (repl s d0 h0 d1 h1) k).life=(sdK s k).life:=λk=>by unfold sdK; split<;>rfl
 have km:∀k,(sdK (repl s d0 h0 d1 h1) k).mana=(sdK s k).mana:=λk=>by unfold sdK; split<;>rfl
 have kd:∀k,(sdK (repl s d0 h0 d1 h1) k).deck.length=(sdK s k).deck.length:=λk=>by unfold sdK; split<;>assumption
 have kh:∀k,(sdK (repl s d0 h0 d1 h1) k).hand.length=(sdK s k).hand.length:=λk=>by unfold sdK; split<;>assumption
 have ku:∀k,(sdK (repl s d0 h0 d1 h1) k).units.length=(sdK s k).units.length:=λk=>by unfold sdK; split<;>rfl
 have kp:powId b (repl s d0 h0 d1 h1) tg=powId b s tg:=by
  have:∀k,(Xaq (repl s d0 h0 d1 h1) k).units=(Xaq s k).units:=λk=>by unfold Xaq; split<;>rfl
  simp only[powId,QbD,this]
 unfold QaN;rw[kl,km,kd,kh,ku,kp,if_neg h6,if_neg h6]
theorem Za5(b:Bk)(sd tg:Int):∀(k:Nat) (x:Nm),SizeOf.sizeOf x≤k→topB x=false→numF b (repl s d0 h0 d1 h1) sd tg x=numF b s sd tg x
 |0,x,h,_=>by cases x; simp at h
 |k+1,x,hk,ht=>by
  rw[Zb2] at ht;simp only[Bool.or_eq_false_iff,decide_eq_false_iff_not] at ht;have hl:∀l:List Nm,(∀y∈l,SizeOf.sizeOf y≤k)→topBs l=false→numFs b (repl s d0 h0 d1 h1) sd tg l=numFs b s sd tg l:=by
   intro l
   induction l with
   |nil=>intro _ _; rfl
   |cons y l ih=>
    intro hs hh;simp only[topBs,Bool.or_eq_false_iff] at hh;simp only[numFs];rw[Za5 b sd tg k y (hs y (by simp)) hh.1,ih (λz hz=>hs z (by simp[hz])) hh.2]
  rw[YaC,YaC,Ybg e1 e2 e3 e4 b sd tg _ _ _ ht.2,hl x.kids (λy hy=>by have:=ZV hy; omega) ht.1]
end
attribute [local irreducible] Ans.rd Ans.pu Ans.wr Ans.dr Ans.gr Ans.gw Ans.gl Ans.gd Ans.opt joinK W
set_option maxHeartbeats 4000000
theorem c32':∀(k:Nat) (x:Nm),SizeOf.sizeOf x≤k→nmFit x=true→PC 32 [.agg (nmC x)] (.bool (topB x))
 |0,x,h,_=>by cases x; simp at h
 |k+1,x,hk,hf=>by
  rw[Qx];refine Qc hP g32_ok rfl rfl ?_;unfold g32;refine Xf rfl rfl ?_;rw[Zb2];have hlen:=ZX hf;rw[bigE] at hlen;generalize hB:([]++[ABlk.box [iv8 x.op,iv x.n,iv8 x.who,.rsl false false 4 (x.kids.map nmC)]]:List ABlk)=base;have hB0:hget base 0=.box [iv8 x.op,iv x.n,iv8 x.who,.rsl false false 4 (x.kids.map nmC)]:=by rw[←hB]; rfl
  clear hB;refine Za rfl (Za (ld hB0 rfl) (Za rfl ?_));refine Qk (ι:=Nat) (λi vs σ=>vs=[iv i]∧σ=base∧i≤x.kids.length∧topBs x.kids=topBs (x.kids.drop i)) (λi=>x.kids.length-i) 0 ⟨rfl,rfl,by omega,by simp⟩ ?_;rintro i vs σ again ⟨rfl,rfl,hi,hu⟩ hag;refine Za rfl ?_;refine Qb (λh=>?_) (λh=>?_)
  ·have h:i<x.kids.length:=by simpa using h
   have hdr:x.kids.drop i=x.kids[i]::x.kids.drop (i+1):=by rw[YLD h]
   rw[hdr,topBs] at hu;have hm:x.kids[i]∈x.kids:=List.getElem_mem h;refine Za rfl (Za (ld hB0 rfl) (Za (Yo _ nmC _ _ _ x.kids _ i h) (Za (ldr (nmLd _)) ?_)));refine Yd (c32' k _ (by have:=ZV hm; omega) (YH hf hm)) rfl g32_ok.plain (nmRo _) ?_;refine Qb (λh4=>?_) (λh4=>?_)
   ·have h4:topB x.kids[i]=true:=by simpa using h4
    rw[hu,h4]; rfl
   ·have h4:topB x.kids[i]=false:=by simpa using h4
    rw[h4,Bool.false_or] at hu;refine Za (Zk ..) ?_;rw[Yg (n:=i) (by omega)];exact hag (i+1) _ _ (by omega) ⟨rfl,rfl,by omega,hu⟩
  ·have h:i=x.kids.length:=by simp at h; omega
   subst h;rw[List.drop_length,topBs] at hu;rw[hu,Bool.false_or];exact Za rfl (Za (ld hB0 rfl) (Za (Yf ..) rfl))
theorem c32(x:Nm)(hf:nmFit x=true):PC 32 [.agg (nmC x)] (.bool (topB x)):=c32' _ x (Nat.le_refl _) hf
theorem c29(x:Nm)(hf:nmFit x=true):PC 29 [.agg (nmC x)] (.bool (decide (nmW x≤200)&&nmOk true x)):=by
 have h76:=c76 x hf;have h77:=c77u .nils true _ x (Nat.le_refl _) hf;have e4:=nmLd x;have ero:=nmRo x;refine Qc hP g29_ok rfl rfl ?_;unfold g29;refine Xf (v:=.bptr 0 0) (rd:=[]) (up:=[(0,.box (nmC x))]) (by rw[Qx]; rfl) rfl (Za rfl (Xf (v:=.bptr 1 0) rfl rfl (Za (ld (row:=nmC x) rfl e4) (Yd h76 rfl g76_ok.plain ero (Za (v:=.bool (decide (nmW x≤200))) rfl ?_)))));rcases YBE (decide (nmW x≤200)) with h|h
 ·rw[h];refine Xa (Za rfl (Xa (Za (ld (row:=nmC x) rfl e4) (Zb ?_))));exact XG (rd:=[1]) h77 rfl g77_ok.plain (.cons (Bor.box rfl (by simp) (BorL.ro rfl)) (BorL.ro ero)) rfl (Za rfl rfl)
 ·rw[h];exact Yb rfl (Yb rfl (Zc rfl (Za rfl rfl)))
end Go.Ah.Tz
end
section
namespace Go.Ah.Tz
open Go.Proofs.Tryz (prog)
abbrev ivF:Int→AVal:=λn=>iv n
structure PwB (b:Bk) (s:St) (M:List (Int×Int)) (τ:List ABlk):Prop where
 k0:hget τ 0=.box (bkC b)
 k1:hget τ 1=.box (stC s)
 k2:hget τ 2=.box zStC
 k3:hget τ 3=.map (mpG ivF M)
inductive FS where
 |harm (id n:Int)
 |block (a d:Int)
def evM(e:Ev):List AVal:=if e.kind=12 then evN e else evC e
inductive FnV (n:Nat) (τ:List ABlk):FS→AVal→Prop
 |harm {p q:Nat} {id k:Int}:n+14≤p→n+14≤q→hget τ p=.box [iv id]→hget τ q=.box [iv k]→FnV n τ (.harm id k) (.func (.func 102) [] [.bptr 0 0,.bptr (n+11) 0,.bptr p 0,.bptr 1 0,.bptr q 0,.bptr (n+12) 0])
 |block {p q:Nat} {a a' d:Int}:n+14≤p→n+14≤q→hget τ p=.box [iv a]→hget τ q=.box [iv a',iv d]→FnV n τ (.block a d) (.func (.func 105) [] [.bptr (n+12) 0,.bptr 1 0,.bptr p 0,.bptr q 0])
def SR(n:Nat)(τ:List ABlk)(S:List FS)(v:AVal):Prop:=
 (S=[]∧v=.nils)∨∃R rows,n+14≤R∧0<S.length∧v=.sl R 0 S.length false∧hget τ R=.rows 1 rows∧rows.length=S.length∧∀i (h:i<S.length),∃fv,rows[i]?=some [fv]∧fv.cell=true∧FnV n τ S[i] fv
structure SX (b:Bk) (s:St) (M:List (Int×Int)) (n:Nat) (S:List FS) (v:AVal) (τ:List ABlk):Prop where
 ln:n+14≤τ.length
 n4:4≤n
 pw:PwB b s M τ
 cp:CP τ n s
 ev:hget τ (n+12)=.box [.nils]
 st:hget τ (n+13)=.box [v]
 row:SR n τ S v
end Go.Ah.Tz
end
section
namespace Go.Ah
section
variable {P:Program} {GL:Globs}
def honly(h:Hp)(rd:List Nat):Hp:=λb=>if b∈rd then h b else (h b).map λ_=>.dead
theorem Z7{h:Hp}{rd:List Nat}{b:Nat}{blk:ABlk}(e:honly h rd b=some blk)(hl:blk.live=true):b∈rd∧h b=some blk:=by
 unfold honly at e;by_cases hb:b∈rd
 ·rw[if_pos hb] at e; exact⟨hb,e⟩
 ·rw[if_neg hb] at e;obtain⟨x,_,rfl⟩:=Option.map_eq_some_iff.1 e;simp[ABlk.live] at hl
theorem Rep.only{w0:World}{L:Ln}{g:Gm}{h:Hp}{w:World}(r:Rep GL w0 L g h w)(rd:List Nat):Rep GL w0 L g (honly h rd) w where
 keeps:=r.keeps
 stable:=r.stable
 src:=r.src
 globs:=r.globs
 empt:=λb e=>r.empt b (by
  unfold honly at e;split at e
  ·exact e
  ·simpa using e)
 dom:=λb blk e=>by
  unfold honly at e;split at e
  ·exact r.dom b blk e
  ·obtain⟨x,hx,_⟩:=Option.map_eq_some_iff.1 e;exact r.dom b x hx
 own:=λb blk cb e hl=>r.own b blk cb (Z7 e hl).2 hl
 hollow:=λb blk cb e hl=>r.hollow b blk cb (Z7 e hl).2 hl
 inj:=λb b' blk blk' cb cb' e e' hl hl'=>r.inj b b' blk blk' cb cb' (Z7 e hl).2 (Z7 e' hl').2 hl hl'
end
end Go.Ah
end
section
namespace Go.Ah.Tz
open Go.Proofs.Tryz (prog)
def EvR(n:Nat)(τ:List ABlk)(l:List Ev)(v:AVal):Prop:=
 (l=[]∧v=.nils)∨∃Q,n+14≤Q∧0<l.length∧v=.sl Q 0 l.length false∧hget τ Q=.rows 7 (l.map evM)
structure RX (b:Bk) (s:St) (n:Nat) (l:List Ev) (v:AVal) (τ:List ABlk):Prop where
 ln:n+14≤τ.length
 n4:4≤n
 k0:hget τ 0=.box (bkC b)
 k1:hget τ 1=.box (stC s)
 k2:hget τ 2=.box zStC
 ev:hget τ (n+12)=.box [v]
 row:EvR n τ l v
end Go.Ah.Tz
end
section
namespace Go.Ah.Tz
open Go.Proofs.Tryz (prog)
attribute [local irreducible] Ans.rd Ans.pu Ans.wr Ans.dr Ans.gr Ans.gw Ans.gl Ans.gd Ans.opt joinK W
set_option maxHeartbeats 8000000
theorem Gr.op{σ0 σ:List ABlk}{n by_ k:Nat}{rows:List (List AVal)}{v:AVal}{cs:List AVal}(hg:Gr σ0 n rows k v σ)(hr:cs.all AVal.cell=true)(hroom:(2*(k+1)+192)*by_≤2 ^ 48) :
  ∃v' rd up σ',Qi n by_ [v,.sl σ.length 0 1 true] (σ++[.rows n [cs]])=.ok v' rd up∧upL (σ++[.rows n [cs]]) up=some σ'∧Gr σ0 n (rows++[cs]) (k+1) v' σ':=by
 obtain⟨g1,g2,hg⟩:=hg;have hnew:=Yl σ (.rows n [cs]);rcases hg with ⟨rfl,rfl,rfl⟩|⟨hk,b,hb0,rfl,hb,hl⟩
 ·have e:=ZbN n by_ (ex2:=true) hnew rfl (ZU hr) (by simpa using hroom);refine⟨_,_,_,_,e,QL _ _,by simp; omega,λc hc=>?_,.inr ⟨by omega,_,?_,rfl,by have:=Yl (σ++[ABlk.rows n [cs]]) (.rows n [cs]); simpa using this,rfl⟩⟩
  ·rw[ZH _ (by simp; omega),ZH _ (by omega),g2 c hc]
  ·simp; omega
 ·have e:=YbN n by_ (ex:=false) (ex2:=true) (Qm [.rows n [cs]] hb (by simp)) hnew hl rfl (ZU hr) hroom;have hlt:=Qy hb (by simp);refine⟨_,_,_,_,e,Ybu _ _ (by simp; omega),by simp; omega,λc hc=>?_,.inr ⟨by omega,_,?_,rfl,?_,by simp[hl]⟩⟩
  ·rw[ZH _ (by simp; omega),Qs _ (by simp; omega) (by omega),ZH _ (by omega),g2 c hc]
  ·simp; omega
  ·have:=Yl ((σ++[ABlk.rows n [cs]]).set b .dead) (.rows n (rows++[cs]));simpa using this
end Go.Ah.Tz
end
section
namespace Go.Ah.Tz
open Go.Proofs.Tryz (prog)
structure RY (b:Bk) (s:St) (l:List Ev) (v:AVal) (τ:List ABlk):Prop where
 ln:15≤τ.length
 k0:hget τ 0=.box (bkC b)
 k1:hget τ 1=.box (stC s)
 k2:hget τ 2=.box zStC
 row:EvR 1 τ l v
structure Fk (mv:Int) (t t':St):Prop where
 u0:t'.s0.units.length=t.s0.units.length
 u1:t'.s1.units.length=t.s1.units.length
 m0:t'.s0.mana=t.s0.mana
 m1:t'.s1.mana=t.s1.mana
 lf:(Xaq t' mv).life=(Xaq t mv).life
def FS.who:FS→Option Int
 |.harm id _=>some id
 |.block _ _=>none
def FS.life:FS→Int
 |.harm id n=>if id=0 then cap4 n else 0
 |.block _ _=>0
def FS.on(b:Bk)(u:Th):FS→Int
 |.harm id n=>if id=u.id then hurt b u (cap4 n) else 0
 |.block _ _=>0
theorem YcF{ib:Bool}{σ:List ABlk}{a:Int}{n:Nat}(h:0<n):Yi .rem ib [iv a,iv (n:Int)] σ=.ok (iv (a.tmod n)) [] []:=by
 have h0:Nat.beq n 0=false:=by
  cases e:Nat.beq n 0 with
  |false=>rfl
  |true=>have:=YNB e; omega
 have e:binX .rem .i64 .i64 a (Int.ofNat n)=(bif Nat.beq n 0 then none else bif ikEq .i64 .i64 then some (.int .i64 (a.tmod (.ofNat n))) else none):=rfl;show (match binX .rem .i64 .i64 a (Int.ofNat n) with
  |some v=>SRes.ok v [] []
  | none=>.stop)=_
 rw[e,h0]; rfl
end Go.Ah.Tz
end
section
namespace Go.Ah.Tz
open Go.Proofs.Tryz (prog)
set_option maxRecDepth 100000
theorem Qcb{σ:List ABlk}{b:Nat}{y:ABlk}(h:hget σ b=y)(hy:y≠.dead):σ.set b y=σ:=by
 have hg:=ZT h hy;apply List.ext_getElem?;intro i;rw[List.getElem?_set];split
 ·rename_i e;subst e;have:=(YLG hg).1;rw[if_pos this,hg]
 ·rfl
attribute [local irreducible] Ans.rd Ans.pu Ans.wr Ans.dr Ans.gr Ans.gw Ans.gl Ans.gd Ans.opt joinK W
set_option maxHeartbeats 4000000
theorem lp5(b:Bk)(hbk:b.cards.length≤1152921504606846975)(oth:List Int)(ho:oth.length≤1000000000){c:Nat}{L:List Int}(hL:L.length≤1000000000)(hr:∀x∈L,0≤x∧x<b.cards.length){k0:Nat}(hk:k0≤oth.length)
 {σ:List ABlk}(z0:hget σ 0=.box (bkC b))(z1:hget σ (c+1)=.rows 1 (L.map cel)){K:List AVal→List ABlk→Prop}(hK:∀L' k',Rng b.cards.length L L'→k'≤oth.length→K [iv L.length,iv k'] (σ.set (c+1) (.rows 1 (L'.map cel)))) :
 VV.loop (λag47 v48 σ=>
 VV.rd (Yi .lss false [(h0 v48),iv L.length] σ) λt71_49=>
 VV.test t71_49 (
 joinK (λk50=>
 VV.rd (Qe [rowV oth] σ) λt75_52=>
 VV.rd (Yi .lss false [(h1 v48),t75_52] σ) λt76_53=>
 VV.test t76_53 (
 VV.dr (Yc 1 [rowV oth,(h1 v48)] σ) σ λt81_54 l55 σ=>
 VV.dr (Xc false 1 [t81_54] σ) σ λt82_56 l57 σ=>
 VV.pu (Ya 0 [.bptr 0 0] σ) λt83_58=>
 VV.dr (Xc false 1 [t83_58] σ) σ λt84_59 l60 σ=>
 VV.pu (Qe [t84_59] σ) λt85_61=>
 VV.pu (Yi .rem false [t82_56,t85_61] σ) λt86_62=>
 VV.pu (Ya 0 [.bptr 0 0] σ) λt87_63=>
 VV.dr (Xc false 1 [t87_63] σ) σ λt88_64 l65 σ=>
 VV.pu (Qe [t88_64] σ) λt89_66=>
 VV.pu (Yi .add false [t86_62,t89_66] σ) λt90_67=>
 VV.pu (Ya 0 [.bptr 0 0] σ) λt91_68=>
 VV.dr (Xc false 1 [t91_68] σ) σ λt92_69 l70 σ=>
 VV.pu (Qe [t92_69] σ) λt93_71=>
 VV.pu (Yi .rem false [t90_67,t93_71] σ) λt94_72=>
 VV.dr (Yc 1 [.sl (c+1) 0 L.length false,(h0 v48)] σ) σ λt95_73 l74 σ=>
 VV.dr (Xb 1 [t95_73,t94_72] σ) σ λ_ l75 σ=>
 VV.gd (Zi [[],[],[],[],[2,3],[2,3,4],[],[6],[6,7],[2,3,4,5,6,7,8],[],[10],[10,11],[2,3,4,5,6,7,8,9,10,11,12],[],[14],[14,15],[2,3,4,5,6,7,8,9,10,11,12,13,14,15,16],[0,1,2,3,4,5,6,7,8,9,10,11,12,13,14,15,16,17],[0,1,2,3,4,5,6,7,8,9,10,11,12,13,14,15,16,17,18]] [([],[]),([],[]),([],[]),([],[]),l55,l57,([],[]),l60,([],[]),([],[]),([],[]),l65,([],[]),([],[]),([],[]),l70,([],[]),([],[]),l74,l75]) <|
 VV.rd (Yi .add false [(h1 v48),(.int .i64 1)] σ) λt97_76=>
 k50 [t97_76] σ) (
 k50 [(h1 v48)] σ)) (λv51 σ=>
 VV.rd (Yi .add false [(h0 v48),(.int .i64 1)] σ) λt98_77=>
 ag47 [t98_77,(h0 v51)] σ)) ( K v48 σ)) [iv 0,iv k0] σ:=by
 have hlt:=Qy z1 (by simp);refine Qk (ι:=Nat) (λj vs σ'=>∃(L':List Int) (k:Nat),vs=[iv j,iv k]∧σ'=σ.set (c+1) (.rows 1 (L'.map cel))∧j≤L.length∧k≤oth.length∧Rng b.cards.length L L') (λj=>L.length-j) 0 ⟨L,k0,rfl,(Qcb z1 (by simp)).symm,by omega,hk,rfl,hr⟩ ?_;rintro j vs σ' again ⟨L',k,rfl,rfl,hj,hk,hR⟩ hag;refine Za rfl (Qb (λh=>?_) (λh=>?_));rotate_left
 ·have h:j=L.length:=by simp at h; omega
  subst h;exact hK L' k hR hk
 have h:j<L.length:=by simpa using h
 have hlen:=hR.1;have hb0:hget (σ.set (c+1) (.rows 1 (L'.map cel))) 0=.box (bkC b):=Xv z0 (by simp) (by omega);have hb1:hget (σ.set (c+1) (.rows 1 (L'.map cel))) (c+1)=.rows 1 (L'.map cel):=Qt _ hlt;refine Ql λkj hkj=>?_;have kk:∀(L2:List Int) (k2:Nat),Rng b.cards.length L L2→k2≤oth.length→kj [iv k2] (σ.set (c+1) (.rows 1 (L2.map cel))):=by
  intro L2 k2 q1 q2;rw[hkj];refine Za (Zk ..) ?_;rw[Yg (n:=j) (by omega)];exact hag (j+1) _ _ (by omega) ⟨L2,k2,rfl,rfl,by omega,q2,q1⟩
 clear hkj hag;refine Za (v:=iv oth.length) (rd:=[]) (by simp[Qe]) (Za rfl (Qb (λh2=>?_) (λh2=>kk _ _ hR hk)));have h2:k<oth.length:=by simpa[Ah.h1] using h2
 have hpos:0<b.cards.length:=by
  have:=hr _ (List.getElem_mem h); omega
 have m1:=Int.tmod_lt_of_pos oth[k] (show (0:Int)<b.cards.length by omega);have m2:-(b.cards.length:Int)<oth[k].tmod b.cards.length:=Int.lt_tmod_of_pos _ (by omega);refine Xj (Yo _ cel _ _ _ oth _ k h2) rfl (Xj (ldr rfl) rfl (Xg rfl (Xj (v:=cdV b.cards) (ld hb0 rfl) rfl (Xg (v:=iv b.cards.length) (by simp[Qe]) (Xg (YcF hpos) ?_)))));refine Xg rfl (Xj (v:=cdV b.cards) (ld hb0 rfl) rfl (Xg (v:=iv b.cards.length) (by simp[Qe]) (Xg (Zk ..) ?_)));rw[wrapI (by omega) (by omega)];refine Xg rfl (Xj (v:=cdV b.cards) (ld hb0 rfl) rfl (Xg (v:=iv b.cards.length) (by simp[Qe]) (Xg (YcF hpos) ?_)));have n1:=Int.tmod_nonneg (b.cards.length:Int) (show 0≤oth[k].tmod b.cards.length+b.cards.length by omega);have n2:=Int.tmod_lt_of_pos (oth[k].tmod b.cards.length+b.cards.length) (show (0:Int)<b.cards.length by omega);generalize (oth[k].tmod b.cards.length+b.cards.length).tmod b.cards.length=z at n1 n2 ⊢;refine Xj (v:=.ptr (c+1) j 0) (by have q:=ZcE _ (c+1) 0 L.length false 1 _ .i64 j h hb1; rwa [Nat.zero_add] at q) rfl ?_;refine Xj (Xb6 (m:=j) hb1 (by omega) z) (Yz _ (by simpa using hlt)) (Xx (by rfl) ?_);refine Za (Zk ..) ?_;rw[Yg (n:=k) (by omega)];rw[List.set_set];refine kk _ _ ⟨by simp[hlen],λx hx=>?_⟩ (by omega);rcases List.mem_or_eq_of_mem_set hx with hx|rfl
 ·exact hR.2 x hx
 ·exact⟨n1,n2⟩
end Go.Ah.Tz
end
section
namespace Go.Ah.Tz
open Go.Proofs.Tryz (prog)
set_option maxRecDepth 100000
attribute [local irreducible] Ans.rd Ans.pu Ans.wr Ans.dr Ans.gr Ans.gw Ans.gl Ans.gd Ans.opt joinK W
set_option maxHeartbeats 8000000
theorem c5(h30:PC 30 [] (.bool true))(b:Bk)(hf:bkFit b=true)(hsm:Yw b.cards)(s:St)(hs:StLe 2000000 s)(sd tg:Int)(x:Nm)(hx:nmFit x=true)(oth:List Int)(ho:oth.length≤1000000000) :
  PC 5 [bkV b,stV s,.agg [iv sd,iv tg],.agg (nmC x),rowV oth] (.bool true):=by
 have h67:=c67 b hf;have hs9:StLe 1000000000 s:=hs.mono (by decide);have hbk:b.cards.length≤1152921504606846975:=by
  simp only[bkFit,QF,Bool.and_eq_true,decide_eq_true_eq] at hf;have:=hf.1.1; rw[bigE] at this; omega
 refine Qc hP g5_ok rfl rfl ?_;unfold g5;refine Xf (v:=.bptr 0 0) (rd:=[]) (up:=[(0,.box (bkC b))]) rfl rfl ?_;refine Xf (v:=.bptr 1 0) (rd:=[]) (up:=[(1,.box (stC s))]) rfl rfl ?_;refine Xf (v:=.bptr 2 0) (rd:=[]) (up:=[(2,.box [iv sd,iv tg])]) rfl rfl ?_;refine Xf (v:=.bptr 3 0) (rd:=[]) (up:=[(3,.box (nmC x))]) (by rw[Qx]; rfl) rfl ?_;have ln:=nmLd x;refine Za rfl ?_;refine QC hP rfl g14_ok rfl (c14 b hf _ _ (λq=>?_));have hend:∀σ,VV.call (.call 30) [] σ λt44_18 σ=>(λ(v':AVal) (_:List ABlk)=>v'=.bool true) t44_18 σ:=λσ=>Yd h30 rfl g30_ok.plain rfl rfl;cases q with
 |true=>
  repeat first|refine Yb rfl ?_|refine Zc rfl ?_|refine Za rfl ?_
  exact Ze (hend _)
 |false=>
 refine Xa (Za rfl (Zb ?_));refine Yd (c15x s hs) rfl g15_ok.plain rfl ?_;by_cases hz:2000<sizeN s
 ·rw[decide_eq_true hz];repeat first|refine Yb rfl ?_|refine Zc rfl ?_|refine Za rfl ?_
  exact Ze (hend _)
 rw[decide_eq_false hz];refine Za rfl (Xa (Za rfl (Xa (Za rfl (Zb ?_)))));refine Yd (c16 b s hs9 _ _ h67) rfl g16_ok.plain rfl ?_;rcases YBE (mayR (bkR b).1 b s false) with hm|hm
 rotate_left
 ·rw[hm];refine Xa (Za rfl (Za rfl ?_));repeat first|refine Yb rfl ?_|refine Zc rfl ?_|refine Za rfl ?_
  exact Ze (hend _)
 rw[hm];refine Xa (Za rfl (Za rfl ?_));refine Xa (Za rfl (Xa (Za (ld (row:=[iv sd,iv tg]) (v:=iv sd) rfl rfl) (Xa (Za (v:=.bool (decide (sd<0))) rfl ?_)))));rcases YBE (decide (sd<0)) with h0|h0
 ·rw[h0];repeat first|refine Yb rfl ?_|refine Zc rfl ?_|refine Za rfl ?_
  exact Ze (hend _)
 rw[h0];refine Za rfl (Xa (Za rfl (Xa (Za (ld (row:=[iv sd,iv tg]) (v:=iv sd) rfl rfl) (Xa (Za (v:=.bool (decide (sd>1))) rfl ?_))))));rcases YBE (decide (sd>1)) with h1|h1
 ·rw[h1];repeat first|refine Yb rfl ?_|refine Zc rfl ?_|refine Za rfl ?_
  exact Ze (hend _)
 rw[h1];refine Za rfl (Xa (Za (ld (row:=nmC x) rfl ln) (Zb ?_)));refine Yd (c29 x hx) rfl g29_ok.plain (nmRo x) ?_;rcases YBE (decide (nmW x≤200)&&nmOk true x) with hn|hn
 rotate_left
 ·rw[hn];refine Xa (Za rfl (Za rfl (Ze (hend _))))
 rw[hn];refine Xa (Za rfl (Za rfl (Yh ?_)));have h0:0≤sd:=by simpa using h0
 have h1:sd≤1:=by simpa using h1
 simp only[Bool.and_eq_true,decide_eq_true_eq] at hn;obtain⟨hw,hok⟩:=hn;refine Za (ld (row:=stC s) (v:=stV s) rfl rfl) (w19 hs9 ?_);simp only[List.nil_append,List.cons_append,List.length_cons,List.length_nil,Nat.zero_add,Nat.reduceAdd];refine Xf (v:=.bptr 16 0) rfl rfl ?_;refine Xf (v:=.junk) (rd:=[]) (up:=[(16,.box (stO s 5))]) rfl rfl ?_;obtain⟨m1,m2,m3,m4⟩:=Ycm hm;have w1:IntKind.i64.wrap (0+1)=1:=by decide
 have w2:IntKind.i64.wrap (1+1)=2:=by decide
 refine YB 3 (Yj (Za rfl (Ze ?_)));refine Za rfl (Za rfl (Za rfl (Za (ld (row:=stO s 5) (v:=.sl 6 0 s.s0.deck.length false) rfl rfl) (Za rfl (Za rfl (Za rfl (Za (ld (row:=stO s 5) (v:=.sl 7 0 s.s0.hand.length false) rfl rfl) (Za rfl ?_))))))));refine YB 3 (Yj (Za rfl (Ze (Za (v:=.sl 6 0 s.s0.deck.length false) rfl (Za (v:=iv s.s0.deck.length) rfl ?_)))));refine lp5 b hbk oth ho (c:=5) hs9.s0.deck m1 (k0:=0) (Nat.zero_le _) rfl rfl (λD0 j1 R1 hj1=>?_)
 try simp only[List.set_cons_succ,List.set_cons_zero]
 refine Za rfl ?_;rw[w1];refine Yj (Za rfl (Ze (Za (v:=.sl 7 0 s.s0.hand.length false) rfl (Za (v:=iv s.s0.hand.length) rfl ?_))));refine lp5 b hbk oth ho (c:=6) hs9.s0.hand m2 (k0:=j1) hj1 rfl rfl (λH0 j2 R2 hj2=>?_)
 try simp only[List.set_cons_succ,List.set_cons_zero]
 refine Za rfl ?_;rw[w2];refine Yj (Za rfl (Yh ?_));refine Za rfl (Za rfl (Za rfl (Xf (v:=.junk) (rd:=[]) (up:=[(16,.box ((stO s 5).set 14 .nils))]) rfl rfl ?_)))
 try simp only[List.set_cons_succ,List.set_cons_zero]
 refine Za rfl ?_;rw[w1];refine Yj (Za rfl (Ze ?_));refine Za rfl (Za rfl (Za rfl (Za (ld (row:=(stO s 5).set 14 .nils) (v:=.sl 11 0 s.s1.deck.length false) rfl rfl) (Za rfl (Za rfl (Za rfl (Za (ld (row:=(stO s 5).set 14 .nils) (v:=.sl 12 0 s.s1.hand.length false) rfl rfl) (Za rfl ?_))))))));refine YB 3 (Yj (Za rfl (Ze (Za (v:=.sl 11 0 s.s1.deck.length false) rfl (Za (v:=iv s.s1.deck.length) rfl ?_)))));refine lp5 b hbk oth ho (c:=10) hs9.s1.deck m3 (k0:=j2) hj2 rfl rfl (λD1 j3 R3 hj3=>?_)
 try simp only[List.set_cons_succ,List.set_cons_zero]
 refine Za rfl ?_;rw[w1];refine Yj (Za rfl (Ze (Za (v:=.sl 12 0 s.s1.hand.length false) rfl (Za (v:=iv s.s1.hand.length) rfl ?_))));refine lp5 b hbk oth ho (c:=11) hs9.s1.hand m4 (k0:=j3) hj3 rfl rfl (λH1 j4 R4 hj4=>?_)
 try simp only[List.set_cons_succ,List.set_cons_zero]
 refine Za rfl ?_;rw[w2];refine Yj (Za rfl (Yh ?_));refine Za rfl (Za rfl (Za rfl (Xf (v:=.junk) (rd:=[]) (up:=[(16,.box (((stO s 5).set 14 .nils).set 22 .nils))]) rfl rfl ?_)))
 try simp only[List.set_cons_succ,List.set_cons_zero]
 refine Za rfl ?_;rw[w2];refine Yj (Za rfl (Yh ?_));have hm2:=YbS hm R1 R2 R3 R4;have a1:=c31 b hf hsm s hs9 hm sd tg h0 h1 (Xbq hm sd) x hx hok hw;have hs2:StLe 1000000000 (repl s D0 H0 D1 H1):=⟨hs9.attack,⟨by show D0.length≤_; rw[R1.1]; exact hs9.s0.deck,by show H0.length≤_; rw[R2.1]; exact hs9.s0.hand,hs9.s0.grave,hs9.s0.units,by simp[repl]⟩,
  ⟨by show D1.length≤_; rw[R3.1]; exact hs9.s1.deck,by show H1.length≤_; rw[R4.1]; exact hs9.s1.hand,hs9.s1.grave,hs9.s1.units,by simp[repl]⟩⟩
 have a2:=c31 b hf hsm (repl s D0 H0 D1 H1) hs2 hm2 sd tg h0 h1 (Xbq hm2 sd) x hx hok hw;refine Za (ld (row:=bkC b) (v:=bkV b) rfl rfl) (Za (ld (row:=stC s) (v:=stV s) rfl rfl) (Za (ld (row:=[iv sd,iv tg]) rfl rfl) (Za (ld (row:=nmC x) rfl ln) ?_)));refine Yd a1 rfl g31_ok.plain (by have:=nmRo x; simpa[roL,AVal.ro] using this) (Za rfl (Za rfl ?_));refine Za (ld (row:=bkC b) (v:=bkV b) rfl rfl) (Za (ld (row:=((stO s 5).set 14 .nils).set 22 .nils) (v:=.agg (((stO s 5).set 14 .nils).set 22 .nils)) rfl rfl) (Za (ld (row:=[iv sd,iv tg]) rfl rfl) (Za (ld (row:=nmC x) rfl ln) ?_)));have roN:(AVal.agg (nmC x)).ro=true:=by have:=nmRo x; simpa[roL] using this
 refine XG (rd:=[5,6,7,8,9,10,11,12,13,14,15]) a2 rfl g31_ok.plain (.cons (Bor.ro rfl) <| .cons (SB.agg ?_) <| .cons (Bor.ro rfl) <| .cons (Bor.ro roN) .nil) rfl ?_
 ·exact SB.mk (s:=repl s D0 H0 D1 H1) (RI.own (b:=5) rfl (by decide) rfl) (RI.own (b:=6) rfl (by decide) R1.1.symm) (RI.own (b:=7) rfl (by decide) R2.1.symm) (RI.own (b:=8) rfl (by decide) rfl) (RT.own (b:=9) rfl (by decide) rfl) RI.nils (RI.own (b:=11) rfl (by decide) R3.1.symm) (RI.own (b:=12) rfl (by decide) R4.1.symm) (RI.own (b:=13) rfl (by decide) rfl) (RT.own (b:=14) rfl (by decide) rfl) RI.nils
 refine Za rfl (Za rfl (Za (v:=.bool true) rfl (Xa (Za rfl (Xa (Za (v:=.bool true) rfl (Za (v:=.bool true) rfl ?_)))))));refine Xa (Za (ld (row:=nmC x) rfl ln) (Zb ?_));refine Yd (c32 x hx) rfl g32_ok.plain (nmRo x) (Xa (Za rfl ?_));have bd:=Qbf b s sd tg x;have fin:∀σ,VV.gr (.bool true) true (λk=>VV.rd (Qh [iv (numF b s sd tg x)] σ) k) λt137_109=>
   VV.gr (.bool true) true (λk=>VV.rd (Yi .geq false [t137_109,(.int .i64 (-1000000))] σ) k) λt138_110=>
   VV.rd (Zn [.bool true,t138_110,(.bool false)] σ) λt139_111=>
   VV.gr t139_111 true (λk=>VV.rd (Qh [iv (numF b s sd tg x)] σ) k) λt141_112=>
   VV.gr t139_111 true (λk=>VV.rd (Yi .leq false [t141_112,(.int .i64 1000000)] σ) k) λt142_113=>
   VV.rd (Zn [t139_111,t142_113,(.bool false)] σ) λt143_114=>
   VV.gw t143_114 true (λk=>VV.call (.call 30) [] σ k) σ λt145_115 σ=>
   VV.rd (Zn [t143_114,t145_115,(.bool false)] σ) λt146_116=>t146_116=.bool true:=by
  intro σ;refine Xa (Za rfl (Xa (Za (v:=.bool (decide (numF b s sd tg x ≥ -1000000))) rfl ?_)));rw[show decide (numF b s sd tg x ≥ -1000000)=true from decide_eq_true bd.1];refine Za rfl (Xa (Za rfl (Xa (Za (v:=.bool (decide (numF b s sd tg x≤1000000))) rfl ?_))));rw[show decide (numF b s sd tg x≤1000000)=true from decide_eq_true bd.2];exact Za rfl (Zb (Yd h30 rfl g30_ok.plain rfl (Za rfl rfl)))
 cases ht:topB x with
 |true=>exact Yb rfl (Yb rfl (Yb rfl (Xa (Za rfl (Za rfl (fin _))))))
 |false=>
  have he:=Za5 R1.1 R2.1 R3.1 R4.1 b sd tg _ x (Nat.le_refl _) ht;rw[he];refine Xa (Za rfl (Xa (Za rfl (Xa (Za (v:=.bool (numF b s sd tg x==numF b s sd tg x)) rfl ?_)))));rw[beq_self_eq_true];exact Xa (Za rfl (Za rfl (fin _)))
end Go.Ah.Tz
end
section
namespace Go.Ah.Tz
open Go.Proofs.Tryz (prog)
set_option maxRecDepth 100000
def tb30:GT:=(.node 206 1 g206 (.node 150 1 g150 (.node 114 1 g114 (.node 77 2 g77 (.node 59 1 g59 (.node 56 2 g56 (.node 55 2 g55 (.node 54 3 g54 .leaf .leaf) .leaf) (.node 57 1 g57 .leaf .leaf)) (.node 75 3 g75 (.node 71 2 g71 (.node 67 1 g67 .leaf .leaf) .leaf) (.node 76 1 g76 .leaf .leaf))) (.node 110 1 g110 (.node 82 3 g82 (.node 80 3 g80 (.node 78 1 g78 .leaf .leaf) .leaf) (.node 96 1 g96 .leaf .leaf)) (.node 112 1 g112 (.node 111 3 g111 .leaf .leaf) (.node 113 1 g113 .leaf .leaf)))) (.node 130 1 g130 (.node 121 1 g121 (.node 119 2 g119 (.node 118 2 g118 (.node 115 2 g115 .leaf .leaf) .leaf) (.node 120 2 g120 .leaf .leaf)) (.node 124 1 g124 (.node 122 1 g122 .leaf .leaf) (.node 125 2 g125 .leaf .leaf))) (.node 146 2 g146 (.node 144 4 g144 (.node 143 1 g143 (.node 142 1 g142 .leaf .leaf) .leaf) (.node 145 2 g145 .leaf .leaf)) (.node 148 2 g148 (.node 147 1 g147 .leaf .leaf) (.node 149 1 g149 .leaf .leaf))))) (.node 188 3 g188 (.node 179 1 g179 (.node 155 2 g155 (.node 153 2 g153 (.node 152 2 g152 (.node 151 2 g151 .leaf .leaf) .leaf) (.node 154 2 g154 .leaf .leaf)) (.node 157 3 g157 (.node 156 2 g156 .leaf .leaf) (.node 178 1 g178 .leaf .leaf))) (.node 184 1 g184 (.node 182 1 g182 (.node 181 1 g181 (.node 180 1 g180 .leaf .leaf) .leaf) (.node 183 1 g183 .leaf .leaf)) (.node 186 2 g186 (.node 185 2 g185 .leaf .leaf) (.node 187 1 g187 .leaf .leaf)))) (.node 197 1 g197 (.node 193 2 g193 (.node 191 1 g191 (.node 190 2 g190 (.node 189 2 g189 .leaf .leaf) .leaf) (.node 192 1 g192 .leaf .leaf)) (.node 195 2 g195 (.node 194 1 g194 .leaf .leaf) (.node 196 2 g196 .leaf .leaf))) (.node 202 1 g202 (.node 200 1 g200 (.node 199 0 g199 (.node 198 1 g198 .leaf .leaf) .leaf) (.node 201 2 g201 .leaf .leaf)) (.node 204 3 g204 (.node 203 2 g203 .leaf .leaf) (.node 205 1 g205 .leaf .leaf)))))) (.node 251 1 g251 (.node 231 1 g231 (.node 222 2 g222 (.node 211 2 g211 (.node 209 1 g209 (.node 208 2 g208 (.node 207 1 g207 .leaf .leaf) .leaf) (.node 210 1 g210 .leaf .leaf)) (.node 213 2 g213 (.node 212 1 g212 .leaf .leaf) (.node 221 2 g221 .leaf .leaf))) (.node 227 1 g227 (.node 225 1 g225 (.node 224 2 g224 (.node 223 1 g223 .leaf .leaf) .leaf) (.node 226 2 g226 .leaf .leaf)) (.node 229 0 g229 (.node 228 3 g228 .leaf .leaf) (.node 230 1 g230 .leaf .leaf)))) (.node 242 1 g242 (.node 238 2 g238 (.node 236 2 g236 (.node 235 2 g235 (.node 232 1 g232 .leaf .leaf) .leaf) (.node 237 2 g237 .leaf .leaf)) (.node 240 3 g240 (.node 239 2 g239 .leaf .leaf) (.node 241 1 g241 .leaf .leaf))) (.node 247 1 g247 (.node 245 2 g245 (.node 244 2 g244 (.node 243 2 g243 .leaf .leaf) .leaf) (.node 246 1 g246 .leaf .leaf)) (.node 249 1 g249 (.node 248 1 g248 .leaf .leaf) (.node 250 2 g250 .leaf .leaf))))) (.node 290 1 g290 (.node 260 1 g260 (.node 256 1 g256 (.node 254 1 g254 (.node 253 2 g253 (.node 252 1 g252 .leaf .leaf) .leaf) (.node 255 2 g255 .leaf .leaf)) (.node 258 0 g258 (.node 257 1 g257 .leaf .leaf) (.node 259 2 g259 .leaf .leaf))) (.node 265 1 g265 (.node 263 0 g263 (.node 262 1 g262 (.node 261 3 g261 .leaf .leaf) .leaf) (.node 264 1 g264 .leaf .leaf)) (.node 269 1 g269 (.node 266 1 g266 .leaf .leaf) (.node 289 2 g289 .leaf .leaf)))) (.node 299 2 g299 (.node 295 2 g295 (.node 293 1 g293 (.node 292 0 g292 (.node 291 1 g291 .leaf .leaf) .leaf) (.node 294 2 g294 .leaf .leaf)) (.node 297 2 g297 (.node 296 2 g296 .leaf .leaf) (.node 298 2 g298 .leaf .leaf))) (.node 304 2 g304 (.node 302 2 g302 (.node 301 2 g301 (.node 300 2 g300 .leaf .leaf) .leaf) (.node 303 2 g303 .leaf .leaf)) (.node 306 2 g306 (.node 305 2 g305 .leaf .leaf) (.node 307 2 g307 .leaf .leaf)))))))
theorem Xcw:tb30.Ok prog GL0:=⟨g206_ok,⟨g150_ok,⟨g114_ok,⟨g77_ok,⟨g59_ok,⟨g56_ok,⟨g55_ok,⟨g54_ok,trivial,trivial⟩,trivial⟩,⟨g57_ok,trivial,trivial⟩⟩,⟨g75_ok,⟨g71_ok,⟨g67_ok,trivial,trivial⟩,trivial⟩,⟨g76_ok,trivial,trivial⟩⟩⟩,⟨g110_ok,⟨g82_ok,⟨g80_ok,⟨g78_ok,trivial,trivial⟩,trivial⟩,⟨g96_ok,trivial,trivial⟩⟩,⟨g112_ok,⟨g111_ok,trivial,trivial⟩,⟨g113_ok,trivial,trivial⟩⟩⟩⟩,⟨g130_ok,⟨g121_ok,⟨g119_ok,⟨g118_ok,⟨g115_ok,trivial,trivial⟩,trivial⟩,⟨g120_ok,trivial,trivial⟩⟩,⟨g124_ok,⟨g122_ok,trivial,trivial⟩,⟨g125_ok,trivial,trivial⟩⟩⟩,⟨g146_ok,⟨g144_ok,⟨g143_ok,⟨g142_ok,trivial,trivial⟩,trivial⟩,⟨g145_ok,trivial,trivial⟩⟩,⟨g148_ok,⟨g147_ok,trivial,trivial⟩,⟨g149_ok,trivial,trivial⟩⟩⟩⟩⟩,⟨g188_ok,⟨g179_ok,⟨g155_ok,⟨g153_ok,⟨g152_ok,⟨g151_ok,trivial,trivial⟩,trivial⟩,⟨g154_ok,trivial,trivial⟩⟩,⟨g157_ok,⟨g156_ok,trivial,trivial⟩,⟨g178_ok,trivial,trivial⟩⟩⟩,⟨g184_ok,⟨g182_ok,⟨g181_ok,⟨g180_ok,trivial,trivial⟩,trivial⟩,⟨g183_ok,trivial,trivial⟩⟩,⟨g186_ok,⟨g185_ok,trivial,trivial⟩,⟨g187_ok,trivial,trivial⟩⟩⟩⟩,⟨g197_ok,⟨g193_ok,⟨g191_ok,⟨g190_ok,⟨g189_ok,trivial,trivial⟩,trivial⟩,⟨g192_ok,trivial,trivial⟩⟩,⟨g195_ok,⟨g194_ok,trivial,trivial⟩,⟨g196_ok,trivial,trivial⟩⟩⟩,⟨g202_ok,⟨g200_ok,⟨g199_ok,⟨g198_ok,trivial,trivial⟩,trivial⟩,⟨g201_ok,trivial,trivial⟩⟩,⟨g204_ok,⟨g203_ok,trivial,trivial⟩,⟨g205_ok,trivial,trivial⟩⟩⟩⟩⟩⟩,⟨g251_ok,⟨g231_ok,⟨g222_ok,⟨g211_ok,⟨g209_ok,⟨g208_ok,⟨g207_ok,trivial,trivial⟩,trivial⟩,⟨g210_ok,trivial,trivial⟩⟩,⟨g213_ok,⟨g212_ok,trivial,trivial⟩,⟨g221_ok,trivial,trivial⟩⟩⟩,⟨g227_ok,⟨g225_ok,⟨g224_ok,⟨g223_ok,trivial,trivial⟩,trivial⟩,⟨g226_ok,trivial,trivial⟩⟩,⟨g229_ok,⟨g228_ok,trivial,trivial⟩,⟨g230_ok,trivial,trivial⟩⟩⟩⟩,⟨g242_ok,⟨g238_ok,⟨g236_ok,⟨g235_ok,⟨g232_ok,trivial,trivial⟩,trivial⟩,⟨g237_ok,trivial,trivial⟩⟩,⟨g240_ok,⟨g239_ok,trivial,trivial⟩,⟨g241_ok,trivial,trivial⟩⟩⟩,⟨g247_ok,⟨g245_ok,⟨g244_ok,⟨g243_ok,trivial,trivial⟩,trivial⟩,⟨g246_ok,trivial,trivial⟩⟩,⟨g249_ok,⟨g248_ok,trivial,trivial⟩,⟨g250_ok,trivial,trivial⟩⟩⟩⟩⟩,⟨g290_ok,⟨g260_ok,⟨g256_ok,⟨g254_ok,⟨g253_ok,⟨g252_ok,trivial,trivial⟩,trivial⟩,⟨g255_ok,trivial,trivial⟩⟩,⟨g258_ok,⟨g257_ok,trivial,trivial⟩,⟨g259_ok,trivial,trivial⟩⟩⟩,⟨g265_ok,⟨g263_ok,⟨g262_ok,⟨g261_ok,trivial,trivial⟩,trivial⟩,⟨g264_ok,trivial,trivial⟩⟩,⟨g269_ok,⟨g266_ok,trivial,trivial⟩,⟨g289_ok,trivial,trivial⟩⟩⟩⟩,⟨g299_ok,⟨g295_ok,⟨g293_ok,⟨g292_ok,⟨g291_ok,trivial,trivial⟩,trivial⟩,⟨g294_ok,trivial,trivial⟩⟩,⟨g297_ok,⟨g296_ok,trivial,trivial⟩,⟨g298_ok,trivial,trivial⟩⟩⟩,⟨g304_ok,⟨g302_ok,⟨g301_ok,⟨g300_ok,trivial,trivial⟩,trivial⟩,⟨g303_ok,trivial,trivial⟩⟩,⟨g306_ok,⟨g305_ok,trivial,trivial⟩,⟨g307_ok,trivial,trivial⟩⟩⟩⟩⟩⟩⟩
end Go.Ah.Tz
end
section
namespace Go.Ah.Tz
open Go.Proofs.Tryz (prog)
set_option maxRecDepth 1000000
theorem hT30:∀f np g,tb30.get f=some (np,g)→GQ f np g:=GT.get_ok Xcw
@[reducible] def bk30:List AVal:=[(.rsl false false 12 [[(.str [73,109,112]),(.bool true),(.int .i64 1),(.int .i64 2),(.int .i64 2),(.int .i64 0),(.int .i64 0),(.int .i64 0),.nils,.nils,.nils,(.int .i64 0)]]),.nils]
@[reducible] def st30:List AVal:=[iv 1,iv 0,iv8 0,.bool false,iv8 0,.nils,iv 9,iv 20,iv 0,iv 0,.nils,.nils,.nils,.nils,.nils,iv 5,iv 0,iv 0,.nils,.rsl true false 1 [[iv 0]],.nils,.rsl true false 4 [[iv 1,iv 0,iv 0,.bool false],[iv 2,iv 0,iv 0,.bool false],[iv 3,iv 0,iv 0,.bool false]],.nils]
@[reducible] def zr30:List AVal:=[iv8 0,iv 0,iv8 0,.nils]
@[reducible] def xr30:List AVal:=[iv8 8,iv 0,iv8 0,.rsl true false 4 [[iv8 1,iv 0,iv8 0,.nils],[iv8 10,iv 0,iv8 0,.rsl true false 4 [[iv8 0,iv 2,iv8 0,.nils],[iv8 4,iv 0,iv8 1,.nils]]]]]
@[reducible] def cr30:List AVal:=[iv8 6,iv8 1,.str [73,109,112],.nils,.nils]
@[reducible] def as30:AVal:=.rptr [.rptr bk30 0,.rptr st30 0,iv 0,iv (-1)] 0
theorem p78:PC 78 [.str [99,97,114,100,32,73,109,112,32,117,110,105,116,32,49,32,50,47,50,32,123,32,125]] (.tup [.agg bk30,.agg [iv 0,iv 0]]):=XM hP hT30 (much:=1000000000) 60 (by kernel_rfl)
theorem p55s:PC 55 [.agg bk30,.agg st30] (iv 0):=XM hP hT30 (much:=1000000000) 60 (by kernel_rfl)
theorem p289z:PC 289 [.agg [.rptr zr30 0],as30] (.iface 3 (iv 0)):=XM hP hT30 (much:=1000000000) 60 (by kernel_rfl)
theorem p289x:PC 289 [.agg [.rptr xr30 0],as30] (.iface 3 (iv 26)):=XM hP hT30 (much:=1000000000) 60 (by kernel_rfl)
theorem p307:PC 307 [.agg [.rptr cr30 0],as30] (.iface 4 (.bool true)):=XM hP hT30 (much:=1000000000) 60 (by kernel_rfl)
theorem p82x:PC 82 [.rptr xr30 0,.nilp,.rptr bk30 0] (.bool true):=XM hP hT30 (much:=1000000000) 60 (by kernel_rfl)
theorem p82c:PC 82 [.nilp,.rptr cr30 0,.rptr bk30 0] (.bool true):=XM hP hT30 (much:=1000000000) 60 (by kernel_rfl)
theorem p80:PC 80 [.agg st30,.agg [iv 0,iv 2],iv8 2] (.tup [iv 2,iv 1,.bool true]):=XM hP hT30 (much:=1000000000) 60 (by kernel_rfl)
theorem ask184(v:Value)(args:Array Value)(w:World):(callMethod (.iface 184 v) "baize/value.ask" args).run prog w=.ok (.enter 307 (#[v]++args)) w:=by kernel_rfl
theorem g81_pl:Ym prog 81=true:=by kernel_rfl
attribute [local irreducible] Ans.rd Ans.pu Ans.wr Ans.dr Ans.gr Ans.gw Ans.gl Ans.gd Ans.opt joinK W
set_option maxHeartbeats 8000000
theorem XaU(sd tg:Int)(v:AVal){K R:List AVal→List ABlk→Prop}
 (hK:0≤sd→sd≤1→K [.rptr bk30 0,.rptr st30 0,v,.bptr 0 0,.bptr 1 0,.bptr 2 0] [.box [iv sd,iv tg],.box [.nili],.box [iv 0],.box st30])
 (hR:¬(0≤sd∧sd≤1)→R [.bptr 1 0,.bptr 2 0] [.box [iv sd,iv tg],.box [.nili],.box [iv 2],.box st30]) :
  pre81 VV (.rptr bk30 0) (.rptr st30 0) (.agg [iv sd,iv tg]) v [] K R:=by
 unfold pre81;refine Xf (v:=.bptr 0 0) (rd:=[]) (up:=[(0,.box [iv sd,iv tg])]) rfl rfl (Xf (v:=.bptr 1 0) rfl rfl (Xf (v:=.bptr 2 0) rfl rfl (Za rfl (Za (ldr (row:=st30) rfl) (Xf (v:=.bptr 3 0) rfl rfl (Xf (v:=.junk) (up:=[(3,.box st30)]) (rd:=[]) rfl rfl ?_))))));refine Za rfl (Za (ld (row:=st30) rfl rfl) (Za (v:=.bool false) rfl ?_));refine Yb rfl (Yb rfl (Yb rfl (Yb rfl (Za (v:=.bool false) rfl (XH (Yh ?_))))));refine Xg rfl (Xj (v:=.agg bk30) (ldr (row:=bk30) rfl) rfl (Xj (v:=.agg st30) (ld (row:=st30) rfl rfl) rfl (Zh p55s rfl g55_ok.plain rfl (Xg (v:=.bool false) rfl ?_))));refine Xa (Xg rfl (Xa (Xg rfl (Xa (Xg rfl (YaW (Xj (v:=iv8 0) (ldr (row:=st30) rfl) rfl (Xa (Xg (v:=.bool false) rfl (Xa (Xg rfl ?_)))))))))));refine Yb rfl (Yb rfl (Yb rfl (Qbt rfl (Yb rfl (Xa (Xg rfl (Xg rfl (Xx (by kernel_rfl) (Yh ?_)))))))));refine Za rfl (Za (ld (row:=[iv sd,iv tg]) (v:=iv sd) rfl rfl) (Za (v:=.bool (decide (sd<0))) rfl ?_));rcases YBE (decide (sd<0)) with h0|h0
 ·rw[h0];refine Yb rfl (Yb rfl (Yb rfl (Za rfl (Ze (Xf rfl rfl (Xf rfl rfl (hR ?_)))))));simp at h0; omega
 rw[h0];refine Xa (Za rfl (Xa (Za (ld (row:=[iv sd,iv tg]) (v:=iv sd) rfl rfl) (Xa (Za (v:=.bool (decide (sd>1))) rfl ?_)))));rcases YBE (decide (sd>1)) with h1|h1
 ·rw[h1];refine Za rfl (Ze (Xf rfl rfl (Xf rfl rfl (hR ?_))));simp at h1; omega
 rw[h1];exact Za rfl (Yh (hK (by simpa using h0) (by simpa using h1)))
theorem p81z:PC 81 [.rptr bk30 0,.rptr st30 0,.agg [iv 0,iv (-1)],.iface 143 (.agg [.rptr zr30 0])] (.tup [.iface 3 (iv 0),iv 0]):=
 c81G bk30 st30 0 (-1) 143 289 zr30 0 _ rfl rfl rfl ask143 (XaU 0 (-1) _ (λ_ _=>⟨rfl,rfl⟩) (λh=>h ⟨by decide,by decide⟩)) p289z
theorem p81x:PC 81 [.rptr bk30 0,.rptr st30 0,.agg [iv 0,iv (-1)],.iface 143 (.agg [.rptr xr30 0])] (.tup [.iface 3 (iv 26),iv 0]):=
 c81G bk30 st30 0 (-1) 143 289 xr30 0 _ rfl rfl rfl ask143 (XaU 0 (-1) _ (λ_ _=>⟨rfl,rfl⟩) (λh=>h ⟨by decide,by decide⟩)) p289x
theorem p81c:PC 81 [.rptr bk30 0,.rptr st30 0,.agg [iv 0,iv (-1)],.iface 184 (.agg [.rptr cr30 0])] (.tup [.iface 4 (.bool true),iv 0]):=
 c81G bk30 st30 0 (-1) 184 307 cr30 0 _ rfl rfl rfl ask184 (XaU 0 (-1) _ (λ_ _=>⟨rfl,rfl⟩) (λh=>h ⟨by decide,by decide⟩)) p307
theorem p81e:PC 81 [.rptr bk30 0,.rptr st30 0,.agg [iv 2,iv 0],.iface 143 (.agg [.rptr zr30 0])] (.tup [.nili,iv 2]):=
 c81R bk30 st30 2 0 _ 2 (XaU 2 0 _ (λ_ h=>absurd h (by decide)) (λ_=>⟨rfl,rfl⟩))
theorem p31x:PC 31 [.agg bk30,.agg st30,.agg [iv 0,iv (-1)],.agg xr30] (.tup [iv 26,iv 0]):=by
 refine Qc hP g31_ok rfl rfl ?_;unfold g31;repeat first|refine Za rfl ?_|refine Xf rfl rfl ?_
 refine Xo p81z rfl g81_pl rfl rfl ?_;refine Za rfl (Za rfl (Za rfl (Zb (Xo p82x rfl g82_ok.plain rfl rfl (Xa (Za rfl (Za rfl (Yh (Za rfl (XH (Ze ?_)))))))))));repeat first|refine Za rfl ?_|refine Xf rfl rfl ?_
 refine Xo p81x rfl g81_pl rfl rfl ?_;exact Za rfl (Za rfl (Za rfl (Yh (Za rfl rfl))))
theorem p31e:PC 31 [.agg bk30,.agg st30,.agg [iv 2,iv 0],.agg xr30] (.tup [iv 0,iv 2]):=by
 refine Qc hP g31_ok rfl rfl ?_;unfold g31;repeat first|refine Za rfl ?_|refine Xf rfl rfl ?_
 refine Xo p81e rfl g81_pl rfl rfl ?_;refine Za rfl (Za rfl (Za (v:=.bool false) rfl (Zc rfl (Yb rfl (Za rfl (Yh (Za (v:=.bool false) rfl (XH (Yh ?_)))))))));exact Za (v:=.bool true) rfl (Ze rfl)
theorem p79c:PC 79 [.agg bk30,.agg st30,.agg [iv 0,iv (-1)],.agg cr30] (.tup [.bool true,iv 0]):=by
 refine Qc hP g79_ok rfl rfl ?_;unfold g79;repeat first|refine Za rfl ?_|refine Xf rfl rfl ?_
 refine Xo p81z rfl g81_pl rfl rfl ?_;refine Za rfl (Za rfl (Za rfl (Zb (Xo p82c rfl g82_ok.plain rfl rfl (Xa (Za rfl (Za rfl (Yh (Za rfl (XH (Ze ?_)))))))))));repeat first|refine Za rfl ?_|refine Xf rfl rfl ?_
 refine Xo p81c rfl g81_pl rfl rfl ?_;exact Za rfl (Za rfl (Za rfl (Yh (Za rfl rfl))))
theorem p30:PC 30 [] (.bool true):=by
 refine Qc hP g30_ok rfl rfl ?_;unfold g30;refine Yd p78 rfl g78_ok.plain rfl ?_;repeat first|refine Za rfl ?_|refine Xf rfl rfl ?_
 refine Xo p31x rfl g31_ok.plain rfl rfl ?_;repeat first|refine Za rfl ?_|refine Xf rfl rfl ?_
 refine Xo p79c rfl g79_ok.plain rfl rfl ?_;repeat first|refine Za rfl ?_|refine Xf rfl rfl ?_
 refine Xo p80 rfl g80_ok.plain rfl rfl ?_;repeat first|refine Za rfl ?_|refine Xf rfl rfl ?_
 refine Xo p31e rfl g31_ok.plain rfl rfl ?_;repeat first|refine Xa (Za rfl ?_)|refine Za rfl ?_
 rfl
end Go.Ah.Tz
end
section
namespace Go.Proofs.YtflcpnaigpgciaaGreatDoor
open Go.ChangeShapes Go.WideShapes Go.ChangeAt Go.RowKit Go.Ah Go.Ah.Tz
set_option maxRecDepth 100000
theorem Zb3:Rows.valueHiddenUptoRow.laid=[("unicode.White_Space",Rows.laid_unicode_White_Space),("strings.asciiSpace",Lib.tabData .u8 spaces)]:=by kernel_rfl
theorem ZaX(H:Type)(enc:TypeId×Value→H)(W:World)(base:Nat)(args:Array Value)(ds gs:List (DataW H))(before:List MemPlace)
 (hval:∀(j:Nat) t v,Tryz.f5.params[j]?=some t→args[j]?=some v→Value.okWide Tryz.prog W .any base t v)
 (hW:DataW.Whole enc Tryz.prog Tryz.f5.params.toList Rows.valueHiddenSpec.vars false W args.toList ds gs before)(hk:Rows.uptoSmall H (ds++gs)=true)(hL:laidMetH Tryz.prog Rows.valueHiddenUptoRow.laid W) :
  Calls Tryz.prog 5 args W λe W'=>∃v,e=.returned v∧Rows.valueHiddenSpec.post enc Tryz.prog Tryz.f5 false true false false W args v W':=by
 have hW':=hW;have hlt:=hW.lt;obtain⟨p,q,hA0,hV,rfl,hfz,hnd⟩:=hW;have hA:DataW.TrodAll enc Tryz.prog W 0 (λ_=>true) true Tryz.f5.params.toList args.toList ds p:=hA0;rw[Tryz.params5] at hA hval;obtain⟨v0,vs,d0,ds,p0,p,hargs,rfl,rfl,h0,r⟩:=trodAll_cons hA;obtain⟨v1,vs,d1,ds,p1,p,rfl,rfl,rfl,h1,r⟩:=trodAll_cons r;obtain⟨v2,vs,d2,ds,p2,p,rfl,rfl,rfl,h2,r⟩:=trodAll_cons r;obtain⟨v3,vs,d3,ds,p3,p,rfl,rfl,rfl,h3,r⟩:=trodAll_cons r;obtain⟨v4,vs,d4,ds,p4,p,rfl,rfl,rfl,h4,r⟩:=trodAll_cons r;obtain⟨rfl,rfl,rfl⟩:=trodAll_nil r;obtain rfl:args = #[v0,v1,v2,v3,v4]:=by cases args; simp_all
 obtain⟨rfl,rfl⟩:=trodVars_none hV;have hbk:Rows.uptoBulkAll [d0,d1,d2,d3,d4]≤1048576:=of_decide_eq_true hk;simp only[Rows.uptoBulkAll] at hbk;obtain⟨b,hf,hsm,e0⟩:=ZcD (hval 0 _ v0 rfl rfl) h0 (by omega);obtain⟨s,hs,e1⟩:=Ycq (hval 1 _ v1 rfl rfl) h1 (by omega);obtain⟨m2,n2,e2⟩:=d_env (hval 2 _ v2 rfl rfl) h2;obtain⟨a3,l3,e3⟩:=d_num (hval 3 _ v3 rfl rfl) h3 (by omega);obtain⟨a4,l4,e4⟩:=d_row (hval 4 _ v4 rfl rfl) h4 (by omega);have hg:=Zcq Zb3 (show laidMet Tryz.prog Rows.valueHiddenUptoRow.laid W from hL);refine(c5 p30 b hf hsm s hs m2 n2 a3 l3 a4 l4 W (λk=>W.heap[k]?) [v0,v1,v2,v3,v4] (λ_ _ h=>h) hg ⟨e0,e1,e2,e3,e4,trivial⟩).mono ?_;rintro e W' ⟨u,rfl,hkeep,M',_,_,_,hd⟩;cases hd;have hb:=hkeep.below;refine⟨_,rfl,YaU (pa:=p0++(p1++(p2++(p3++(p4++[]))))) (pv:=[]) hW' (λ_ _ _=>trodAll_cons_mk (shut_bool Zba _) trodAll_mk0) (λsp hsp=>?_) (λ_ _=>rfl) rfl hb (ok_one (by kernel_rfl) rfl (okWide_bool_mk Zba _))⟩;rw[Tryz.params5];refine trodAll_cons_mk (Xay r_bk.1 r_bk.2 h0 hb hlt (λp hp=>by simp[hp]) hsp) <| trodAll_cons_mk (Xay r_st.1 r_st.2 h1 hb hlt (λp hp=>by simp[hp]) hsp) <| trodAll_cons_mk (Xay XcI.1 XcI.2 h2 hb hlt (λp hp=>by simp[hp]) hsp) <| trodAll_cons_mk (Xay r_nm.1 r_nm.2 h3 hb hlt (λp hp=>by simp[hp]) hsp) <| trodAll_cons_mk (Xay QcI.1 QcI.2 h4 hb hlt (λp hp=>by simp[hp]) hsp) trodAll_mk0
def Xaj:Array Value:=#[.agg #[.slice none 0 0,.slice none 0 0],.agg #[.int .i64 0,.int .i64 0,.int .i8 0,.bool false,.int .i8 0,.slice none 0 0,.int .i64 0,.int .i64 0,.int .i64 0,.int .i64 0,.slice none 0 0,.slice none 0 0,.slice none 0 0,.slice none 0 0,.slice none 0 0,.int .i64 0,.int .i64 0,.int .i64 0,.slice none 0 0,.slice none 0 0,.slice none 0 0,.slice none 0 0,.slice none 0 0],.agg #[.int .i64 0,.int .i64 0],.agg #[.int .i8 0,.int .i64 0,.int .i8 0,.slice none 0 0],.slice none 0 0]
theorem Xci(os:Os):laidMet Tryz.prog Rows.valueHiddenUptoRow.laid ((Qbc os).forCall (λ_ _=>0) ⟨#[],Xaj,[]⟩).memory:=
 laidMet_of_run' 8 (by kernel_rfl) (by kernel_rfl)
theorem QbE(os:Os){H:Type}(enc:TypeId×Value→H):∃places,DataW.whole enc Tryz.prog ((Qbc os).forCall (λ_ _=>0) ⟨#[],Xaj,[]⟩).memory Tryz.f5.params.toList Rows.valueHiddenSpec.vars false Xaj.toList 8 =
  some ([.agg [.nil,.nil],.agg [.lit (.int .i64 0),.lit (.int .i64 0),.lit (.int .i8 0),.lit (.bool false),.lit (.int .i8 0),.nil,.lit (.int .i64 0),.agg [.agg [.lit (.int .i64 0),.lit (.int .i64 0),.lit (.int .i64 0),.nil,.nil,.nil,.nil,.nil],.agg [.lit (.int .i64 0),.lit (.int .i64 0),.lit (.int .i64 0),.nil,.nil,.nil,.nil,.nil]]],.agg [.lit (.int .i64 0),.lit (.int .i64 0)],.agg [.lit (.int .i8 0),.lit (.int .i64 0),.lit (.int .i8 0),.nil],.nil],[],places):=⟨[],by kernel_rfl⟩
theorem Xbj(os:Os)(started:os.Started)(H:Type)(enc:TypeId×Value→H)(F:Stop.Interp) :
  ReturnsInHanded {} Tryz.checked os 5 .any ((Rows.OpenSpec.upto Rows.valueHiddenSpec).preRow enc Tryz.prog Tryz.f5 Rows.valueHiddenUptoRow.domain false Rows.valueHiddenUptoRow.laid) (((Rows.OpenSpec.upto Rows.valueHiddenSpec).at F).post enc Tryz.prog Tryz.f5 false true false false):=by
 obtain⟨places,hx⟩:=QbE os enc;refine returnsInHanded_of_row (C:=Tryz.checked) (s:=Rows.OpenSpec.upto Rows.valueHiddenSpec) d_own started (by kernel_rfl) Tryz.func5
  (witness_row_atRef (enc:=enc) (C:=Tryz.checked) false (Qbc os) Xaj rfl (by kernel_rfl) (by kernel_rfl) (by kernel_rfl)
   (OpenSpec.preRow_of_cond 8 hx (by kernel_rfl) (λk hk=>by cases hk; kernel_rfl) (by kernel_rfl) (Xci os))) ?_
 intro W base args ds gs before hval hW _ hcond _ hL _ _;exact ZaX H enc W base args ds gs before hval hW (hcond _ rfl) hL
theorem Zcy:Tryz.prog.funcNamed Rows.valueHiddenUptoRow.func=some 5:=by kernel_rfl
theorem Ycy:(Rows.valueHiddenUptoRow.wf (OpenSpec.ofChange (Rows.OpenSpec.upto Rows.valueHiddenSpec).bare))=true:=by kernel_rfl
theorem Xcy:(laidOutB Tryz.prog)=true:=by kernel_rfl
theorem Qcy:(mapsRowed Tryz.prog)=true:=by kernel_rfl
theorem Zcz:(Tryz.f5.params.all (Tryz.prog.readableRec ·))=true:=by kernel_rfl
theorem Ycz:(namedTie Tryz.prog Rows.valueHiddenUptoRow.named (Rows.OpenSpec.upto Rows.valueHiddenSpec).bare.vars)=true:=by kernel_rfl
theorem Xcz:(Rows.valueHiddenUptoRow.stops==[])=true:=by kernel_rfl
theorem Qcz:(Tryz.prog.stops==[])=true:=by kernel_rfl
theorem ZcA:(Rows.valueHiddenUptoRow.knobs==[])=true:=by kernel_rfl
theorem YcA:(Tryz.prog.stopKnobs==[])=true:=by kernel_rfl
theorem Qcc:(Rows.valueHiddenUptoRow.inPlace==Tryz.prog.inPlace 5)=true:=by kernel_rfl
theorem Zcd:(Rows.valueHiddenUptoRow.unfollowed==Tryz.prog.unfollowed 5)=true:=by kernel_rfl
theorem Ycd:(Rows.valueHiddenUptoRow.recurses==Tryz.prog.recurses 5)=true:=by kernel_rfl
theorem Xcd:(Rows.valueHiddenUptoRow.named==Tryz.prog.varsNamed 5)=true:=by kernel_rfl
theorem Qcd:(Rows.valueHiddenUptoRow.maps==(Tryz.f5.params.toList++(Rows.OpenSpec.upto Rows.valueHiddenSpec).bare.plain.varTypes Tryz.prog).any (Tryz.prog.mapsRec ·))=true:=by kernel_rfl
theorem Zce:(Rows.valueHiddenUptoRow.ifaces==(Tryz.f5.params.toList++(Rows.OpenSpec.upto Rows.valueHiddenSpec).bare.plain.varTypes Tryz.prog).any (Tryz.prog.ifacesRec ·))=true:=by kernel_rfl
theorem Yce:(Rows.valueHiddenUptoRow.mapsOut==Tryz.prog.mapsAmong Tryz.f5.resultTypes.toList)=true:=by kernel_rfl
theorem Xce:(Rows.valueHiddenUptoRow.loops==(Tryz.f5.params.toList++(Rows.OpenSpec.upto Rows.valueHiddenSpec).bare.plain.varTypes Tryz.prog).any (Tryz.prog.loopsFrom ·))=true:=by kernel_rfl
theorem Qce:(Rows.valueHiddenUptoRow.wideKeys==(Tryz.f5.params.toList++(Rows.OpenSpec.upto Rows.valueHiddenSpec).bare.plain.varTypes Tryz.prog++Tryz.f5.resultTypes.toList).any (Tryz.prog.wideKeysFrom ·))=true:=by kernel_rfl
theorem Zcf:((Rows.OpenSpec.upto Rows.valueHiddenSpec).bare.vars.all (Tryz.prog.varReadable ·))=true:=by kernel_rfl
theorem Ycf:(Tryz.f5.resultTypes.all (λt=>Tryz.prog.readableRec t&&decide (t<Tryz.prog.types.size)))=true:=by kernel_rfl
theorem Xcf:(Rows.valueHiddenUptoRow.ifacesOut==Tryz.f5.resultTypes.toList.any (Tryz.prog.ifacesRec ·))=true:=by kernel_rfl
theorem Qcf:(Rows.valueHiddenUptoRow.loopsOut==Tryz.f5.resultTypes.toList.any (Tryz.prog.loopsFrom ·))=true:=by kernel_rfl
theorem Zcg:(Rows.valueHiddenUptoRow.plainKeys==Tryz.prog.plainKeys)=true:=by kernel_rfl
theorem Ycg:(Rows.valueHiddenUptoRow.shortTexts.isNone)=true:=by kernel_rfl
theorem Xcg:(Tryz.prog.stopsHeard)=true:=by kernel_rfl
theorem Qcg:(Tryz.prog.mayEnter)=true:=by kernel_rfl
theorem Zch:(Rows.valueHiddenUptoRow.lifted==Tryz.prog.liftsFinal)=true:=by kernel_rfl
theorem Ych:(Tryz.prog.make==some Rows.valueHiddenUptoRow.make)=true:=by kernel_rfl
theorem Xch:(Rows.valueHiddenUptoRow.kinds==(if Rows.valueHiddenUptoRow.domain.isEmpty then [] else Tryz.f5.params.toList.map λt=>match Tryz.prog.underlying t with|some (.int k)=>some k|_=>none))=true:=by kernel_rfl
theorem Qch:(Rows.valueHiddenUptoRow.pinned==Rows.valueHiddenUptoRow.pinnedBy)=true:=by kernel_rfl
theorem Zci:(Rows.valueHiddenUptoRow.veiled==(Tryz.f5.params.toList++(Rows.OpenSpec.upto Rows.valueHiddenSpec).bare.plain.varTypes Tryz.prog++Tryz.f5.resultTypes.toList).any (Tryz.prog.veiledRec ·))=true:=by kernel_rfl
theorem Yci:(Rows.valueHiddenUptoRow.veiledFits Tryz.prog Tryz.f5.params.toList (Tryz.f5.params.toList++(Rows.OpenSpec.upto Rows.valueHiddenSpec).bare.plain.varTypes Tryz.prog++Tryz.f5.resultTypes.toList))=true:=by kernel_rfl
theorem Ybj:joinedFacts Tryz.prog 5 Tryz.f5 (Rows.OpenSpec.upto Rows.valueHiddenSpec).bare Rows.valueHiddenUptoRow=true:=(Zm (Zm (Zm (Zm (Zm (Zm (Zm (Zm (Zm (Zm (Zm (Zm (Zm (Zm (Zm (Zm (Zm (Zm (Zm (Zm (Zm (Zm (Zm (Zm (Zm (Zm (Zm (Zm (Zm (Zm (Zm Ycy Xcy) Qcy) Zcz) Ycz) Xcz) Qcz) ZcA) YcA) Qcc) Zcd) Ycd) Xcd) Qcd) Zce) Yce) Xce) Qce) Zcf) Ycf) Xcf) Qcf) Zcg) Ycg) Xcg) Qcg) Zch) Ych) Xch) Qch) Zci) Yci)
theorem Yb3:Rows.ValueHiddenUptoSaid:=
 OpenClaim.holds_of_cond 5 Tryz.f5 rfl rfl rfl rfl rfl rfl rfl ⟨rfl,rfl,rfl,rfl,rfl⟩ rfl rfl rfl rfl rfl Zcy Tryz.func5 Ybj
  (of_decide_eq_true (by kernel_rfl)) (by unfold Func.isWrapper; first|(rw[if_pos (by decide +kernel)]; kernel_rfl)|(rw[if_neg (by decide +kernel)]; exact⟨rfl,rfl⟩))
  (λos started H enc _ F=>by rw[OpenClaim.pre_eq_preRow]; exact Xbj os started H enc F)
theorem XbE(f:FuncId)(fn:Func)(hf:Tryz.pinned.checked.prog.funcNamed "baize/baizelaw19.ValueHidden" = some f)(hfn:Tryz.pinned.checked.prog.funcs[f]?=some fn) :
  true=Tryz.pinned.checked.prog.looks []∧∀(j:Nat) t,fn.params[j]?=some t→Tryz.pinned.checked.prog.wantsStandIn t=false:=by
 obtain rfl:f=5:=Option.some.inj ((show Tryz.prog.funcNamed "baize/baizelaw19.ValueHidden" = some 5 by kernel_rfl).symm.trans hf) |>.symm;obtain rfl:fn=Tryz.f5:=(Option.some.inj (Tryz.func5.symm.trans hfn)).symm;refine⟨by kernel_rfl,λj t ht=>?_⟩;rw[Tryz.params5] at ht;have hm:t∈[Zb1,Xb1,ZaF,Qbi,QK]:=by simpa using Array.mem_of_getElem? ht
 have hall:([Zb1,Xb1,ZaF,Qbi,QK].all λu=>!Tryz.prog.wantsStandIn u)=true:=by kernel_rfl
 exact(show Tryz.prog.wantsStandIn t=false by simpa using List.all_eq_true.1 hall t hm)
theorem valueHidden_upto_card:Rows.ValueHiddenUptoCardSaid:=
 Claim7.holds_tied_plain_at .later [] _ _ _ _ Yb3 (λ_ h=>by cases h) (by kernel_rfl) (λ_ h=>by cases h) valueHiddenUpto_row_tie rfl ⟨rfl,rfl⟩ (by kernel_rfl) rfl XbE (by kernel_rfl)
#print axioms valueHidden_upto_card
end Go.Proofs.YtflcpnaigpgciaaGreatDoor
end
