/- Part of the proof that FightAtOnce holds of the program for arguments that together hold at most 1048576 values and letters; no other condition. -/
import Derived.Test.YtflcpnaigpgciaaGreatDoorI3
set_option linter.all false
section
namespace Go.Ah.Tz
open Go.Proofs.Tryz (prog)
structure NmAt (row:List AVal) (j:Nat) (x:Nm):Prop where
 h0:partA false (j+0) 1 row=some (iv8 x.op)
 h1:partA false (j+1) 1 row=some (iv x.n)
 h2:partA false (j+2) 1 row=some (iv8 x.who)
 h3:partA false (j+3) 1 row=some (.rsl false false 4 (x.kids.map nmC))
theorem nmAt(x:Nm):NmAt (nmC x) 0 x:=by rw[QG]; exact⟨rfl,rfl,rfl,rfl⟩
theorem nmAt2(x:Ef):NmAt (efC x) 2 x.n:=by rw[YH]; exact⟨rfl,rfl,rfl,rfl⟩
attribute [local irreducible] Ans.rd Ans.pu Ans.wr Ans.dr Ans.gr Ans.gw Ans.gl Ans.gd Ans.opt joinK W
set_option maxHeartbeats 1000000
theorem c210(w:Int):PC 210 [iv8 w] (.bool (cntOp w)):=by
 refine Ze hP g210_ok rfl rfl ?_;unfold g210;refine Ya (Yi ..) ?_;refine Xn λk1 hk1=>?_;have kk:∀c,c=cntOp w→k1 [.bool c] []:=by
  rintro c hc;rw[hk1];refine Qc (λh=>?_) (λh=>?_)
  ·rw[←hc,h]
  ·rw[←hc,h]
 clear hk1;refine Qc (λa0=>kk _ ?_) (λa0=>?_)
 ·simp at a0; simp[cntOp,a0]
 refine Ya (Yi ..) (Qc (λa1=>kk _ ?_) (λa1=>?_))
 ·simp at a1; simp[cntOp,a1]
 refine Ya (Yi ..) (Qc (λa2=>kk _ ?_) (λa2=>?_))
 ·simp at a2; simp[cntOp,a2]
 refine Ya (Yi ..) (Qc (λa3=>kk _ ?_) (λa3=>?_))
 ·simp at a3; simp[cntOp,a3]
 refine Ya (Yi ..) (kk _ ?_);simp at a0 a1 a2 a3;simp[cntOp,a0,a1,a2,a3]
theorem c212(w:Int):PC 212 [iv8 w] (.bool (sdOp w)):=by
 refine Ze hP g212_ok rfl rfl ?_;unfold g212;refine Ya (Yi ..) ?_;rcases YBE (decide (w=0)) with h1|h1
 ·rw[h1];repeat first|refine Yb ?_|refine Yc ?_|refine Xb rfl ?_|refine Xf rfl ?_|refine Zi rfl ?_|refine Xi rfl ?_|refine Ya rfl ?_
  simp at h1; simp[sdOp,h1]
 rw[h1];repeat first|refine Yb ?_|refine Yc ?_|refine Ya rfl ?_
 have h1:w≠0:=by simpa using h1
 exact congrArg AVal.bool (by rw[Bool.eq_iff_iff]; simp[sdOp,h1])
theorem c211'(u:AVal)(t:Bool):∀(k:Nat) (x:Nm) (row:List AVal) (j:Nat),NmAt row j x→SizeOf.sizeOf x≤k→nmFit x=true→PC 211 [.rptr [u,.bool t] 0,.rptr row j] (.bool (nmOk t x))
 |0,x,_,_,_,h,_=>by cases x; simp at h
 |k+1,x,row,j,hx,hk,hf=>by
  refine Ze hP g211_ok rfl rfl ?_;unfold g211;rw[QcR];have hlen:=QaN hf;rw[bigE] at hlen;repeat first|refine Ya (ldr hx.h0) ?_|refine Ya (ldr hx.h1) ?_|refine Ya (ldr hx.h2) ?_|refine Ya (ldr hx.h3) ?_|refine Ya (Yi ..) ?_|refine Ya (ldr (row:=[u,.bool t]) rfl) ?_|refine Ya rfl ?_
  refine Xn λk11 hk11=>?_;have bad:∀b1 b2 b3:Bool,(b1&&(b2&&b3))=false→AVal.bool false=AVal.bool (b1&&(b2&&b3)):=by
   intro b1 b2 b3 h; rw[h]
  have kk:∀(p o:Bool) (kd:Nat),kd=nmK x.op→(0≤x.op∧x.op≤12)→(p&&o)=nmEnd t x.op x.n x.who→k11 [.bool p,.bool o,iv kd] []:=by
   rintro p o kd rfl hop hpo;rw[hk11]; clear hk11 k11;repeat first|refine Ya (ldr hx.h0) ?_|refine Ya (ldr hx.h1) ?_|refine Ya (ldr hx.h2) ?_|refine Ya (ldr hx.h3) ?_|refine Ya (Yi ..) ?_|refine Ya (ldr (row:=[u,.bool t]) rfl) ?_|refine Ya rfl ?_
   cases p with
   |false=>
    repeat first|refine Yb ?_|refine Yc ?_|refine Xb rfl ?_|refine Xf rfl ?_|refine Zi rfl ?_|refine Xi rfl ?_|refine Ya (ldr hx.h0) ?_|refine Ya (ldr hx.h1) ?_|refine Ya (ldr hx.h2) ?_|refine Ya (ldr hx.h3) ?_|refine Ya (Yi ..) ?_|refine Ya (ldr (row:=[u,.bool t]) rfl) ?_|refine Ya rfl ?_
    refine Zg (bad _ _ _ ?_);rw[←hpo]; simp
   |true=>
    repeat first|refine Yb ?_|refine Yc ?_|refine Ya (ldr hx.h0) ?_|refine Ya (ldr hx.h1) ?_|refine Ya (ldr hx.h2) ?_|refine Ya (ldr hx.h3) ?_|refine Ya (Yi ..) ?_|refine Ya (ldr (row:=[u,.bool t]) rfl) ?_|refine Ya rfl ?_
    cases o with
    |false=>
     repeat first|refine Yb ?_|refine Yc ?_|refine Xb rfl ?_|refine Xf rfl ?_|refine Zi rfl ?_|refine Xi rfl ?_|refine Ya (ldr hx.h0) ?_|refine Ya (ldr hx.h1) ?_|refine Ya (ldr hx.h2) ?_|refine Ya (ldr hx.h3) ?_|refine Ya (Yi ..) ?_|refine Ya (ldr (row:=[u,.bool t]) rfl) ?_|refine Ya rfl ?_
     refine Zg (bad _ _ _ ?_);rw[←hpo]; simp
    |true=>
     repeat first|refine Yb ?_|refine Yc ?_|refine Ya (ldr hx.h0) ?_|refine Ya (ldr hx.h1) ?_|refine Ya (ldr hx.h2) ?_|refine Ya (ldr hx.h3) ?_|refine Ya (Yi ..) ?_|refine Ya (ldr (row:=[u,.bool t]) rfl) ?_|refine Ya rfl ?_
     refine Qc (λh=>bad _ _ _ ?_) (λh=>?_)
     ·have:nmTop t x.op x.n x.who x.kids.length=false:=by
       rw[Bool.eq_false_iff]; intro hh; simp[nmTop] at hh; simp at h; omega
      rw[this]; rfl
     have ht:nmTop t x.op x.n x.who x.kids.length=true:=by simp at h; simp[nmTop]; omega
     rw[ht,←hpo,Bool.true_and,Bool.and_self,Bool.and_true];repeat first|refine Ya (ldr hx.h0) ?_|refine Ya (ldr hx.h1) ?_|refine Ya (ldr hx.h2) ?_|refine Ya (ldr hx.h3) ?_|refine Ya (Yi ..) ?_|refine Ya (ldr (row:=[u,.bool t]) rfl) ?_|refine Ya rfl ?_
     refine Xo (ι:=Nat) (λi vs σ=>vs=[iv i]∧σ=[]∧i≤x.kids.length∧nmsOk t x.kids=nmsOk t (x.kids.drop i)) (λi=>x.kids.length-i) 0 ⟨rfl,rfl,by omega,by simp⟩ ?_;rintro i vs σ again ⟨rfl,rfl,hi,hu⟩ hag;refine Ya rfl ?_;refine Qc (λh=>?_) (λh=>?_)
     ·have h:i<x.kids.length:=by simpa using h
      have hdr:x.kids.drop i=x.kids[i]::x.kids.drop (i+1):=by rw[YLD h]
      rw[hdr,nmsOk] at hu;have hm:x.kids[i]∈x.kids:=List.getElem_mem h;refine Ya rfl (Ya rfl (Ya (ldr hx.h3) (Ya (Qu _ nmC _ _ _ x.kids _ i h) ?_)));refine Ye (c211' u t k _ _ 0 (nmAt _) (by have:=Qbu hm; omega) (Xao hf hm)) rfl g211_ok.plain rfl ?_;refine Ya rfl ?_;refine Qc (λh4=>?_) (λh4=>?_)
      ·have h4:nmOk t x.kids[i]=false:=by simpa using h4
       rw[hu,h4]; rfl
      ·have h4:nmOk t x.kids[i]=true:=by simpa using h4
       rw[h4,Bool.true_and] at hu;refine Ya (Qn ..) ?_;rw[Xg (n:=i) (by omega)];exact hag (i+1) _ _ (by omega) ⟨rfl,rfl,by omega,hu⟩
     have h:i=x.kids.length:=by simp at h; omega
     subst h;rw[List.drop_length,nmsOk] at hu;rw[hu]
  clear hk11;repeat first|refine Ya (ldr hx.h0) ?_|refine Ya (ldr hx.h1) ?_|refine Ya (ldr hx.h2) ?_|refine Ya (ldr hx.h3) ?_|refine Ya (Yi ..) ?_|refine Ya (ldr (row:=[u,.bool t]) rfl) ?_|refine Ya rfl ?_
  refine Qc (λa0=>?_) (λa0=>?_)
  ·have a0:x.op=0:=by simpa using a0
   repeat first|refine Ya (ldr hx.h0) ?_|refine Ya (ldr hx.h1) ?_|refine Ya (ldr hx.h2) ?_|refine Ya (ldr hx.h3) ?_|refine Ya (Yi ..) ?_|refine Ya (ldr (row:=[u,.bool t]) rfl) ?_|refine Ya rfl ?_
   have e:nmEnd t x.op x.n x.who=((decide (0≤x.n)&&decide (x.n≤999))&&decide (x.who=0)):=by simp[nmEnd,a0,Bool.and_assoc]
   rcases YBE (decide (x.n ≥ 0)) with h|h
   ·rw[h];repeat first|refine Yb ?_|refine Yc ?_|refine Ya (ldr hx.h0) ?_|refine Ya (ldr hx.h1) ?_|refine Ya (ldr hx.h2) ?_|refine Ya (ldr hx.h3) ?_|refine Ya (Yi ..) ?_|refine Ya (ldr (row:=[u,.bool t]) rfl) ?_|refine Ya rfl ?_
    refine kk _ _ 0 (by simp[nmK,a0]) (by omega) ?_;simp at h; rw[e]; simp[h]
   ·rw[h];repeat first|refine Yb ?_|refine Yc ?_|refine Xb rfl ?_|refine Xf rfl ?_|refine Zi rfl ?_|refine Xi rfl ?_|refine Ya (ldr hx.h0) ?_|refine Ya (ldr hx.h1) ?_|refine Ya (ldr hx.h2) ?_|refine Ya (ldr hx.h3) ?_|refine Ya (Yi ..) ?_|refine Ya (ldr (row:=[u,.bool t]) rfl) ?_|refine Ya rfl ?_
    refine kk _ _ 0 (by simp[nmK,a0]) (by omega) ?_;simp at h; rw[e]; simp; intro h1; omega
  have a0:x.op≠0:=by simpa using a0
  repeat first|refine Ya (ldr hx.h0) ?_|refine Ya (ldr hx.h1) ?_|refine Ya (ldr hx.h2) ?_|refine Ya (ldr hx.h3) ?_|refine Ya (Yi ..) ?_|refine Ya (ldr (row:=[u,.bool t]) rfl) ?_|refine Ya rfl ?_
  refine Xn λk25 hk25=>?_;have m1:∀c,c=decide (x.op=1∨x.op=2∨x.op=3∨x.op=4)→k25 [.bool c] []:=by
   rintro c hc;rw[hk25]; clear hk25 k25;refine Qc (λh=>?_) (λh=>?_)
   ·rw[h] at hc;have a1:x.op=1∨x.op=2∨x.op=3∨x.op=4:=by simpa using hc.symm
    repeat first|refine Ya (ldr hx.h0) ?_|refine Ya (ldr hx.h1) ?_|refine Ya (ldr hx.h2) ?_|refine Ya (ldr hx.h3) ?_|refine Ya (Yi ..) ?_|refine Ya (ldr (row:=[u,.bool t]) rfl) ?_|refine Ya rfl ?_
    refine Ye (c212 _) rfl g212_ok.plain rfl ?_;refine kk _ _ 0 (by simp[nmK]; omega) (by omega) ?_;rw[nmEnd,if_neg a0,if_pos (by omega)]
   rw[h] at hc;have a1:¬(x.op=1∨x.op=2∨x.op=3∨x.op=4):=by simpa using hc.symm
   have e:nmEnd t x.op x.n x.who=(decide (x.n=0)&&(decide (x.who=0)&&(decide (x.op≠7)||t)))∨¬(0≤x.op∧x.op≤12):=by
    by_cases hr:0≤x.op∧x.op≤12
    ·left; rw[nmEnd,if_neg a0,if_neg (by omega)]
    ·right; exact hr
   repeat first|refine Ya (ldr hx.h0) ?_|refine Ya (ldr hx.h1) ?_|refine Ya (ldr hx.h2) ?_|refine Ya (ldr hx.h3) ?_|refine Ya (Yi ..) ?_|refine Ya (ldr (row:=[u,.bool t]) rfl) ?_|refine Ya rfl ?_
   refine Xn λk35 hk35=>?_;have m2:∀c,c=decide (x.op=5∨x.op=6)→k35 [.bool c] []:=by
    rintro c hc;rw[hk35]; clear hk35 k35;refine Qc (λh=>?_) (λh=>?_)
    ·rw[h] at hc;have a2:x.op=5∨x.op=6:=by simpa using hc.symm
     refine kk _ _ 0 (by simp[nmK]; omega) (by omega) ?_;rcases e with e|e
     ·rw[e]; simp[show x.op≠7 by omega]
     ·omega
    rw[h] at hc;have a2:¬(x.op=5∨x.op=6):=by simpa using hc.symm
    repeat first|refine Ya (ldr hx.h0) ?_|refine Ya (ldr hx.h1) ?_|refine Ya (ldr hx.h2) ?_|refine Ya (ldr hx.h3) ?_|refine Ya (Yi ..) ?_|refine Ya (ldr (row:=[u,.bool t]) rfl) ?_|refine Ya rfl ?_
    refine Qc (λa3=>?_) (λa3=>?_)
    ·have a3:x.op=7:=by simpa using a3
     rcases e with e|e
     ·rcases YBE (decide (x.who=0)) with h|h
      ·rw[h];repeat first|refine Yb ?_|refine Yc ?_|refine Ya (ldr hx.h0) ?_|refine Ya (ldr hx.h1) ?_|refine Ya (ldr hx.h2) ?_|refine Ya (ldr hx.h3) ?_|refine Ya (Yi ..) ?_|refine Ya (ldr (row:=[u,.bool t]) rfl) ?_|refine Ya rfl ?_
       refine kk _ _ 0 (by simp[nmK,a3]) (by omega) ?_;rw[e,h]; simp[a3]
      ·rw[h];repeat first|refine Yb ?_|refine Yc ?_|refine Xb rfl ?_|refine Xf rfl ?_|refine Zi rfl ?_|refine Xi rfl ?_|refine Ya (ldr hx.h0) ?_|refine Ya (ldr hx.h1) ?_|refine Ya (ldr hx.h2) ?_|refine Ya (ldr hx.h3) ?_|refine Ya (Yi ..) ?_|refine Ya (ldr (row:=[u,.bool t]) rfl) ?_|refine Ya rfl ?_
       refine kk _ _ 0 (by simp[nmK,a3]) (by omega) ?_;rw[e,h]; simp
     ·omega
    have a3:x.op≠7:=by simpa using a3
    repeat first|refine Ya (ldr hx.h0) ?_|refine Ya (ldr hx.h1) ?_|refine Ya (ldr hx.h2) ?_|refine Ya (ldr hx.h3) ?_|refine Ya (Yi ..) ?_|refine Ya (ldr (row:=[u,.bool t]) rfl) ?_|refine Ya rfl ?_
    refine Xn λk45 hk45=>?_;have m3:∀c,c=decide (x.op=8∨x.op=9∨x.op=10∨x.op=11∨x.op=12)→k45 [.bool c] []:=by
     rintro c hc;rw[hk45]; clear hk45 k45;refine Qc (λh=>?_) (λh=>?_)
     ·rw[h] at hc;have a4:x.op=8∨x.op=9∨x.op=10∨x.op=11∨x.op=12:=by simpa using hc.symm
      refine kk _ _ 2 (by simp[nmK]; omega) (by omega) ?_;rcases e with e|e
      ·rw[e]; simp[a3]
      ·omega
     ·rw[h] at hc;have a4:¬(x.op=8∨x.op=9∨x.op=10∨x.op=11∨x.op=12):=by simpa using hc.symm
      refine bad _ _ _ ?_;have:nmTop t x.op x.n x.who x.kids.length=false:=by
       rw[Bool.eq_false_iff]; intro hh; simp[nmTop] at hh; omega
      rw[this]; rfl
    clear hk45;refine Qc (λc1=>m3 _ ?_) (λc1=>?_)
    ·simp at c1; simp[c1]
    refine Ya (Yi ..) (Qc (λc2=>m3 _ ?_) (λc2=>?_))
    ·simp at c2; simp[c2]
    refine Ya (Yi ..) (Qc (λc3=>m3 _ ?_) (λc3=>?_))
    ·simp at c3; simp[c3]
    refine Ya (Yi ..) (Qc (λc4=>m3 _ ?_) (λc4=>?_))
    ·simp at c4; simp[c4]
    refine Ya (Yi ..) (m3 _ ?_);simp at c1 c2 c3 c4; simp[c1,c2,c3,c4]
   clear hk35;refine Qc (λc1=>m2 _ ?_) (λc1=>?_)
   ·simp at c1; simp[c1]
   refine Ya (Yi ..) (m2 _ ?_);simp at c1; simp[c1]
  clear hk25;refine Qc (λc1=>m1 _ ?_) (λc1=>?_)
  ·simp at c1; simp[c1]
  refine Ya (Yi ..) (Qc (λc2=>m1 _ ?_) (λc2=>?_))
  ·simp at c2; simp[c2]
  refine Ya (Yi ..) (Qc (λc3=>m1 _ ?_) (λc3=>?_))
  ·simp at c3; simp[c3]
  refine Ya (Yi ..) (m1 _ ?_);simp at c1 c2 c3; simp[c1,c2,c3]
theorem c211(u:AVal)(t:Bool)(x:Nm)(row:List AVal)(j:Nat)(hx:NmAt row j x)(hf:nmFit x=true):PC 211 [.rptr [u,.bool t] 0,.rptr row j] (.bool (nmOk t x)):=c211' u t _ x row j hx (Nat.le_refl _) hf
end Go.Ah.Tz
end
section
namespace Go.Ah.Tz
open Go.Proofs.Tryz (prog)
def tlook(t:Tx):List (Tx×Bool)→Option Bool
 |[]=>none
 |p::l=>if t==p.1 then some p.2 else tlook t l
def mpE(l:List (Tx×Bool)):List (AVal×AVal):=l.map λp=>(AVal.str p.1,AVal.bool p.2)
theorem Q3(t:Tx):∀l,alook (.str t) (mpE l)=some ((tlook t l).map AVal.bool)
 |[]=>rfl
 |p::l=>by
  simp only[mpE,List.map_cons,alook,keyEq,tlook];cases h:t==p.1 with
  |true=>rfl
  |false=>exact Q3 t l
def chkM(l:List (Tx×Bool))(t:Bool):List AVal:=[.rmap (mpE l),.bool t]
theorem XR(l:List (Tx×Bool))(t:Tx)(σ:List ABlk):Zq true true (.bool false) [.rmap (mpE l),.str t] σ=.ok (.tup [.bool ((tlook t l).getD false),.bool (tlook t l).isSome]) [] []:=by
 show (match alook (.str t) (mpE l) with
  |some r=>SRes.ok (lookV true (.bool false) r) [] []
  | none=>.stop)=_
 rw[Q3];cases tlook t l<;>rfl
theorem Xl(l:List (Tx×Bool))(t:Tx)(σ:List ABlk):Zq true false (.bool false) [.rmap (mpE l),.str t] σ=.ok (.bool ((tlook t l).getD false)) [] []:=by
 show (match alook (.str t) (mpE l) with
  |some r=>SRes.ok (lookV false (.bool false) r) [] []
  | none=>.stop)=_
 rw[Q3];cases tlook t l<;>rfl
def Units(l:List (Tx×Bool))(cs:List Cd):Prop:=∀t u,findC cs t u=match tlook t l with
 |none=>false
 |some b=>b || !u
structure CnAt (row:List AVal) (j:Nat) (x:Cn):Prop where
 h0:partA false (j+0) 1 row=some (iv8 x.op)
 h1:partA false (j+1) 1 row=some (iv8 x.who)
 h2:partA false (j+2) 1 row=some (.str x.name)
 h3:partA false (j+3) 1 row=some (.rsl false false 4 (x.nums.map nmC))
 h4:partA false (j+4) 1 row=some (.rsl false false 5 (x.kids.map cnC))
theorem cnAt(x:Cn):CnAt (cnC x) 0 x:=by rw[QX]; exact⟨rfl,rfl,rfl,rfl,rfl⟩
theorem cnAt7(x:Ef):CnAt (efC x) 7 x.c:=by rw[YH]; exact⟨rfl,rfl,rfl,rfl,rfl⟩
attribute [local irreducible] Ans.rd Ans.pu Ans.wr Ans.dr Ans.gr Ans.gw Ans.gl Ans.gd Ans.opt joinK W
set_option maxHeartbeats 1000000
theorem YcG{P:Program}{GL:Globs}{c d:Bool}{K:AVal→Prop}{r1:SRes}{f2 f3 f4 f5:AVal→SRes}{σ:List ABlk}{v1 v2 v3 v4:AVal}{q1 q2 q3 q4 q5:List Nat}(h1:r1=.ok v1 q1 [])(h2:f2 v1=.ok v2 q2 [])(h3:f3 v2=.ok v3 q3 [])(h4:f4 v3=.ok v4 q4 [])(h5:f5 v4=.ok (.bool d) q5 [])(hK:K (.bool (c&&d))) :
  (W P GL).gr (.bool c) true (λk=>(W P GL).rd r1 k) λt1=>(W P GL).gr (.bool c) true (λk=>(W P GL).rd (f2 t1) k) λt2=>(W P GL).gr (.bool c) true (λk=>(W P GL).rd (f3 t2) k) λt3=>(W P GL).gr (.bool c) true (λk=>(W P GL).rd (f4 t3) k) λt4=>(W P GL).gr (.bool c) true (λk=>(W P GL).rd (f5 t4) k) λt5=>(W P GL).rd (Zn [.bool c,t5,.bool false] σ) K:=by
 cases c with
 |true=>exact Yb (Ya h1 (Yb (Ya h2 (Yb (Ya h3 (Yb (Ya h4 (Yb (Ya h5 (Ya rfl hK))))))))))
 |false=>exact Xb rfl (Xb rfl (Xb rfl (Xb rfl (Xb rfl (Ya rfl hK)))))
theorem c213'(l:List (Tx×Bool))(cs:List Cd)(hU:Units l cs)(t:Bool):∀(k:Nat) (x:Cn) (row:List AVal) (j:Nat),CnAt row j x→SizeOf.sizeOf x≤k→cnFit x=true→PC 213 [.rptr (chkM l t) 0,.rptr row j] (.bool (cnOk cs t x))
 |0,x,_,_,_,h,_=>by cases x; simp at h
 |k+1,x,row,j,hx,hk,hf=>by
  refine Ze hP g213_ok rfl rfl ?_;unfold g213;rw[XcM];have hl1:=Yaa hf;have hl2:=Zaa hf;rw[bigE] at hl1 hl2;refine Ya rfl (Ya rfl (Ya (ldr hx.h1) (Ya (Yi ..) ?_)));refine YcG rfl rfl rfl (ldr hx.h2) (Xk ..) ?_;refine Ya rfl (Ya rfl (Ya (ldr hx.h0) ?_));have bad:∀b1 b2 b3 b4:Bool,(b1&&(b2&&(b3&&b4)))=false→AVal.bool false=AVal.bool (b1&&(b2&&(b3&&b4))):=by
   intro b1 b2 b3 b4 h; rw[h]
  have badT:¬(0≤x.op∧x.op≤6∧x.nums.length=cnK3 x.op∧x.kids.length=cnK4 x.op)→AVal.bool false=AVal.bool (cnTop x.op x.nums.length x.kids.length&&(nmsOk t x.nums&&(cnsOk cs t x.kids&&cnEnd cs x.op x.who x.name))):=by
   intro hn;have:cnTop x.op x.nums.length x.kids.length=false:=by
    rw[Bool.eq_false_iff]; intro hh; simp[cnTop] at hh; exact hn hh
   rw[this]; rfl
  refine Xn λk13 hk13=>?_;have kk:∀(ok:Bool) (k3 k4:Nat),k3=cnK3 x.op→k4=cnK4 x.op→(0≤x.op∧x.op≤6)→ok=cnEnd cs x.op x.who x.name→k13 [.bool ok,iv k3,iv k4] []:=by
   rintro ok k3 k4 rfl rfl hop hok;rw[hk13]; clear hk13 k13;repeat first|refine Ya (ldr hx.h0) ?_|refine Ya (ldr hx.h1) ?_|refine Ya (ldr hx.h2) ?_|refine Ya (ldr hx.h3) ?_|refine Ya (ldr hx.h4) ?_|refine Ya (Yi ..) ?_|refine Ya (Xk ..) ?_|refine Ya (ldr (row:=chkM l t) rfl) ?_|refine Ya (XR ..) ?_|refine Ya rfl ?_
   cases ok with
   |false=>
    repeat first|refine Yb ?_|refine Yc ?_|refine Xb rfl ?_|refine Xf rfl ?_|refine Zi rfl ?_|refine Xi rfl ?_|refine Ya (ldr hx.h0) ?_|refine Ya (ldr hx.h1) ?_|refine Ya (ldr hx.h2) ?_|refine Ya (ldr hx.h3) ?_|refine Ya (ldr hx.h4) ?_|refine Ya (Yi ..) ?_|refine Ya (Xk ..) ?_|refine Ya (ldr (row:=chkM l t) rfl) ?_|refine Ya (XR ..) ?_|refine Ya rfl ?_
    refine Zg (bad _ _ _ _ ?_);rw[←hok]; simp
   |true=>
    repeat first|refine Yb ?_|refine Yc ?_|refine Ya (ldr hx.h0) ?_|refine Ya (ldr hx.h1) ?_|refine Ya (ldr hx.h2) ?_|refine Ya (ldr hx.h3) ?_|refine Ya (ldr hx.h4) ?_|refine Ya (Yi ..) ?_|refine Ya (Xk ..) ?_|refine Ya (ldr (row:=chkM l t) rfl) ?_|refine Ya (XR ..) ?_|refine Ya rfl ?_
    rcases YBE (((x.nums.map nmC).length:Int) != (cnK3 x.op:Int)) with h3|h3
    ·rw[h3];repeat first|refine Yb ?_|refine Yc ?_|refine Xb rfl ?_|refine Xf rfl ?_|refine Zi rfl ?_|refine Xi rfl ?_|refine Ya (ldr hx.h0) ?_|refine Ya (ldr hx.h1) ?_|refine Ya (ldr hx.h2) ?_|refine Ya (ldr hx.h3) ?_|refine Ya (ldr hx.h4) ?_|refine Ya (Yi ..) ?_|refine Ya (Xk ..) ?_|refine Ya (ldr (row:=chkM l t) rfl) ?_|refine Ya (XR ..) ?_|refine Ya rfl ?_
     refine Zg (badT ?_);simp at h3; omega
    rw[h3];repeat first|refine Yb ?_|refine Yc ?_|refine Ya (ldr hx.h0) ?_|refine Ya (ldr hx.h1) ?_|refine Ya (ldr hx.h2) ?_|refine Ya (ldr hx.h3) ?_|refine Ya (ldr hx.h4) ?_|refine Ya (Yi ..) ?_|refine Ya (Xk ..) ?_|refine Ya (ldr (row:=chkM l t) rfl) ?_|refine Ya (XR ..) ?_|refine Ya rfl ?_
    refine Qc (λh4=>badT ?_) (λh4=>?_)
    ·simp at h4; omega
    simp at h3 h4;have ht:cnTop x.op x.nums.length x.kids.length=true:=by simp[cnTop]; omega
    rw[ht,←hok,Bool.true_and,Bool.and_true];repeat first|refine Ya (ldr hx.h0) ?_|refine Ya (ldr hx.h1) ?_|refine Ya (ldr hx.h2) ?_|refine Ya (ldr hx.h3) ?_|refine Ya (ldr hx.h4) ?_|refine Ya (Yi ..) ?_|refine Ya (Xk ..) ?_|refine Ya (ldr (row:=chkM l t) rfl) ?_|refine Ya (XR ..) ?_|refine Ya rfl ?_
    refine Xo (ι:=Nat) (λi vs σ=>vs=[iv i]∧σ=[]∧i≤x.nums.length∧nmsOk t x.nums=nmsOk t (x.nums.drop i)) (λi=>x.nums.length-i) 0 ⟨rfl,rfl,by omega,by simp⟩ ?_;rintro i vs σ again ⟨rfl,rfl,hi,hu⟩ hag;refine Ya rfl ?_;refine Qc (λh=>?_) (λh=>?_)
    ·have h:i<x.nums.length:=by simpa using h
     have hdr:x.nums.drop i=x.nums[i]::x.nums.drop (i+1):=by rw[YLD h]
     rw[hdr,nmsOk] at hu;have hm:x.nums[i]∈x.nums:=List.getElem_mem h;refine Ya rfl (Ya rfl (Ya (ldr hx.h3) (Ya (Qu _ nmC _ _ _ x.nums _ i h) ?_)));refine Ye (c211 _ t _ _ 0 (nmAt _) (Zam hf hm)) rfl g211_ok.plain rfl ?_;refine Ya rfl ?_;refine Qc (λh4=>?_) (λh4=>?_)
     ·have h4:nmOk t x.nums[i]=false:=by simpa using h4
      rw[hu,h4]; rfl
     ·have h4:nmOk t x.nums[i]=true:=by simpa using h4
      rw[h4,Bool.true_and] at hu;refine Ya (Qn ..) ?_;rw[Xg (n:=i) (by omega)];exact hag (i+1) _ _ (by omega) ⟨rfl,rfl,by omega,hu⟩
    have h:i=x.nums.length:=by simp at h; omega
    subst h;rw[List.drop_length,nmsOk] at hu;rw[hu,Bool.true_and];clear hag hu hi;repeat first|refine Ya (ldr hx.h0) ?_|refine Ya (ldr hx.h1) ?_|refine Ya (ldr hx.h2) ?_|refine Ya (ldr hx.h3) ?_|refine Ya (ldr hx.h4) ?_|refine Ya (Yi ..) ?_|refine Ya (Xk ..) ?_|refine Ya (ldr (row:=chkM l t) rfl) ?_|refine Ya (XR ..) ?_|refine Ya rfl ?_
    refine Xo (ι:=Nat) (λi vs s=>vs=[iv i]∧s=[]∧i≤x.kids.length∧cnsOk cs t x.kids=cnsOk cs t (x.kids.drop i)) (λi=>x.kids.length-i) 0 ⟨rfl,rfl,by omega,by simp⟩ ?_;rintro i vs s again ⟨rfl,rfl,hi,hu⟩ hag;refine Ya rfl ?_;refine Qc (λh=>?_) (λh=>?_)
    ·have h:i<x.kids.length:=by simpa using h
     have hdr:x.kids.drop i=x.kids[i]::x.kids.drop (i+1):=by rw[YLD h]
     rw[hdr,cnsOk] at hu;have hm:x.kids[i]∈x.kids:=List.getElem_mem h;refine Ya rfl (Ya rfl (Ya (ldr hx.h4) (Ya (Qu _ cnC _ _ _ x.kids _ i h) ?_)));refine Ye (c213' l cs hU t k _ _ 0 (cnAt _) (by have:=Ybq hm; omega) (Qal hf hm)) rfl g213_ok.plain rfl ?_;refine Ya rfl ?_;refine Qc (λh4=>?_) (λh4=>?_)
     ·have h4:cnOk cs t x.kids[i]=false:=by simpa using h4
      rw[hu,h4]; rfl
     ·have h4:cnOk cs t x.kids[i]=true:=by simpa using h4
      rw[h4,Bool.true_and] at hu;refine Ya (Qn ..) ?_;rw[Xg (n:=i) (by omega)];exact hag (i+1) _ _ (by omega) ⟨rfl,rfl,by omega,hu⟩
    have h:i=x.kids.length:=by simp at h; omega
    subst h;rw[List.drop_length,cnsOk] at hu;rw[hu]
  clear hk13;have e6:x.op≠6→(decide (x.who=0)&&(x.name==[]))=cnEnd cs x.op x.who x.name:=by
   intro h; rw[cnEnd,if_neg h]
  refine Ya (Yi ..) ?_;refine Xn λk1 hk1=>?_;have m1:∀c,c=decide (x.op=0∨x.op=1∨x.op=2)→k1 [.bool c] []:=by
   rintro c hc;rw[hk1]; clear hk1 k1;refine Qc (λh=>?_) (λh=>?_)
   ·rw[h] at hc;have a1:x.op=0∨x.op=1∨x.op=2:=by simpa using hc.symm
    exact kk _ 2 0 (by simp[cnK3]; omega) (by unfold cnK4; split<;>(try split)<;>omega) (by omega) (e6 (by omega))
   rw[h] at hc;have a1:¬(x.op=0∨x.op=1∨x.op=2):=by simpa using hc.symm
   refine Ya (Yi ..) (Qc (λa3=>?_) (λa3=>?_))
   ·have a3:x.op=3:=by simpa using a3
    exact kk _ 0 1 (by simp[cnK3]; omega) (by unfold cnK4; split<;>(try split)<;>omega) (by omega) (e6 (by omega))
   have a3:x.op≠3:=by simpa using a3
   refine Ya (Yi ..) ?_;refine Xn λk1 hk1=>?_;have m2:∀c,c=decide (x.op=4∨x.op=5)→k1 [.bool c] []:=by
    rintro c hc;rw[hk1]; clear hk1 k1;refine Qc (λh=>?_) (λh=>?_)
    ·rw[h] at hc;have a1:x.op=4∨x.op=5:=by simpa using hc.symm
     exact kk _ 0 2 (by simp[cnK3]; omega) (by unfold cnK4; split<;>(try split)<;>omega) (by omega) (e6 (by omega))
    rw[h] at hc;have a4:¬(x.op=4∨x.op=5):=by simpa using hc.symm
    refine Ya (Yi ..) (Qc (λa6=>?_) (λa6=>?_))
    ·have a6:x.op=6:=by simpa using a6
     repeat first|refine Ya (ldr hx.h0) ?_|refine Ya (ldr hx.h1) ?_|refine Ya (ldr hx.h2) ?_|refine Ya (ldr hx.h3) ?_|refine Ya (ldr hx.h4) ?_|refine Ya (Yi ..) ?_|refine Ya (Xk ..) ?_|refine Ya (ldr (row:=chkM l t) rfl) ?_|refine Ya (XR ..) ?_|refine Ya rfl ?_
     have hfind:=hU x.name false;have e:cnEnd cs x.op x.who x.name=((tlook x.name l).isSome&&sdOp x.who):=by
      rw[cnEnd,if_pos a6,hfind];cases tlook x.name l<;>simp
     rcases YBE (tlook x.name l).isSome with h|h
     ·rw[h];repeat first|refine Yb ?_|refine Yc ?_|refine Ya (ldr hx.h0) ?_|refine Ya (ldr hx.h1) ?_|refine Ya (ldr hx.h2) ?_|refine Ya (ldr hx.h3) ?_|refine Ya (ldr hx.h4) ?_|refine Ya (Yi ..) ?_|refine Ya (Xk ..) ?_|refine Ya (ldr (row:=chkM l t) rfl) ?_|refine Ya (XR ..) ?_|refine Ya rfl ?_
      refine Ye (c212 _) rfl g212_ok.plain rfl ?_;repeat first|refine Yb ?_|refine Yc ?_|refine Ya (ldr hx.h0) ?_|refine Ya (ldr hx.h1) ?_|refine Ya (ldr hx.h2) ?_|refine Ya (ldr hx.h3) ?_|refine Ya (ldr hx.h4) ?_|refine Ya (Yi ..) ?_|refine Ya (Xk ..) ?_|refine Ya (ldr (row:=chkM l t) rfl) ?_|refine Ya (XR ..) ?_|refine Ya rfl ?_
      exact kk _ 0 0 (by simp[cnK3]; omega) (by unfold cnK4; split<;>(try split)<;>omega) (by omega) (by rw[e,h,Bool.true_and])
     ·rw[h];repeat first|refine Yb ?_|refine Yc ?_|refine Xb rfl ?_|refine Xf rfl ?_|refine Zi rfl ?_|refine Xi rfl ?_|refine Ya (ldr hx.h0) ?_|refine Ya (ldr hx.h1) ?_|refine Ya (ldr hx.h2) ?_|refine Ya (ldr hx.h3) ?_|refine Ya (ldr hx.h4) ?_|refine Ya (Yi ..) ?_|refine Ya (Xk ..) ?_|refine Ya (ldr (row:=chkM l t) rfl) ?_|refine Ya (XR ..) ?_|refine Ya rfl ?_
      exact kk _ 0 0 (by simp[cnK3]; omega) (by unfold cnK4; split<;>(try split)<;>omega) (by omega) (by rw[e,h,Bool.false_and])
    ·have a6:x.op≠6:=by simpa using a6
     exact badT (by omega)
   clear hk1;refine Qc (λc1=>m2 _ ?_) (λc1=>?_)
   ·simp at c1; simp[c1]
   refine Ya (Yi ..) (m2 _ ?_);simp at c1; simp[c1]
  clear hk1;refine Qc (λc1=>m1 _ ?_) (λc1=>?_)
  ·simp at c1; simp[c1]
  refine Ya (Yi ..) (Qc (λc2=>m1 _ ?_) (λc2=>?_))
  ·simp at c2; simp[c2]
  refine Ya (Yi ..) (m1 _ ?_);simp at c1 c2; simp[c1,c2]
theorem c213(l:List (Tx×Bool))(cs:List Cd)(hU:Units l cs)(t:Bool)(x:Cn)(row:List AVal)(j:Nat)(hx:CnAt row j x)(hf:cnFit x=true):PC 213 [.rptr (chkM l t) 0,.rptr row j] (.bool (cnOk cs t x)):=c213' l cs hU t _ x row j hx (Nat.le_refl _) hf
end Go.Ah.Tz
end
section
namespace Go.Ah.Tz
open Go.Proofs.Tryz (prog)
def zeroB(x:Ef):Bool:=((cntOp x.op||noNum x.n)&&(decide (x.op=7)||x.name==[]))&&(decide (x.op=8)||(decide (x.c.op=0)&&(decide (x.c.who=0)&&(x.c.name==[]&&decide (x.c.nums.length+x.c.kids.length+x.thn.length+x.els.length=0)))))
attribute [local irreducible] Ans.rd Ans.pu Ans.wr Ans.dr Ans.gr Ans.gw Ans.gl Ans.gd Ans.opt joinK W
set_option maxHeartbeats 2000000
theorem c209(x:Ef)(hf:efFit x=true):PC 209 [.rptr (efC x) 0] (.bool (zeroB x)):=by
 have l1:=Yaa (Zar hf);have l2:=Zaa (Zar hf);have l3:=YS (Y5 hf);have l4:=YS (Z5 hf);rw[bigE] at l1 l2 l3 l4;rw[YH];refine Ze hP g209_ok rfl rfl ?_;unfold g209;repeat first|refine Ya (Yi ..) ?_|refine Ya (Xk ..) ?_|refine Ya (ldr (row:=[iv8 x.op,iv8 x.who,iv8 x.n.op,iv x.n.n,iv8 x.n.who,.rsl false false 4 (x.n.kids.map nmC),.str x.name,iv8 x.c.op,iv8 x.c.who,.str x.c.name,.rsl false false 4 (x.c.nums.map nmC),.rsl false false 5 (x.c.kids.map cnC),.rsl false false 14 (x.thn.map efC),.rsl false false 14 (x.els.map efC)]) rfl) ?_|refine Ya rfl ?_
 refine Ye (c210 _) rfl g210_ok.plain rfl ?_;have r1:∀K:AVal→Prop,K (.bool (cntOp x.op||noNum x.n))→VV.gr (AVal.bool (cntOp x.op)) false (λk=>VV.rd (Yg [(AVal.rptr [iv8 x.op,iv8 x.who,iv8 x.n.op,iv x.n.n,iv8 x.n.who,.rsl false false 4 (x.n.kids.map nmC),.str x.name,iv8 x.c.op,iv8 x.c.who,.str x.c.name,.rsl false false 4 (x.c.nums.map nmC),.rsl false false 5 (x.c.kids.map cnC),.rsl false false 14 (x.thn.map efC),.rsl false false 14 (x.els.map efC)] 0)] ([]:List ABlk)) k) λt13_4=>VV.gr (AVal.bool (cntOp x.op)) false (λk=>VV.rd (Xa [t13_4] ([]:List ABlk)) k) λt14_5=>VV.gr (AVal.bool (cntOp x.op)) false (λk=>VV.rd (Za 2 [t14_5] ([]:List ABlk)) k) λt15_6=>VV.gr (AVal.bool (cntOp x.op)) false (λk=>VV.rd (Za 0 [t15_6] ([]:List ABlk)) k) λt16_7=>VV.gr (AVal.bool (cntOp x.op)) false (λk=>VV.rd (Zc false 1 [t16_7] ([]:List ABlk)) k) λt17_8=>VV.gr (AVal.bool (cntOp x.op)) false (λk=>VV.rd (Yh .eql false [t17_8,(.int .i8 0)] ([]:List ABlk)) k) λt18_9=>VV.gr (AVal.bool (cntOp x.op)) false (λk=>VV.rd (Yg [t18_9] ([]:List ABlk)) k) λt19_10=>VV.gr t19_10 true (λk=>VV.rd (Yg [(AVal.rptr [iv8 x.op,iv8 x.who,iv8 x.n.op,iv x.n.n,iv8 x.n.who,.rsl false false 4 (x.n.kids.map nmC),.str x.name,iv8 x.c.op,iv8 x.c.who,.str x.c.name,.rsl false false 4 (x.c.nums.map nmC),.rsl false false 5 (x.c.kids.map cnC),.rsl false false 14 (x.thn.map efC),.rsl false false 14 (x.els.map efC)] 0)] ([]:List ABlk)) k) λt20_11=>VV.gr t19_10 true (λk=>VV.rd (Xa [t20_11] ([]:List ABlk)) k) λt21_12=>VV.gr t19_10 true (λk=>VV.rd (Za 2 [t21_12] ([]:List ABlk)) k) λt22_13=>VV.gr t19_10 true (λk=>VV.rd (Za 1 [t22_13] ([]:List ABlk)) k) λt23_14=>VV.gr t19_10 true (λk=>VV.rd (Zc false 1 [t23_14] ([]:List ABlk)) k) λt24_15=>VV.gr t19_10 true (λk=>VV.rd (Yh .eql false [t24_15,(.int .i64 0)] ([]:List ABlk)) k) λt25_16=>VV.gr (AVal.bool (cntOp x.op)) false (λk=>VV.rd (Zn [t19_10,t25_16,(.bool false)] ([]:List ABlk)) k) λt26_17=>VV.gr (AVal.bool (cntOp x.op)) false (λk=>VV.rd (Yg [t26_17] ([]:List ABlk)) k) λt27_18=>VV.gr t27_18 true (λk=>VV.rd (Yg [(AVal.rptr [iv8 x.op,iv8 x.who,iv8 x.n.op,iv x.n.n,iv8 x.n.who,.rsl false false 4 (x.n.kids.map nmC),.str x.name,iv8 x.c.op,iv8 x.c.who,.str x.c.name,.rsl false false 4 (x.c.nums.map nmC),.rsl false false 5 (x.c.kids.map cnC),.rsl false false 14 (x.thn.map efC),.rsl false false 14 (x.els.map efC)] 0)] ([]:List ABlk)) k) λt28_19=>VV.gr t27_18 true (λk=>VV.rd (Xa [t28_19] ([]:List ABlk)) k) λt29_20=>VV.gr t27_18 true (λk=>VV.rd (Za 2 [t29_20] ([]:List ABlk)) k) λt30_21=>VV.gr t27_18 true (λk=>VV.rd (Za 2 [t30_21] ([]:List ABlk)) k) λt31_22=>VV.gr t27_18 true (λk=>VV.rd (Zc false 1 [t31_22] ([]:List ABlk)) k) λt32_23=>VV.gr t27_18 true (λk=>VV.rd (Yh .eql false [t32_23,(.int .i8 0)] ([]:List ABlk)) k) λt33_24=>VV.gr (AVal.bool (cntOp x.op)) false (λk=>VV.rd (Zn [t27_18,t33_24,(.bool false)] ([]:List ABlk)) k) λt34_25=>VV.gr (AVal.bool (cntOp x.op)) false (λk=>VV.rd (Yg [t34_25] ([]:List ABlk)) k) λt35_26=>VV.gr t35_26 true (λk=>VV.rd (Yg [(AVal.rptr [iv8 x.op,iv8 x.who,iv8 x.n.op,iv x.n.n,iv8 x.n.who,.rsl false false 4 (x.n.kids.map nmC),.str x.name,iv8 x.c.op,iv8 x.c.who,.str x.c.name,.rsl false false 4 (x.c.nums.map nmC),.rsl false false 5 (x.c.kids.map cnC),.rsl false false 14 (x.thn.map efC),.rsl false false 14 (x.els.map efC)] 0)] ([]:List ABlk)) k) λt36_27=>VV.gr t35_26 true (λk=>VV.rd (Xa [t36_27] ([]:List ABlk)) k) λt37_28=>VV.gr t35_26 true (λk=>VV.rd (Za 2 [t37_28] ([]:List ABlk)) k) λt38_29=>VV.gr t35_26 true (λk=>VV.rd (Za 3 [t38_29] ([]:List ABlk)) k) λt39_30=>VV.gr t35_26 true (λk=>VV.rd (Zc false 1 [t39_30] ([]:List ABlk)) k) λt40_31=>VV.gr t35_26 true (λk=>VV.rd (Qd [t40_31] ([]:List ABlk)) k) λt41_32=>VV.gr t35_26 true (λk=>VV.rd (Yh .eql false [t41_32,(.int .i64 0)] ([]:List ABlk)) k) λt42_33=>VV.gr (AVal.bool (cntOp x.op)) false (λk=>VV.rd (Zn [t35_26,t42_33,(.bool false)] ([]:List ABlk)) k) λt43_34=>VV.rd (Zn [(AVal.bool (cntOp x.op)),(.bool true),t43_34] ([]:List ABlk)) K:=by
  intro K hK;rcases YBE (cntOp x.op) with h0|h0
  ·rw[h0] at hK ⊢;repeat first|refine Yb ?_|refine Yc ?_|refine Xb rfl ?_|refine Xf rfl ?_|refine Zi rfl ?_|refine Xi rfl ?_|refine Ya (Yi ..) ?_|refine Ya (Xk ..) ?_|refine Ya (ldr (row:=[iv8 x.op,iv8 x.who,iv8 x.n.op,iv x.n.n,iv8 x.n.who,.rsl false false 4 (x.n.kids.map nmC),.str x.name,iv8 x.c.op,iv8 x.c.who,.str x.c.name,.rsl false false 4 (x.c.nums.map nmC),.rsl false false 5 (x.c.kids.map cnC),.rsl false false 14 (x.thn.map efC),.rsl false false 14 (x.els.map efC)]) rfl) ?_|refine Ya rfl ?_
   exact hK
  rw[h0,Bool.false_or] at hK;rw[h0];repeat first|refine Yb ?_|refine Yc ?_|refine Ya (Yi ..) ?_|refine Ya (Xk ..) ?_|refine Ya (ldr (row:=[iv8 x.op,iv8 x.who,iv8 x.n.op,iv x.n.n,iv8 x.n.who,.rsl false false 4 (x.n.kids.map nmC),.str x.name,iv8 x.c.op,iv8 x.c.who,.str x.c.name,.rsl false false 4 (x.c.nums.map nmC),.rsl false false 5 (x.c.kids.map cnC),.rsl false false 14 (x.thn.map efC),.rsl false false 14 (x.els.map efC)]) rfl) ?_|refine Ya rfl ?_
  rcases YBE (decide (x.n.op=0)) with h1|h1
  rotate_left
  ·rw[h1];repeat first|refine Yb ?_|refine Yc ?_|refine Xb rfl ?_|refine Xf rfl ?_|refine Zi rfl ?_|refine Xi rfl ?_|refine Ya (Yi ..) ?_|refine Ya (Xk ..) ?_|refine Ya (ldr (row:=[iv8 x.op,iv8 x.who,iv8 x.n.op,iv x.n.n,iv8 x.n.who,.rsl false false 4 (x.n.kids.map nmC),.str x.name,iv8 x.c.op,iv8 x.c.who,.str x.c.name,.rsl false false 4 (x.c.nums.map nmC),.rsl false false 5 (x.c.kids.map cnC),.rsl false false 14 (x.thn.map efC),.rsl false false 14 (x.els.map efC)]) rfl) ?_|refine Ya rfl ?_
   rw[show noNum x.n=false by simp at h1; simp[noNum,h1]] at hK;exact hK
  rw[h1];repeat first|refine Yb ?_|refine Yc ?_|refine Ya (Yi ..) ?_|refine Ya (Xk ..) ?_|refine Ya (ldr (row:=[iv8 x.op,iv8 x.who,iv8 x.n.op,iv x.n.n,iv8 x.n.who,.rsl false false 4 (x.n.kids.map nmC),.str x.name,iv8 x.c.op,iv8 x.c.who,.str x.c.name,.rsl false false 4 (x.c.nums.map nmC),.rsl false false 5 (x.c.kids.map cnC),.rsl false false 14 (x.thn.map efC),.rsl false false 14 (x.els.map efC)]) rfl) ?_|refine Ya rfl ?_
  rcases YBE (decide (x.n.n=0)) with h2|h2
  rotate_left
  ·rw[h2];repeat first|refine Yb ?_|refine Yc ?_|refine Xb rfl ?_|refine Xf rfl ?_|refine Zi rfl ?_|refine Xi rfl ?_|refine Ya (Yi ..) ?_|refine Ya (Xk ..) ?_|refine Ya (ldr (row:=[iv8 x.op,iv8 x.who,iv8 x.n.op,iv x.n.n,iv8 x.n.who,.rsl false false 4 (x.n.kids.map nmC),.str x.name,iv8 x.c.op,iv8 x.c.who,.str x.c.name,.rsl false false 4 (x.c.nums.map nmC),.rsl false false 5 (x.c.kids.map cnC),.rsl false false 14 (x.thn.map efC),.rsl false false 14 (x.els.map efC)]) rfl) ?_|refine Ya rfl ?_
   rw[show noNum x.n=false by simp at h2; simp[noNum,h2]] at hK;exact hK
  rw[h2];repeat first|refine Yb ?_|refine Yc ?_|refine Ya (Yi ..) ?_|refine Ya (Xk ..) ?_|refine Ya (ldr (row:=[iv8 x.op,iv8 x.who,iv8 x.n.op,iv x.n.n,iv8 x.n.who,.rsl false false 4 (x.n.kids.map nmC),.str x.name,iv8 x.c.op,iv8 x.c.who,.str x.c.name,.rsl false false 4 (x.c.nums.map nmC),.rsl false false 5 (x.c.kids.map cnC),.rsl false false 14 (x.thn.map efC),.rsl false false 14 (x.els.map efC)]) rfl) ?_|refine Ya rfl ?_
  rcases YBE (decide (x.n.who=0)) with h3|h3
  rotate_left
  ·rw[h3];repeat first|refine Yb ?_|refine Yc ?_|refine Xb rfl ?_|refine Xf rfl ?_|refine Zi rfl ?_|refine Xi rfl ?_|refine Ya (Yi ..) ?_|refine Ya (Xk ..) ?_|refine Ya (ldr (row:=[iv8 x.op,iv8 x.who,iv8 x.n.op,iv x.n.n,iv8 x.n.who,.rsl false false 4 (x.n.kids.map nmC),.str x.name,iv8 x.c.op,iv8 x.c.who,.str x.c.name,.rsl false false 4 (x.c.nums.map nmC),.rsl false false 5 (x.c.kids.map cnC),.rsl false false 14 (x.thn.map efC),.rsl false false 14 (x.els.map efC)]) rfl) ?_|refine Ya rfl ?_
   rw[show noNum x.n=false by simp at h3; simp[noNum,h3]] at hK;exact hK
  rw[h3];repeat first|refine Yb ?_|refine Yc ?_|refine Ya (Yi ..) ?_|refine Ya (Xk ..) ?_|refine Ya (ldr (row:=[iv8 x.op,iv8 x.who,iv8 x.n.op,iv x.n.n,iv8 x.n.who,.rsl false false 4 (x.n.kids.map nmC),.str x.name,iv8 x.c.op,iv8 x.c.who,.str x.c.name,.rsl false false 4 (x.c.nums.map nmC),.rsl false false 5 (x.c.kids.map cnC),.rsl false false 14 (x.thn.map efC),.rsl false false 14 (x.els.map efC)]) rfl) ?_|refine Ya rfl ?_
  have e:noNum x.n=decide (((x.n.kids.map nmC).length:Int)=0):=by
   rw[Bool.eq_iff_iff]; simp at h1 h2 h3; simp[noNum,h1,h2,h3]
  rw[e] at hK;exact hK
 refine r1 _ ?_;clear r1;repeat first|refine Ya (Yi ..) ?_|refine Ya (Xk ..) ?_|refine Ya (ldr (row:=[iv8 x.op,iv8 x.who,iv8 x.n.op,iv x.n.n,iv8 x.n.who,.rsl false false 4 (x.n.kids.map nmC),.str x.name,iv8 x.c.op,iv8 x.c.who,.str x.c.name,.rsl false false 4 (x.c.nums.map nmC),.rsl false false 5 (x.c.kids.map cnC),.rsl false false 14 (x.thn.map efC),.rsl false false 14 (x.els.map efC)]) rfl) ?_|refine Ya rfl ?_
 have r2:∀K:AVal→Prop,K (.bool (decide (x.op=7)||x.name==[]))→VV.gr (AVal.bool (decide (x.op=7))) false (λk=>VV.rd (Yg [(AVal.rptr [iv8 x.op,iv8 x.who,iv8 x.n.op,iv x.n.n,iv8 x.n.who,.rsl false false 4 (x.n.kids.map nmC),.str x.name,iv8 x.c.op,iv8 x.c.who,.str x.c.name,.rsl false false 4 (x.c.nums.map nmC),.rsl false false 5 (x.c.kids.map cnC),.rsl false false 14 (x.thn.map efC),.rsl false false 14 (x.els.map efC)] 0)] ([]:List ABlk)) k) λt51_40=>VV.gr (AVal.bool (decide (x.op=7))) false (λk=>VV.rd (Xa [t51_40] ([]:List ABlk)) k) λt52_41=>VV.gr (AVal.bool (decide (x.op=7))) false (λk=>VV.rd (Za 6 [t52_41] ([]:List ABlk)) k) λt53_42=>VV.gr (AVal.bool (decide (x.op=7))) false (λk=>VV.rd (Zc false 1 [t53_42] ([]:List ABlk)) k) λt54_43=>VV.gr (AVal.bool (decide (x.op=7))) false (λk=>VV.rd (Yh .eql false [t54_43,(.str [])] ([]:List ABlk)) k) λt55_44=>VV.rd (Zn [(AVal.bool (decide (x.op=7))),(.bool true),t55_44] ([]:List ABlk)) K:=by
  intro K hK;rcases YBE (decide (x.op=7)) with h0|h0
  ·rw[h0] at hK ⊢;repeat first|refine Yb ?_|refine Yc ?_|refine Xb rfl ?_|refine Xf rfl ?_|refine Zi rfl ?_|refine Xi rfl ?_|refine Ya (Yi ..) ?_|refine Ya (Xk ..) ?_|refine Ya (ldr (row:=[iv8 x.op,iv8 x.who,iv8 x.n.op,iv x.n.n,iv8 x.n.who,.rsl false false 4 (x.n.kids.map nmC),.str x.name,iv8 x.c.op,iv8 x.c.who,.str x.c.name,.rsl false false 4 (x.c.nums.map nmC),.rsl false false 5 (x.c.kids.map cnC),.rsl false false 14 (x.thn.map efC),.rsl false false 14 (x.els.map efC)]) rfl) ?_|refine Ya rfl ?_
   exact hK
  rw[h0,Bool.false_or] at hK;rw[h0];repeat first|refine Yb ?_|refine Yc ?_|refine Ya (Yi ..) ?_|refine Ya (Xk ..) ?_|refine Ya (ldr (row:=[iv8 x.op,iv8 x.who,iv8 x.n.op,iv x.n.n,iv8 x.n.who,.rsl false false 4 (x.n.kids.map nmC),.str x.name,iv8 x.c.op,iv8 x.c.who,.str x.c.name,.rsl false false 4 (x.c.nums.map nmC),.rsl false false 5 (x.c.kids.map cnC),.rsl false false 14 (x.thn.map efC),.rsl false false 14 (x.els.map efC)]) rfl) ?_|refine Ya rfl ?_
  exact hK
 refine r2 _ ?_;clear r2;repeat first|refine Ya (Yi ..) ?_|refine Ya (Xk ..) ?_|refine Ya (ldr (row:=[iv8 x.op,iv8 x.who,iv8 x.n.op,iv x.n.n,iv8 x.n.who,.rsl false false 4 (x.n.kids.map nmC),.str x.name,iv8 x.c.op,iv8 x.c.who,.str x.c.name,.rsl false false 4 (x.c.nums.map nmC),.rsl false false 5 (x.c.kids.map cnC),.rsl false false 14 (x.thn.map efC),.rsl false false 14 (x.els.map efC)]) rfl) ?_|refine Ya rfl ?_
 have r3:∀K:AVal→Prop,K (.bool (decide (x.op=8)||(decide (x.c.op=0)&&(decide (x.c.who=0)&&(x.c.name==[]&&decide (x.c.nums.length+x.c.kids.length+x.thn.length+x.els.length=0))))))→VV.gr (AVal.bool (decide (x.op=8))) false (λk=>VV.rd (Yg [(AVal.rptr [iv8 x.op,iv8 x.who,iv8 x.n.op,iv x.n.n,iv8 x.n.who,.rsl false false 4 (x.n.kids.map nmC),.str x.name,iv8 x.c.op,iv8 x.c.who,.str x.c.name,.rsl false false 4 (x.c.nums.map nmC),.rsl false false 5 (x.c.kids.map cnC),.rsl false false 14 (x.thn.map efC),.rsl false false 14 (x.els.map efC)] 7)] ([]:List ABlk)) k) λt66_52=>VV.gr (AVal.bool (decide (x.op=8))) false (λk=>VV.rd (Xa [t66_52] ([]:List ABlk)) k) λt67_53=>VV.gr (AVal.bool (decide (x.op=8))) false (λk=>VV.rd (Za 0 [t67_53] ([]:List ABlk)) k) λt68_54=>VV.gr (AVal.bool (decide (x.op=8))) false (λk=>VV.rd (Zc false 1 [t68_54] ([]:List ABlk)) k) λt69_55=>VV.gr (AVal.bool (decide (x.op=8))) false (λk=>VV.rd (Yh .eql false [t69_55,(.int .i8 0)] ([]:List ABlk)) k) λt70_56=>VV.gr (AVal.bool (decide (x.op=8))) false (λk=>VV.rd (Yg [t70_56] ([]:List ABlk)) k) λt71_57=>VV.gr t71_57 true (λk=>VV.rd (Yg [(AVal.rptr [iv8 x.op,iv8 x.who,iv8 x.n.op,iv x.n.n,iv8 x.n.who,.rsl false false 4 (x.n.kids.map nmC),.str x.name,iv8 x.c.op,iv8 x.c.who,.str x.c.name,.rsl false false 4 (x.c.nums.map nmC),.rsl false false 5 (x.c.kids.map cnC),.rsl false false 14 (x.thn.map efC),.rsl false false 14 (x.els.map efC)] 7)] ([]:List ABlk)) k) λt72_58=>VV.gr t71_57 true (λk=>VV.rd (Xa [t72_58] ([]:List ABlk)) k) λt73_59=>VV.gr t71_57 true (λk=>VV.rd (Za 1 [t73_59] ([]:List ABlk)) k) λt74_60=>VV.gr t71_57 true (λk=>VV.rd (Zc false 1 [t74_60] ([]:List ABlk)) k) λt75_61=>VV.gr t71_57 true (λk=>VV.rd (Yh .eql false [t75_61,(.int .i8 0)] ([]:List ABlk)) k) λt76_62=>VV.gr (AVal.bool (decide (x.op=8))) false (λk=>VV.rd (Zn [t71_57,t76_62,(.bool false)] ([]:List ABlk)) k) λt77_63=>VV.gr (AVal.bool (decide (x.op=8))) false (λk=>VV.rd (Yg [t77_63] ([]:List ABlk)) k) λt78_64=>VV.gr t78_64 true (λk=>VV.rd (Yg [(AVal.rptr [iv8 x.op,iv8 x.who,iv8 x.n.op,iv x.n.n,iv8 x.n.who,.rsl false false 4 (x.n.kids.map nmC),.str x.name,iv8 x.c.op,iv8 x.c.who,.str x.c.name,.rsl false false 4 (x.c.nums.map nmC),.rsl false false 5 (x.c.kids.map cnC),.rsl false false 14 (x.thn.map efC),.rsl false false 14 (x.els.map efC)] 7)] ([]:List ABlk)) k) λt79_65=>VV.gr t78_64 true (λk=>VV.rd (Xa [t79_65] ([]:List ABlk)) k) λt80_66=>VV.gr t78_64 true (λk=>VV.rd (Za 2 [t80_66] ([]:List ABlk)) k) λt81_67=>VV.gr t78_64 true (λk=>VV.rd (Zc false 1 [t81_67] ([]:List ABlk)) k) λt82_68=>VV.gr t78_64 true (λk=>VV.rd (Yh .eql false [t82_68,(.str [])] ([]:List ABlk)) k) λt83_69=>VV.gr (AVal.bool (decide (x.op=8))) false (λk=>VV.rd (Zn [t78_64,t83_69,(.bool false)] ([]:List ABlk)) k) λt84_70=>VV.gr (AVal.bool (decide (x.op=8))) false (λk=>VV.rd (Yg [t84_70] ([]:List ABlk)) k) λt85_71=>VV.gr t85_71 true (λk=>VV.rd (Yg [(AVal.rptr [iv8 x.op,iv8 x.who,iv8 x.n.op,iv x.n.n,iv8 x.n.who,.rsl false false 4 (x.n.kids.map nmC),.str x.name,iv8 x.c.op,iv8 x.c.who,.str x.c.name,.rsl false false 4 (x.c.nums.map nmC),.rsl false false 5 (x.c.kids.map cnC),.rsl false false 14 (x.thn.map efC),.rsl false false 14 (x.els.map efC)] 7)] ([]:List ABlk)) k) λt86_72=>VV.gr t85_71 true (λk=>VV.rd (Xa [t86_72] ([]:List ABlk)) k) λt87_73=>VV.gr t85_71 true (λk=>VV.rd (Za 3 [t87_73] ([]:List ABlk)) k) λt88_74=>VV.gr t85_71 true (λk=>VV.rd (Zc false 1 [t88_74] ([]:List ABlk)) k) λt89_75=>VV.gr t85_71 true (λk=>VV.rd (Qd [t89_75] ([]:List ABlk)) k) λt90_76=>VV.gr t85_71 true (λk=>VV.rd (Yg [(AVal.rptr [iv8 x.op,iv8 x.who,iv8 x.n.op,iv x.n.n,iv8 x.n.who,.rsl false false 4 (x.n.kids.map nmC),.str x.name,iv8 x.c.op,iv8 x.c.who,.str x.c.name,.rsl false false 4 (x.c.nums.map nmC),.rsl false false 5 (x.c.kids.map cnC),.rsl false false 14 (x.thn.map efC),.rsl false false 14 (x.els.map efC)] 7)] ([]:List ABlk)) k) λt91_77=>VV.gr t85_71 true (λk=>VV.rd (Xa [t91_77] ([]:List ABlk)) k) λt92_78=>VV.gr t85_71 true (λk=>VV.rd (Za 4 [t92_78] ([]:List ABlk)) k) λt93_79=>VV.gr t85_71 true (λk=>VV.rd (Zc false 1 [t93_79] ([]:List ABlk)) k) λt94_80=>VV.gr t85_71 true (λk=>VV.rd (Qd [t94_80] ([]:List ABlk)) k) λt95_81=>VV.gr t85_71 true (λk=>VV.rd (Yh .add false [t90_76,t95_81] ([]:List ABlk)) k) λt96_82=>VV.gr t85_71 true (λk=>VV.rd (Yg [(AVal.rptr [iv8 x.op,iv8 x.who,iv8 x.n.op,iv x.n.n,iv8 x.n.who,.rsl false false 4 (x.n.kids.map nmC),.str x.name,iv8 x.c.op,iv8 x.c.who,.str x.c.name,.rsl false false 4 (x.c.nums.map nmC),.rsl false false 5 (x.c.kids.map cnC),.rsl false false 14 (x.thn.map efC),.rsl false false 14 (x.els.map efC)] 0)] ([]:List ABlk)) k) λt97_83=>VV.gr t85_71 true (λk=>VV.rd (Xa [t97_83] ([]:List ABlk)) k) λt98_84=>VV.gr t85_71 true (λk=>VV.rd (Za 12 [t98_84] ([]:List ABlk)) k) λt99_85=>VV.gr t85_71 true (λk=>VV.rd (Zc false 1 [t99_85] ([]:List ABlk)) k) λt100_86=>VV.gr t85_71 true (λk=>VV.rd (Qd [t100_86] ([]:List ABlk)) k) λt101_87=>VV.gr t85_71 true (λk=>VV.rd (Yh .add false [t96_82,t101_87] ([]:List ABlk)) k) λt102_88=>VV.gr t85_71 true (λk=>VV.rd (Yg [(AVal.rptr [iv8 x.op,iv8 x.who,iv8 x.n.op,iv x.n.n,iv8 x.n.who,.rsl false false 4 (x.n.kids.map nmC),.str x.name,iv8 x.c.op,iv8 x.c.who,.str x.c.name,.rsl false false 4 (x.c.nums.map nmC),.rsl false false 5 (x.c.kids.map cnC),.rsl false false 14 (x.thn.map efC),.rsl false false 14 (x.els.map efC)] 0)] ([]:List ABlk)) k) λt103_89=>VV.gr t85_71 true (λk=>VV.rd (Xa [t103_89] ([]:List ABlk)) k) λt104_90=>VV.gr t85_71 true (λk=>VV.rd (Za 13 [t104_90] ([]:List ABlk)) k) λt105_91=>VV.gr t85_71 true (λk=>VV.rd (Zc false 1 [t105_91] ([]:List ABlk)) k) λt106_92=>VV.gr t85_71 true (λk=>VV.rd (Qd [t106_92] ([]:List ABlk)) k) λt107_93=>VV.gr t85_71 true (λk=>VV.rd (Yh .add false [t102_88,t107_93] ([]:List ABlk)) k) λt108_94=>VV.gr t85_71 true (λk=>VV.rd (Yh .eql false [t108_94,(.int .i64 0)] ([]:List ABlk)) k) λt109_95=>VV.gr (AVal.bool (decide (x.op=8))) false (λk=>VV.rd (Zn [t85_71,t109_95,(.bool false)] ([]:List ABlk)) k) λt110_96=>VV.rd (Zn [(AVal.bool (decide (x.op=8))),(.bool true),t110_96] ([]:List ABlk)) K:=by
  intro K hK;rcases YBE (decide (x.op=8)) with h0|h0
  ·rw[h0] at hK ⊢;repeat first|refine Yb ?_|refine Yc ?_|refine Xb rfl ?_|refine Xf rfl ?_|refine Zi rfl ?_|refine Xi rfl ?_|refine Ya (Yi ..) ?_|refine Ya (Xk ..) ?_|refine Ya (ldr (row:=[iv8 x.op,iv8 x.who,iv8 x.n.op,iv x.n.n,iv8 x.n.who,.rsl false false 4 (x.n.kids.map nmC),.str x.name,iv8 x.c.op,iv8 x.c.who,.str x.c.name,.rsl false false 4 (x.c.nums.map nmC),.rsl false false 5 (x.c.kids.map cnC),.rsl false false 14 (x.thn.map efC),.rsl false false 14 (x.els.map efC)]) rfl) ?_|refine Ya rfl ?_
   exact hK
  rw[h0,Bool.false_or] at hK;rw[h0];repeat first|refine Yb ?_|refine Yc ?_|refine Ya (Yi ..) ?_|refine Ya (Xk ..) ?_|refine Ya (ldr (row:=[iv8 x.op,iv8 x.who,iv8 x.n.op,iv x.n.n,iv8 x.n.who,.rsl false false 4 (x.n.kids.map nmC),.str x.name,iv8 x.c.op,iv8 x.c.who,.str x.c.name,.rsl false false 4 (x.c.nums.map nmC),.rsl false false 5 (x.c.kids.map cnC),.rsl false false 14 (x.thn.map efC),.rsl false false 14 (x.els.map efC)]) rfl) ?_|refine Ya rfl ?_
  rcases YBE (decide (x.c.op=0)) with h1|h1
  rotate_left
  ·rw[h1];repeat first|refine Yb ?_|refine Yc ?_|refine Xb rfl ?_|refine Xf rfl ?_|refine Zi rfl ?_|refine Xi rfl ?_|refine Ya (Yi ..) ?_|refine Ya (Xk ..) ?_|refine Ya (ldr (row:=[iv8 x.op,iv8 x.who,iv8 x.n.op,iv x.n.n,iv8 x.n.who,.rsl false false 4 (x.n.kids.map nmC),.str x.name,iv8 x.c.op,iv8 x.c.who,.str x.c.name,.rsl false false 4 (x.c.nums.map nmC),.rsl false false 5 (x.c.kids.map cnC),.rsl false false 14 (x.thn.map efC),.rsl false false 14 (x.els.map efC)]) rfl) ?_|refine Ya rfl ?_
   rw[h1] at hK;exact hK
  rw[h1];repeat first|refine Yb ?_|refine Yc ?_|refine Ya (Yi ..) ?_|refine Ya (Xk ..) ?_|refine Ya (ldr (row:=[iv8 x.op,iv8 x.who,iv8 x.n.op,iv x.n.n,iv8 x.n.who,.rsl false false 4 (x.n.kids.map nmC),.str x.name,iv8 x.c.op,iv8 x.c.who,.str x.c.name,.rsl false false 4 (x.c.nums.map nmC),.rsl false false 5 (x.c.kids.map cnC),.rsl false false 14 (x.thn.map efC),.rsl false false 14 (x.els.map efC)]) rfl) ?_|refine Ya rfl ?_
  rcases YBE (decide (x.c.who=0)) with h2|h2
  rotate_left
  ·rw[h2];repeat first|refine Yb ?_|refine Yc ?_|refine Xb rfl ?_|refine Xf rfl ?_|refine Zi rfl ?_|refine Xi rfl ?_|refine Ya (Yi ..) ?_|refine Ya (Xk ..) ?_|refine Ya (ldr (row:=[iv8 x.op,iv8 x.who,iv8 x.n.op,iv x.n.n,iv8 x.n.who,.rsl false false 4 (x.n.kids.map nmC),.str x.name,iv8 x.c.op,iv8 x.c.who,.str x.c.name,.rsl false false 4 (x.c.nums.map nmC),.rsl false false 5 (x.c.kids.map cnC),.rsl false false 14 (x.thn.map efC),.rsl false false 14 (x.els.map efC)]) rfl) ?_|refine Ya rfl ?_
   rw[h1,h2] at hK;exact hK
  rw[h2];repeat first|refine Yb ?_|refine Yc ?_|refine Ya (Yi ..) ?_|refine Ya (Xk ..) ?_|refine Ya (ldr (row:=[iv8 x.op,iv8 x.who,iv8 x.n.op,iv x.n.n,iv8 x.n.who,.rsl false false 4 (x.n.kids.map nmC),.str x.name,iv8 x.c.op,iv8 x.c.who,.str x.c.name,.rsl false false 4 (x.c.nums.map nmC),.rsl false false 5 (x.c.kids.map cnC),.rsl false false 14 (x.thn.map efC),.rsl false false 14 (x.els.map efC)]) rfl) ?_|refine Ya rfl ?_
  rcases YBE (x.c.name==[]) with h3|h3
  rotate_left
  ·rw[h3];repeat first|refine Yb ?_|refine Yc ?_|refine Xb rfl ?_|refine Xf rfl ?_|refine Zi rfl ?_|refine Xi rfl ?_|refine Ya (Yi ..) ?_|refine Ya (Xk ..) ?_|refine Ya (ldr (row:=[iv8 x.op,iv8 x.who,iv8 x.n.op,iv x.n.n,iv8 x.n.who,.rsl false false 4 (x.n.kids.map nmC),.str x.name,iv8 x.c.op,iv8 x.c.who,.str x.c.name,.rsl false false 4 (x.c.nums.map nmC),.rsl false false 5 (x.c.kids.map cnC),.rsl false false 14 (x.thn.map efC),.rsl false false 14 (x.els.map efC)]) rfl) ?_|refine Ya rfl ?_
   rw[h1,h2,h3] at hK;exact hK
  rw[h3];repeat first|refine Yb ?_|refine Yc ?_|refine Ya (Yi ..) ?_|refine Ya (Xk ..) ?_|refine Ya (ldr (row:=[iv8 x.op,iv8 x.who,iv8 x.n.op,iv x.n.n,iv8 x.n.who,.rsl false false 4 (x.n.kids.map nmC),.str x.name,iv8 x.c.op,iv8 x.c.who,.str x.c.name,.rsl false false 4 (x.c.nums.map nmC),.rsl false false 5 (x.c.kids.map cnC),.rsl false false 14 (x.thn.map efC),.rsl false false 14 (x.els.map efC)]) rfl) ?_|refine Ya rfl ?_
  rw[h1,h2,h3,Bool.true_and,Bool.true_and,Bool.true_and] at hK;rw[List.length_map,List.length_map,List.length_map,List.length_map,wrapI (n:=(x.c.nums.length:Int)+x.c.kids.length) (by omega) (by omega),wrapI (n:=(x.c.nums.length:Int)+x.c.kids.length+x.thn.length) (by omega) (by omega),wrapI (n:=(x.c.nums.length:Int)+x.c.kids.length+x.thn.length+x.els.length) (by omega) (by omega)];rw[show decide ((x.c.nums.length:Int)+x.c.kids.length+x.thn.length+x.els.length=0)=decide (x.c.nums.length+x.c.kids.length+x.thn.length+x.els.length=0) by rw[Bool.eq_iff_iff,decide_eq_true_eq,decide_eq_true_eq]; omega];exact hK
 refine r3 _ ?_;clear r3;unfold zeroB;generalize (cntOp x.op||noNum x.n)=b1;generalize (decide (x.op=7)||x.name==[])=b2;generalize (decide (x.op=8)||(decide (x.c.op=0)&&(decide (x.c.who=0)&&(x.c.name==[]&&decide (x.c.nums.length+x.c.kids.length+x.thn.length+x.els.length=0)))))=b3;cases b1<;>cases b2
 all_goals (repeat (first|refine Yb ?_|refine Yc ?_|refine Xb rfl ?_|refine Xf rfl ?_|refine Zi rfl ?_|refine Xi rfl ?_|refine Ya (Yi ..) ?_|refine Ya (Xk ..) ?_|refine Ya (ldr (row:=[iv8 x.op,iv8 x.who,iv8 x.n.op,iv x.n.n,iv8 x.n.who,.rsl false false 4 (x.n.kids.map nmC),.str x.name,iv8 x.c.op,iv8 x.c.who,.str x.c.name,.rsl false false 4 (x.c.nums.map nmC),.rsl false false 5 (x.c.kids.map cnC),.rsl false false 14 (x.thn.map efC),.rsl false false 14 (x.els.map efC)]) rfl) ?_|refine Ya rfl ?_))
 all_goals rfl
end Go.Ah.Tz
end
section
namespace Go.Ah.Tz
open Go.Proofs.Tryz (prog)
def efArm(cs:List Cd)(t:Bool)(d:Int)(x:Ef):Bool:=
 if x.op=0∨x.op=1 then sdOp x.who||(decide (x.who=2)&&t)
 else if x.op=2∨x.op=4∨x.op=6 then sdOp x.who
 else if x.op=3∨x.op=5 then decide (x.who=0)
 else if x.op=7 then decide (x.who=0)&&findC cs x.name true
 else if x.op=8 then decide (x.who=0)&&(cnOk cs t x.c&&(lstOk cs t (d+1) x.thn&&lstOk cs t (d+1) x.els))
 else false
theorem Qcf(x:Ef):(decide (x.c.op=0)&&(decide (x.c.who=0)&&(x.c.name==[]&&decide (x.c.nums.length+x.c.kids.length+x.thn.length+x.els.length=0))))=(noCond x.c&&(decide (x.thn.length=0)&&decide (x.els.length=0))):=by
 have e:decide (x.c.nums.length+x.c.kids.length+x.thn.length+x.els.length=0)=(decide (x.c.nums.length=0)&&(decide (x.c.kids.length=0)&&(decide (x.thn.length=0)&&decide (x.els.length=0)))):=by
  rw[Bool.eq_iff_iff];simp only[Bool.and_eq_true,decide_eq_true_eq]; omega
 rw[e,noCond];simp only[Bool.and_assoc]
theorem Zc3(cs:List Cd)(t:Bool)(d:Int)(x:Ef):efOk cs t d x=((zeroB x&&(!cntOp x.op||nmOk t x.n))&&efArm cs t d x):=by
 rw[ZcP,zeroB,Qcf];by_cases hr:0≤x.op∧x.op≤8;rotate_left
 ·have:efArm cs t d x=false:=by
   rw[efArm,if_neg (by omega),if_neg (by omega),if_neg (by omega),if_neg (by omega),if_neg (by omega)]
  rw[this,Bool.and_false,Bool.eq_false_iff];intro h; simp only[Bool.and_eq_true,decide_eq_true_eq] at h; exact hr ⟨h.1,h.2.1⟩
 obtain⟨r1,r2⟩:=hr;rw[decide_eq_true r1,decide_eq_true r2,Bool.true_and,Bool.true_and];generalize noCond x.c=b1;generalize decide (x.thn.length=0)=b2;generalize decide (x.els.length=0)=b3;generalize noNum x.n=b4;generalize nmOk t x.n=b5;generalize (x.name==[])=b6;unfold efArm efEnd efMid;generalize lstOk cs t (d+1) x.thn=b7;generalize lstOk cs t (d+1) x.els=b8;generalize cnOk cs t x.c=b9;generalize findC cs x.name true=b10;generalize sdOp x.who=b11;generalize decide (x.who=0)=b12;generalize decide (x.who=2)=b13;have h:x.op=0∨x.op=1∨x.op=2∨x.op=3∨x.op=4∨x.op=5∨x.op=6∨x.op=7∨x.op=8:=by omega
 generalize x.op=op at h;clear r1 r2;rcases h with h|h|h|h|h|h|h|h|h<;>subst h<;>simp[cntOp]<;>cases b1<;>cases b2<;>cases b3<;>cases b4<;>cases b5<;>cases b6<;>simp<;>cases b12<;>simp
attribute [local irreducible] Ans.rd Ans.pu Ans.wr Ans.dr Ans.gr Ans.gw Ans.gl Ans.gd Ans.opt joinK W
set_option maxHeartbeats 4000000
theorem Qc2(x:Ef):NmAt (efC x) (0+2) x.n:=nmAt2 x
theorem Xc2(x:Ef):CnAt (efC x) (0+7) x.c:=cnAt7 x
theorem c157'(m:List (Tx×Bool))(cs:List Cd)(hU:Units m cs)(t:Bool):∀(k:Nat) (l:List Ef) (d:Int),SizeOf.sizeOf l≤k→lsFit l=true→0≤d→PC 157 [.rptr (chkM m t) 0,efV l,iv d] (.bool (lstOk cs t d l))
 |0,l,_,h,_,_=>by cases l<;>simp at h
 |k+1,l,d,hk,hf,hd=>by
  refine Ze hP g157_ok rfl rfl ?_;unfold g157;have hlen:=YS hf;rw[bigE] at hlen;refine Ya rfl (Ya rfl ?_);refine XL rfl rfl ?_;refine Qc (λh=>?_) (λh=>?_)
  ·have h:¬(l.length≤16∧d≤8):=by simp at h; omega
   rw[lstOk];rcases Decidable.not_and_iff_or_not.1 h with h|h<;>simp[h]
  have h:l.length≤16∧d≤8:=by simp at h; omega
  have hl:lstOk cs t d l=efsOk cs t d l:=by simp[lstOk,h]
  rw[hl];clear hl;refine Ya rfl ?_;refine Xo (ι:=Nat) (λi vs σ=>vs=[iv i]∧σ=[]∧i≤l.length∧efsOk cs t d l=efsOk cs t d (l.drop i)) (λi=>l.length-i) 0 ⟨rfl,rfl,by omega,by simp⟩ ?_;rintro i vs σ again ⟨rfl,rfl,hi,hu⟩ hag;refine Ya rfl ?_;refine Qc (λh=>?_) (λh=>?_);rotate_left
  ·have h:i=l.length:=by simp at h; omega
   subst h;rw[List.drop_length,efsOk] at hu;rw[hu]
  have hil:i<l.length:=by simpa using h
  have hdr:l.drop i=l[i]::l.drop (i+1):=by rw[YLD hil]
  rw[hdr,efsOk] at hu;have hm:l[i]∈l:=List.getElem_mem hil;have hsz:=List.sizeOf_lt_of_mem hm;have hfx:=Z6 hf hm;have ix:=λ(s:List ABlk)=>Qu s efC false false 14 l .i64 i hil;generalize l[i]=x at hu hsz hfx ix;have hs2:=ZaE x;rename_i hd8;obtain⟨h16,h8⟩:=hd8;have go:∀c,c=efOk cs t d x→VV.rd (Zp .not [.bool c] []) λt152=>VV.test t152 (AVal.bool false=AVal.bool (efsOk cs t d l)) (VV.rd (Yh .add false [iv i,(.int .i64 1)] []) λt153=>again [t153] []):=by
   rintro c hc;refine Ya rfl ?_;rw[←hc] at hu;refine Qc (λh=>?_) (λh=>?_)
   ·have h:c=false:=by simpa using h
    rw[hu,h]; rfl
   ·have h:c=true:=by simpa using h
    rw[h,Bool.true_and] at hu;refine Ya (Qn ..) ?_;rw[Xg (n:=i) (by omega)];exact hag (i+1) _ _ (by omega) ⟨rfl,rfl,by omega,hu⟩
  have stop:efOk cs t d x=false→AVal.bool false=AVal.bool (efsOk cs t d l):=by
   intro he; rw[hu,he]; rfl
  clear hag hu;rw[Zc3] at stop go;refine Ya (ix _) ?_;refine Ye (c209 x hfx) rfl g209_ok.plain rfl ?_;have r1:∀K:AVal→List ABlk→Prop,K (.bool (zeroB x&&(!cntOp x.op||nmOk t x.n))) []→VV.gr (AVal.bool (zeroB x)) true (λk=>VV.rd (Yg [(AVal.rptr (efC x) 0)] []) k) λt28_11=>VV.gr (AVal.bool (zeroB x)) true (λk=>VV.rd (Xa [t28_11] []) k) λt29_12=>VV.gr (AVal.bool (zeroB x)) true (λk=>VV.rd (Za 0 [t29_12] []) k) λt30_13=>VV.gr (AVal.bool (zeroB x)) true (λk=>VV.rd (Zc false 1 [t30_13] []) k) λt31_14=>VV.gw (AVal.bool (zeroB x)) true (λk=>VV.call (.call 210) [t31_14] [] k) ([]:List ABlk) λt32_15 σ=>VV.gr (AVal.bool (zeroB x)) true (λk=>VV.rd (Zp .not [t32_15] σ) k) λt33_16=>VV.gr (AVal.bool (zeroB x)) true (λk=>VV.rd (Yg [t33_16] σ) k) λt34_17=>VV.gr t34_17 false (λk=>VV.rd (Yg [(AVal.rptr (chkM m t) 0)] σ) k) λt35_18=>VV.gr t34_17 false (λk=>VV.rd (Yg [(AVal.rptr (efC x) 0)] σ) k) λt36_19=>VV.gr t34_17 false (λk=>VV.rd (Xa [t36_19] σ) k) λt37_20=>VV.gr t34_17 false (λk=>VV.rd (Za 2 [t37_20] σ) k) λt38_21=>VV.gw t34_17 false (λk=>VV.call (.call 211) [t35_18,t38_21] σ k) σ λt39_22 σ=>VV.gr (AVal.bool (zeroB x)) true (λk=>VV.rd (Zn [t34_17,(.bool true),t39_22] σ) k) λt40_23=>VV.rd (Zn [(AVal.bool (zeroB x)),t40_23,(.bool false)] σ) (λv=>K v σ):=by
   intro K hK;rcases YBE (zeroB x) with h|h
   rotate_left
   ·rw[h] at hK ⊢;repeat first|refine Yb ?_|refine Yc ?_|refine Xb rfl ?_|refine Xf rfl ?_|refine Zi rfl ?_|refine Xi rfl ?_|refine Ya (ldr (efLd0 x)) ?_|refine Ya (ldr (efLd1 x)) ?_|refine Ya (ldr (efLd6 x)) ?_|refine Ya (ldr (Yq x)) ?_|refine Ya (ldr (Xq x)) ?_|refine Ya (Yi ..) ?_|refine Ya (Xk ..) ?_|refine Ya (ldr (row:=chkM m t) rfl) ?_|refine Ya (Xl ..) ?_|refine Ya rfl ?_
    exact hK
   rw[h,Bool.true_and] at hK;rw[h];repeat first|refine Yb ?_|refine Yc ?_|refine Ya (ldr (efLd0 x)) ?_|refine Ya (ldr (efLd1 x)) ?_|refine Ya (ldr (efLd6 x)) ?_|refine Ya (ldr (Yq x)) ?_|refine Ya (ldr (Xq x)) ?_|refine Ya (Yi ..) ?_|refine Ya (Xk ..) ?_|refine Ya (ldr (row:=chkM m t) rfl) ?_|refine Ya (Xl ..) ?_|refine Ya rfl ?_
   refine Ye (c210 _) rfl g210_ok.plain rfl ?_;repeat first|refine Yb ?_|refine Yc ?_|refine Ya (ldr (efLd0 x)) ?_|refine Ya (ldr (efLd1 x)) ?_|refine Ya (ldr (efLd6 x)) ?_|refine Ya (ldr (Yq x)) ?_|refine Ya (ldr (Xq x)) ?_|refine Ya (Yi ..) ?_|refine Ya (Xk ..) ?_|refine Ya (ldr (row:=chkM m t) rfl) ?_|refine Ya (Xl ..) ?_|refine Ya rfl ?_
   rcases YBE (!cntOp x.op) with h2|h2
   ·rw[h2] at hK ⊢;repeat first|refine Yb ?_|refine Yc ?_|refine Xb rfl ?_|refine Xf rfl ?_|refine Zi rfl ?_|refine Xi rfl ?_|refine Ya (ldr (efLd0 x)) ?_|refine Ya (ldr (efLd1 x)) ?_|refine Ya (ldr (efLd6 x)) ?_|refine Ya (ldr (Yq x)) ?_|refine Ya (ldr (Xq x)) ?_|refine Ya (Yi ..) ?_|refine Ya (Xk ..) ?_|refine Ya (ldr (row:=chkM m t) rfl) ?_|refine Ya (Xl ..) ?_|refine Ya rfl ?_
    exact hK
   rw[h2,Bool.false_or] at hK;rw[h2];repeat first|refine Yb ?_|refine Yc ?_|refine Ya (ldr (efLd0 x)) ?_|refine Ya (ldr (efLd1 x)) ?_|refine Ya (ldr (efLd6 x)) ?_|refine Ya (ldr (Yq x)) ?_|refine Ya (ldr (Xq x)) ?_|refine Ya (Yi ..) ?_|refine Ya (Xk ..) ?_|refine Ya (ldr (row:=chkM m t) rfl) ?_|refine Ya (Xl ..) ?_|refine Ya rfl ?_
   refine Ye (c211 _ t x.n _ _ (Qc2 x) (XaJ hfx)) rfl g211_ok.plain rfl ?_;repeat first|refine Yb ?_|refine Yc ?_|refine Ya (ldr (efLd0 x)) ?_|refine Ya (ldr (efLd1 x)) ?_|refine Ya (ldr (efLd6 x)) ?_|refine Ya (ldr (Yq x)) ?_|refine Ya (ldr (Xq x)) ?_|refine Ya (Yi ..) ?_|refine Ya (Xk ..) ?_|refine Ya (ldr (row:=chkM m t) rfl) ?_|refine Ya (Xl ..) ?_|refine Ya rfl ?_
   exact hK
  refine r1 _ ?_;clear r1;generalize (zeroB x&&(!cntOp x.op||nmOk t x.n))=z at go stop ⊢;repeat first|refine Ya (ldr (efLd0 x)) ?_|refine Ya (ldr (efLd1 x)) ?_|refine Ya (ldr (efLd6 x)) ?_|refine Ya (ldr (Yq x)) ?_|refine Ya (ldr (Xq x)) ?_|refine Ya (Yi ..) ?_|refine Ya (Xk ..) ?_|refine Ya (ldr (row:=chkM m t) rfl) ?_|refine Ya (Xl ..) ?_|refine Ya rfl ?_
  refine Xn λk28 hk28=>?_;have kk:∀c,c=(z&&efArm cs t d x)→k28 [.bool c] []:=by
   rintro c hc;rw[hk28];exact go c hc
  clear hk28 go;repeat first|refine Ya (ldr (efLd0 x)) ?_|refine Ya (ldr (efLd1 x)) ?_|refine Ya (ldr (efLd6 x)) ?_|refine Ya (ldr (Yq x)) ?_|refine Ya (ldr (Xq x)) ?_|refine Ya (Yi ..) ?_|refine Ya (Xk ..) ?_|refine Ya (ldr (row:=chkM m t) rfl) ?_|refine Ya (Xl ..) ?_|refine Ya rfl ?_
  refine Xn λk1 hk1=>?_;have m1:∀c,c=decide (x.op=0∨x.op=1)→k1 [.bool c] []:=by
   rintro c hc;rw[hk1]; clear hk1 k1;refine Qc (λh=>?_) (λh=>?_)
   ·rw[h] at hc;have a1:x.op=0∨x.op=1:=by simpa using hc.symm
    have e:efArm cs t d x=(sdOp x.who||(decide (x.who=2)&&t)):=by rw[efArm,if_pos a1]
    rw[e] at kk;cases z with
    |false=>
     repeat first|refine Yb ?_|refine Yc ?_|refine Xb rfl ?_|refine Xf rfl ?_|refine Zi rfl ?_|refine Xi rfl ?_|refine Ya (ldr (efLd0 x)) ?_|refine Ya (ldr (efLd1 x)) ?_|refine Ya (ldr (efLd6 x)) ?_|refine Ya (ldr (Yq x)) ?_|refine Ya (ldr (Xq x)) ?_|refine Ya (Yi ..) ?_|refine Ya (Xk ..) ?_|refine Ya (ldr (row:=chkM m t) rfl) ?_|refine Ya (Xl ..) ?_|refine Ya rfl ?_
     exact kk _ rfl
    |true=>
     repeat first|refine Yb ?_|refine Yc ?_|refine Ya (ldr (efLd0 x)) ?_|refine Ya (ldr (efLd1 x)) ?_|refine Ya (ldr (efLd6 x)) ?_|refine Ya (ldr (Yq x)) ?_|refine Ya (ldr (Xq x)) ?_|refine Ya (Yi ..) ?_|refine Ya (Xk ..) ?_|refine Ya (ldr (row:=chkM m t) rfl) ?_|refine Ya (Xl ..) ?_|refine Ya rfl ?_
     refine Ye (c212 _) rfl g212_ok.plain rfl ?_;repeat first|refine Yb ?_|refine Yc ?_|refine Ya (ldr (efLd0 x)) ?_|refine Ya (ldr (efLd1 x)) ?_|refine Ya (ldr (efLd6 x)) ?_|refine Ya (ldr (Yq x)) ?_|refine Ya (ldr (Xq x)) ?_|refine Ya (Yi ..) ?_|refine Ya (Xk ..) ?_|refine Ya (ldr (row:=chkM m t) rfl) ?_|refine Ya (Xl ..) ?_|refine Ya rfl ?_
     rcases YBE (sdOp x.who) with h2|h2
     ·rw[h2] at kk ⊢;repeat first|refine Yb ?_|refine Yc ?_|refine Xb rfl ?_|refine Xf rfl ?_|refine Zi rfl ?_|refine Xi rfl ?_|refine Ya (ldr (efLd0 x)) ?_|refine Ya (ldr (efLd1 x)) ?_|refine Ya (ldr (efLd6 x)) ?_|refine Ya (ldr (Yq x)) ?_|refine Ya (ldr (Xq x)) ?_|refine Ya (Yi ..) ?_|refine Ya (Xk ..) ?_|refine Ya (ldr (row:=chkM m t) rfl) ?_|refine Ya (Xl ..) ?_|refine Ya rfl ?_
      exact kk _ rfl
     rw[h2] at kk ⊢;repeat first|refine Yb ?_|refine Yc ?_|refine Ya (ldr (efLd0 x)) ?_|refine Ya (ldr (efLd1 x)) ?_|refine Ya (ldr (efLd6 x)) ?_|refine Ya (ldr (Yq x)) ?_|refine Ya (ldr (Xq x)) ?_|refine Ya (Yi ..) ?_|refine Ya (Xk ..) ?_|refine Ya (ldr (row:=chkM m t) rfl) ?_|refine Ya (Xl ..) ?_|refine Ya rfl ?_
     rcases YBE (decide (x.who=2)) with h3|h3
     ·rw[h3] at kk ⊢;repeat first|refine Yb ?_|refine Yc ?_|refine Ya (ldr (efLd0 x)) ?_|refine Ya (ldr (efLd1 x)) ?_|refine Ya (ldr (efLd6 x)) ?_|refine Ya (ldr (Yq x)) ?_|refine Ya (ldr (Xq x)) ?_|refine Ya (Yi ..) ?_|refine Ya (Xk ..) ?_|refine Ya (ldr (row:=chkM m t) rfl) ?_|refine Ya (Xl ..) ?_|refine Ya rfl ?_
      exact kk _ (by simp)
     rw[h3] at kk ⊢;repeat first|refine Yb ?_|refine Yc ?_|refine Xb rfl ?_|refine Xf rfl ?_|refine Zi rfl ?_|refine Xi rfl ?_|refine Ya (ldr (efLd0 x)) ?_|refine Ya (ldr (efLd1 x)) ?_|refine Ya (ldr (efLd6 x)) ?_|refine Ya (ldr (Yq x)) ?_|refine Ya (ldr (Xq x)) ?_|refine Ya (Yi ..) ?_|refine Ya (Xk ..) ?_|refine Ya (ldr (row:=chkM m t) rfl) ?_|refine Ya (Xl ..) ?_|refine Ya rfl ?_
     exact kk _ (by simp)
   rw[h] at hc;have a1:¬(x.op=0∨x.op=1):=by simpa using hc.symm
   repeat first|refine Ya (ldr (efLd0 x)) ?_|refine Ya (ldr (efLd1 x)) ?_|refine Ya (ldr (efLd6 x)) ?_|refine Ya (ldr (Yq x)) ?_|refine Ya (ldr (Xq x)) ?_|refine Ya (Yi ..) ?_|refine Ya (Xk ..) ?_|refine Ya (ldr (row:=chkM m t) rfl) ?_|refine Ya (Xl ..) ?_|refine Ya rfl ?_
   refine Xn λk1 hk1=>?_;have m2:∀c,c=decide (x.op=2∨x.op=4∨x.op=6)→k1 [.bool c] []:=by
    rintro c hc;rw[hk1]; clear hk1 k1;refine Qc (λh=>?_) (λh=>?_)
    ·rw[h] at hc;have a2:x.op=2∨x.op=4∨x.op=6:=by simpa using hc.symm
     have e:efArm cs t d x=sdOp x.who:=by rw[efArm,if_neg a1,if_pos a2]
     rw[e] at kk;cases z with
     |false=>
      repeat first|refine Yb ?_|refine Yc ?_|refine Xb rfl ?_|refine Xf rfl ?_|refine Zi rfl ?_|refine Xi rfl ?_|refine Ya (ldr (efLd0 x)) ?_|refine Ya (ldr (efLd1 x)) ?_|refine Ya (ldr (efLd6 x)) ?_|refine Ya (ldr (Yq x)) ?_|refine Ya (ldr (Xq x)) ?_|refine Ya (Yi ..) ?_|refine Ya (Xk ..) ?_|refine Ya (ldr (row:=chkM m t) rfl) ?_|refine Ya (Xl ..) ?_|refine Ya rfl ?_
      exact kk _ rfl
     |true=>
      repeat first|refine Yb ?_|refine Yc ?_|refine Ya (ldr (efLd0 x)) ?_|refine Ya (ldr (efLd1 x)) ?_|refine Ya (ldr (efLd6 x)) ?_|refine Ya (ldr (Yq x)) ?_|refine Ya (ldr (Xq x)) ?_|refine Ya (Yi ..) ?_|refine Ya (Xk ..) ?_|refine Ya (ldr (row:=chkM m t) rfl) ?_|refine Ya (Xl ..) ?_|refine Ya rfl ?_
      refine Ye (c212 _) rfl g212_ok.plain rfl ?_;repeat first|refine Yb ?_|refine Yc ?_|refine Ya (ldr (efLd0 x)) ?_|refine Ya (ldr (efLd1 x)) ?_|refine Ya (ldr (efLd6 x)) ?_|refine Ya (ldr (Yq x)) ?_|refine Ya (ldr (Xq x)) ?_|refine Ya (Yi ..) ?_|refine Ya (Xk ..) ?_|refine Ya (ldr (row:=chkM m t) rfl) ?_|refine Ya (Xl ..) ?_|refine Ya rfl ?_
      exact kk _ (by simp)
    rw[h] at hc;have a2:¬(x.op=2∨x.op=4∨x.op=6):=by simpa using hc.symm
    repeat first|refine Ya (ldr (efLd0 x)) ?_|refine Ya (ldr (efLd1 x)) ?_|refine Ya (ldr (efLd6 x)) ?_|refine Ya (ldr (Yq x)) ?_|refine Ya (ldr (Xq x)) ?_|refine Ya (Yi ..) ?_|refine Ya (Xk ..) ?_|refine Ya (ldr (row:=chkM m t) rfl) ?_|refine Ya (Xl ..) ?_|refine Ya rfl ?_
    refine Xn λk1 hk1=>?_;have m3:∀c,c=decide (x.op=3∨x.op=5)→k1 [.bool c] []:=by
     rintro c hc;rw[hk1]; clear hk1 k1;refine Qc (λh=>?_) (λh=>?_)
     ·rw[h] at hc;have a3:x.op=3∨x.op=5:=by simpa using hc.symm
      have e:efArm cs t d x=decide (x.who=0):=by rw[efArm,if_neg a1,if_neg a2,if_pos a3]
      rw[e] at kk;cases z with
      |false=>
       repeat first|refine Yb ?_|refine Yc ?_|refine Xb rfl ?_|refine Xf rfl ?_|refine Zi rfl ?_|refine Xi rfl ?_|refine Ya (ldr (efLd0 x)) ?_|refine Ya (ldr (efLd1 x)) ?_|refine Ya (ldr (efLd6 x)) ?_|refine Ya (ldr (Yq x)) ?_|refine Ya (ldr (Xq x)) ?_|refine Ya (Yi ..) ?_|refine Ya (Xk ..) ?_|refine Ya (ldr (row:=chkM m t) rfl) ?_|refine Ya (Xl ..) ?_|refine Ya rfl ?_
       exact kk _ rfl
      |true=>
       repeat first|refine Yb ?_|refine Yc ?_|refine Ya (ldr (efLd0 x)) ?_|refine Ya (ldr (efLd1 x)) ?_|refine Ya (ldr (efLd6 x)) ?_|refine Ya (ldr (Yq x)) ?_|refine Ya (ldr (Xq x)) ?_|refine Ya (Yi ..) ?_|refine Ya (Xk ..) ?_|refine Ya (ldr (row:=chkM m t) rfl) ?_|refine Ya (Xl ..) ?_|refine Ya rfl ?_
       exact kk _ (by simp)
     rw[h] at hc;have a3:¬(x.op=3∨x.op=5):=by simpa using hc.symm
     repeat first|refine Ya (ldr (efLd0 x)) ?_|refine Ya (ldr (efLd1 x)) ?_|refine Ya (ldr (efLd6 x)) ?_|refine Ya (ldr (Yq x)) ?_|refine Ya (ldr (Xq x)) ?_|refine Ya (Yi ..) ?_|refine Ya (Xk ..) ?_|refine Ya (ldr (row:=chkM m t) rfl) ?_|refine Ya (Xl ..) ?_|refine Ya rfl ?_
     refine Qc (λa7=>?_) (λa7=>?_)
     ·have a7:x.op=7:=by simpa using a7
      have e:efArm cs t d x=(decide (x.who=0)&&(tlook x.name m).getD false):=by
       rw[efArm,if_neg a1,if_neg a2,if_neg a3,if_pos a7,hU];cases tlook x.name m<;>simp
      rw[e] at kk;cases z with
      |false=>
       repeat first|refine Yb ?_|refine Yc ?_|refine Xb rfl ?_|refine Xf rfl ?_|refine Zi rfl ?_|refine Xi rfl ?_|refine Ya (ldr (efLd0 x)) ?_|refine Ya (ldr (efLd1 x)) ?_|refine Ya (ldr (efLd6 x)) ?_|refine Ya (ldr (Yq x)) ?_|refine Ya (ldr (Xq x)) ?_|refine Ya (Yi ..) ?_|refine Ya (Xk ..) ?_|refine Ya (ldr (row:=chkM m t) rfl) ?_|refine Ya (Xl ..) ?_|refine Ya rfl ?_
       exact kk _ rfl
      |true=>
       repeat first|refine Yb ?_|refine Yc ?_|refine Ya (ldr (efLd0 x)) ?_|refine Ya (ldr (efLd1 x)) ?_|refine Ya (ldr (efLd6 x)) ?_|refine Ya (ldr (Yq x)) ?_|refine Ya (ldr (Xq x)) ?_|refine Ya (Yi ..) ?_|refine Ya (Xk ..) ?_|refine Ya (ldr (row:=chkM m t) rfl) ?_|refine Ya (Xl ..) ?_|refine Ya rfl ?_
       rcases YBE (decide (x.who=0)) with h3|h3
       ·rw[h3] at kk ⊢;repeat first|refine Yb ?_|refine Yc ?_|refine Ya (ldr (efLd0 x)) ?_|refine Ya (ldr (efLd1 x)) ?_|refine Ya (ldr (efLd6 x)) ?_|refine Ya (ldr (Yq x)) ?_|refine Ya (ldr (Xq x)) ?_|refine Ya (Yi ..) ?_|refine Ya (Xk ..) ?_|refine Ya (ldr (row:=chkM m t) rfl) ?_|refine Ya (Xl ..) ?_|refine Ya rfl ?_
        exact kk _ (by simp)
       rw[h3] at kk ⊢;repeat first|refine Yb ?_|refine Yc ?_|refine Xb rfl ?_|refine Xf rfl ?_|refine Zi rfl ?_|refine Xi rfl ?_|refine Ya (ldr (efLd0 x)) ?_|refine Ya (ldr (efLd1 x)) ?_|refine Ya (ldr (efLd6 x)) ?_|refine Ya (ldr (Yq x)) ?_|refine Ya (ldr (Xq x)) ?_|refine Ya (Yi ..) ?_|refine Ya (Xk ..) ?_|refine Ya (ldr (row:=chkM m t) rfl) ?_|refine Ya (Xl ..) ?_|refine Ya rfl ?_
       exact kk _ (by simp)
     have a7:x.op≠7:=by simpa using a7
     repeat first|refine Ya (ldr (efLd0 x)) ?_|refine Ya (ldr (efLd1 x)) ?_|refine Ya (ldr (efLd6 x)) ?_|refine Ya (ldr (Yq x)) ?_|refine Ya (ldr (Xq x)) ?_|refine Ya (Yi ..) ?_|refine Ya (Xk ..) ?_|refine Ya (ldr (row:=chkM m t) rfl) ?_|refine Ya (Xl ..) ?_|refine Ya rfl ?_
     refine Qc (λa8=>?_) (λa8=>?_);rotate_left
     ·have a8:x.op≠8:=by simpa using a8
      refine stop ?_;rw[efArm,if_neg a1,if_neg a2,if_neg a3,if_neg a7,if_neg a8,Bool.and_false]
     have a8:x.op=8:=by simpa using a8
     have e:efArm cs t d x=(decide (x.who=0)&&(cnOk cs t x.c&&(lstOk cs t (d+1) x.thn&&lstOk cs t (d+1) x.els))):=by
      rw[efArm,if_neg a1,if_neg a2,if_neg a3,if_neg a7,if_pos a8]
     rw[e] at kk;have hw:IntKind.i64.wrap (d+1)=d+1:=wrapI (by omega) (by omega);cases z with
     |false=>
      repeat first|refine Yb ?_|refine Yc ?_|refine Xb rfl ?_|refine Xf rfl ?_|refine Zi rfl ?_|refine Xi rfl ?_|refine Ya (ldr (efLd0 x)) ?_|refine Ya (ldr (efLd1 x)) ?_|refine Ya (ldr (efLd6 x)) ?_|refine Ya (ldr (Yq x)) ?_|refine Ya (ldr (Xq x)) ?_|refine Ya (Yi ..) ?_|refine Ya (Xk ..) ?_|refine Ya (ldr (row:=chkM m t) rfl) ?_|refine Ya (Xl ..) ?_|refine Ya rfl ?_
      exact kk _ rfl
     |true=>
      repeat first|refine Yb ?_|refine Yc ?_|refine Ya (ldr (efLd0 x)) ?_|refine Ya (ldr (efLd1 x)) ?_|refine Ya (ldr (efLd6 x)) ?_|refine Ya (ldr (Yq x)) ?_|refine Ya (ldr (Xq x)) ?_|refine Ya (Yi ..) ?_|refine Ya (Xk ..) ?_|refine Ya (ldr (row:=chkM m t) rfl) ?_|refine Ya (Xl ..) ?_|refine Ya rfl ?_
      rcases YBE (decide (x.who=0)) with h3|h3
      rotate_left
      ·rw[h3] at kk ⊢;repeat first|refine Yb ?_|refine Yc ?_|refine Xb rfl ?_|refine Xf rfl ?_|refine Zi rfl ?_|refine Xi rfl ?_|refine Ya (ldr (efLd0 x)) ?_|refine Ya (ldr (efLd1 x)) ?_|refine Ya (ldr (efLd6 x)) ?_|refine Ya (ldr (Yq x)) ?_|refine Ya (ldr (Xq x)) ?_|refine Ya (Yi ..) ?_|refine Ya (Xk ..) ?_|refine Ya (ldr (row:=chkM m t) rfl) ?_|refine Ya (Xl ..) ?_|refine Ya rfl ?_
       exact kk _ (by simp)
      rw[h3] at kk ⊢;repeat first|refine Yb ?_|refine Yc ?_|refine Ya (ldr (efLd0 x)) ?_|refine Ya (ldr (efLd1 x)) ?_|refine Ya (ldr (efLd6 x)) ?_|refine Ya (ldr (Yq x)) ?_|refine Ya (ldr (Xq x)) ?_|refine Ya (Yi ..) ?_|refine Ya (Xk ..) ?_|refine Ya (ldr (row:=chkM m t) rfl) ?_|refine Ya (Xl ..) ?_|refine Ya rfl ?_
      refine Ye (c213 m cs hU t x.c _ _ (Xc2 x) (Zar hfx)) rfl g213_ok.plain rfl ?_;repeat first|refine Yb ?_|refine Yc ?_|refine Ya (ldr (efLd0 x)) ?_|refine Ya (ldr (efLd1 x)) ?_|refine Ya (ldr (efLd6 x)) ?_|refine Ya (ldr (Yq x)) ?_|refine Ya (ldr (Xq x)) ?_|refine Ya (Yi ..) ?_|refine Ya (Xk ..) ?_|refine Ya (ldr (row:=chkM m t) rfl) ?_|refine Ya (Xl ..) ?_|refine Ya rfl ?_
      rcases YBE (cnOk cs t x.c) with h4|h4
      rotate_left
      ·rw[h4] at kk ⊢;repeat first|refine Yb ?_|refine Yc ?_|refine Xb rfl ?_|refine Xf rfl ?_|refine Zi rfl ?_|refine Xi rfl ?_|refine Ya (ldr (efLd0 x)) ?_|refine Ya (ldr (efLd1 x)) ?_|refine Ya (ldr (efLd6 x)) ?_|refine Ya (ldr (Yq x)) ?_|refine Ya (ldr (Xq x)) ?_|refine Ya (Yi ..) ?_|refine Ya (Xk ..) ?_|refine Ya (ldr (row:=chkM m t) rfl) ?_|refine Ya (Xl ..) ?_|refine Ya rfl ?_
       exact kk _ (by simp)
      rw[h4] at kk ⊢;repeat first|refine Yb ?_|refine Yc ?_|refine Ya (ldr (efLd0 x)) ?_|refine Ya (ldr (efLd1 x)) ?_|refine Ya (ldr (efLd6 x)) ?_|refine Ya (ldr (Yq x)) ?_|refine Ya (ldr (Xq x)) ?_|refine Ya (Yi ..) ?_|refine Ya (Xk ..) ?_|refine Ya (ldr (row:=chkM m t) rfl) ?_|refine Ya (Xl ..) ?_|refine Ya rfl ?_
      rw[hw];refine Ye (c157' m cs hU t k x.thn (d+1) (by omega) (Y5 hfx) (by omega)) rfl g157_ok.plain rfl ?_;repeat first|refine Yb ?_|refine Yc ?_|refine Ya (ldr (efLd0 x)) ?_|refine Ya (ldr (efLd1 x)) ?_|refine Ya (ldr (efLd6 x)) ?_|refine Ya (ldr (Yq x)) ?_|refine Ya (ldr (Xq x)) ?_|refine Ya (Yi ..) ?_|refine Ya (Xk ..) ?_|refine Ya (ldr (row:=chkM m t) rfl) ?_|refine Ya (Xl ..) ?_|refine Ya rfl ?_
      rcases YBE (lstOk cs t (d+1) x.thn) with h5|h5
      rotate_left
      ·rw[h5] at kk ⊢;repeat first|refine Yb ?_|refine Yc ?_|refine Xb rfl ?_|refine Xf rfl ?_|refine Zi rfl ?_|refine Xi rfl ?_|refine Ya (ldr (efLd0 x)) ?_|refine Ya (ldr (efLd1 x)) ?_|refine Ya (ldr (efLd6 x)) ?_|refine Ya (ldr (Yq x)) ?_|refine Ya (ldr (Xq x)) ?_|refine Ya (Yi ..) ?_|refine Ya (Xk ..) ?_|refine Ya (ldr (row:=chkM m t) rfl) ?_|refine Ya (Xl ..) ?_|refine Ya rfl ?_
       exact kk _ (by simp)
      rw[h5] at kk ⊢;repeat first|refine Yb ?_|refine Yc ?_|refine Ya (ldr (efLd0 x)) ?_|refine Ya (ldr (efLd1 x)) ?_|refine Ya (ldr (efLd6 x)) ?_|refine Ya (ldr (Yq x)) ?_|refine Ya (ldr (Xq x)) ?_|refine Ya (Yi ..) ?_|refine Ya (Xk ..) ?_|refine Ya (ldr (row:=chkM m t) rfl) ?_|refine Ya (Xl ..) ?_|refine Ya rfl ?_
      rw[hw];refine Ye (c157' m cs hU t k x.els (d+1) (by omega) (Z5 hfx) (by omega)) rfl g157_ok.plain rfl ?_;repeat first|refine Yb ?_|refine Yc ?_|refine Ya (ldr (efLd0 x)) ?_|refine Ya (ldr (efLd1 x)) ?_|refine Ya (ldr (efLd6 x)) ?_|refine Ya (ldr (Yq x)) ?_|refine Ya (ldr (Xq x)) ?_|refine Ya (Yi ..) ?_|refine Ya (Xk ..) ?_|refine Ya (ldr (row:=chkM m t) rfl) ?_|refine Ya (Xl ..) ?_|refine Ya rfl ?_
      exact kk _ (by simp)
    clear hk1;refine Qc (λc1=>m3 _ ?_) (λc1=>?_)
    ·simp at c1; simp[c1]
    refine Ya (Yi ..) (m3 _ ?_);simp at c1; simp[c1]
   clear hk1;refine Qc (λc1=>m2 _ ?_) (λc1=>?_)
   ·simp at c1; simp[c1]
   refine Ya (Yi ..) (Qc (λc2=>m2 _ ?_) (λc2=>?_))
   ·simp at c2; simp[c2]
   refine Ya (Yi ..) (m2 _ ?_);simp at c1 c2; simp[c1,c2]
  clear hk1;refine Qc (λc1=>m1 _ ?_) (λc1=>?_)
  ·simp at c1; simp[c1]
  refine Ya (Yi ..) (m1 _ ?_);simp at c1; simp[c1]
theorem c157(m:List (Tx×Bool))(cs:List Cd)(hU:Units m cs)(t:Bool)(l:List Ef)(d:Int)(hf:lsFit l=true)(hd:0≤d):PC 157 [.rptr (chkM m t) 0,efV l,iv d] (.bool (lstOk cs t d l)):=c157' m cs hU t _ l d (Nat.le_refl _) hf hd
end Go.Ah.Tz
end
section
namespace Go.Ah.Tz
open Go.Proofs.Tryz (prog)
attribute [local irreducible] Ans.rd Ans.pu Ans.wr Ans.dr Ans.gr Ans.gw Ans.gl Ans.gd Ans.opt joinK W
set_option maxHeartbeats 2000000
theorem c221(m:List (Tx×Bool))(cs:List Cd)(hU:Units m cs)(c:Cd)(hf:cdFit c=true)
 (h223:PC 223 [.str c.name] (.bool (nameOk c.name)))(h124:PC 124 [.agg (cdC c)] (iv (cdW c))) :
  PC 221 [.rptr (cdC c) 0,.rmap (mpE m)] (.bool (cdOk cs c)):=by
 simp only[cdFit,Bool.and_eq_true,decide_eq_true_eq] at hf;obtain⟨f0,f1,f2,f3⟩:=hf;have bad:cdOk cs c=false→AVal.bool false=AVal.bool (cdOk cs c):=λh=>by rw[h]
 refine Ze hP g221_ok rfl rfl ?_;unfold g221;repeat first|refine Ya (ldr (row:=cdC c) rfl) ?_|refine Ya rfl ?_
 refine QI 7 ?_;refine Ym (Ya rfl (Zg (Ya rfl (Ya rfl (XL rfl rfl (Qc (λh=>bad ?_) (λb1=>Ya rfl ?_)))))))
 ·have:in999 c.cost=false:=by
   rw[Bool.eq_false_iff]; intro hh; simp[in999] at hh; simp at h; omega
  simp[cdOk,this]
 have b1:0≤c.cost∧c.cost≤999:=by simp at b1; omega
 refine Ym (Ya rfl (Zg (Ya rfl (Ya rfl (XL rfl rfl (Qc (λh=>bad ?_) (λb2=>Ya rfl ?_)))))))
 ·have:in999 c.power=false:=by
   rw[Bool.eq_false_iff]; intro hh; simp[in999] at hh; simp at h; omega
  simp[cdOk,this]
 have b2:0≤c.power∧c.power≤999:=by simp at b2; omega
 refine Ym (Ya rfl (Zg (Ya rfl (Ya rfl (XL rfl rfl (Qc (λh=>bad ?_) (λb3=>Ya rfl ?_)))))))
 ·have:in999 c.health=false:=by
   rw[Bool.eq_false_iff]; intro hh; simp[in999] at hh; simp at h; omega
  simp[cdOk,this]
 have b3:0≤c.health∧c.health≤999:=by simp at b3; omega
 refine Ym (Ya rfl (Zg (Ya rfl (Ya rfl (XL rfl rfl (Qc (λh=>bad ?_) (λb4=>Ya rfl ?_)))))))
 ·have:in999 c.shield=false:=by
   rw[Bool.eq_false_iff]; intro hh; simp[in999] at hh; simp at h; omega
  simp[cdOk,this]
 have b4:0≤c.shield∧c.shield≤999:=by simp at b4; omega
 refine Ym (Ya rfl (Zg (Ya rfl (Ya rfl (XL rfl rfl (Qc (λh=>bad ?_) (λb5=>Ya rfl ?_)))))))
 ·have:in999 c.aurap=false:=by
   rw[Bool.eq_false_iff]; intro hh; simp[in999] at hh; simp at h; omega
  simp[cdOk,this]
 have b5:0≤c.aurap∧c.aurap≤999:=by simp at b5; omega
 refine Ym (Ya rfl (Zg (Ya rfl (Ya rfl (XL rfl rfl (Qc (λh=>bad ?_) (λb6=>Ya rfl ?_)))))))
 ·have:in999 c.aurah=false:=by
   rw[Bool.eq_false_iff]; intro hh; simp[in999] at hh; simp at h; omega
  simp[cdOk,this]
 have b6:0≤c.aurah∧c.aurah≤999:=by simp at b6; omega
 refine Ym (Ya rfl (Xh ?_));have hok:cdOk cs c=(nameOk c.name&&(decide (cdW c≤200)&&(cdSum c&&(lstOk cs true 1 c.played&&(lstOk cs false 1 c.dead&&lstOk cs false 1 c.dawn))))):=by
  have e1:in999 c.cost=true:=by simp[in999]; omega
  have e2:in999 c.power=true:=by simp[in999]; omega
  have e3:in999 c.health=true:=by simp[in999]; omega
  have e4:in999 c.shield=true:=by simp[in999]; omega
  have e5:in999 c.aurap=true:=by simp[in999]; omega
  have e6:in999 c.aurah=true:=by simp[in999]; omega
  simp only[cdOk,e1,e2,e3,e4,e5,e6,Bool.true_and];generalize decide (cdW c≤200)=w;cases w<;>simp
 rw[hok] at bad ⊢;clear hok;repeat first|refine Ya (ldr (row:=cdC c) rfl) ?_|refine Ya rfl ?_
 refine Ye h223 rfl g223_ok.plain rfl ?_;refine Ya rfl ?_;refine Xn λk33 hk33=>?_;have kk1:(nameOk c.name&&(decide (cdW c≤200)&&(cdSum c&&(lstOk cs true 1 c.played&&(lstOk cs false 1 c.dead&&lstOk cs false 1 c.dawn)))))=false→k33 [.bool true] []:=by
  intro h;rw[hk33];exact Zg (bad h)
 have kk2:nameOk c.name=true→cdW c≤200→(c.unit=true→1≤c.health)→k33 [.bool false] []:=by
  intro n1 n2 n3;rw[hk33]; clear hk33 kk1 k33;rw[n1,decide_eq_true n2,Bool.true_and,Bool.true_and] at bad ⊢;refine Xh ?_;repeat first|refine Ya (ldr (row:=cdC c) rfl) ?_|refine Ya rfl ?_
  apply cutF (cdSum c=true)
  ·intro hR;cases hu:c.unit with
   |true=>
    repeat first|refine Yb ?_|refine Yc ?_|refine Xb rfl ?_|refine Xf rfl ?_|refine Zi rfl ?_|refine Xi rfl ?_|refine Ya (ldr (row:=cdC c) rfl) ?_|refine Ya rfl ?_
    refine Xh (hR ?_);simp[cdSum,hu,n3 hu]
   |false=>
    repeat first|refine Yb ?_|refine Yc ?_|refine Xb rfl ?_|refine Xf rfl ?_|refine Zi rfl ?_|refine Xi rfl ?_|refine Ya (ldr (row:=cdC c) rfl) ?_|refine Ya rfl ?_
    rw[wrapI (n:=c.power+c.health) (by omega) (by omega),wrapI (n:=c.power+c.health+c.shield) (by omega) (by omega),wrapI (n:=c.power+c.health+c.shield+c.aurap) (by omega) (by omega),wrapI (n:=c.power+c.health+c.shield+c.aurap+c.aurah) (by omega) (by omega)];rcases YBE (decide (c.power+c.health+c.shield+c.aurap+c.aurah>0)) with h|h
    ·rw[h];repeat first|refine Yb ?_|refine Yc ?_|refine Xb rfl ?_|refine Xf rfl ?_|refine Zi rfl ?_|refine Xi rfl ?_|refine Ya (ldr (row:=cdC c) rfl) ?_|refine Ya rfl ?_
     refine Zg (bad ?_);have h:¬(c.power+c.health+c.shield+c.aurap+c.aurah≤0):=by simp at h; omega
     simp[cdSum,hu,h]
    rw[h];repeat first|refine Yb ?_|refine Yc ?_|refine Ya (ldr (row:=cdC c) rfl) ?_|refine Ya rfl ?_
    have h:(c.power+c.health+c.shield+c.aurap+c.aurah≤0):=by simp at h; omega
    have l1:=YS f2;have l2:=YS f3;rw[bigE] at l1 l2;rw[List.length_map,List.length_map,wrapI (n:=(c.dead.length:Int)+(c.dawn.length:Int)) (by omega) (by omega)];refine Qc (λh2=>bad ?_) (λh2=>hR ?_)
    ·have h2:¬(c.dead.length+c.dawn.length=0):=by simp at h2; omega
     have:cdSum c=false:=by rw[cdSum,hu,decide_eq_false h2]; simp
     simp[this]
    ·have h2:(c.dead.length+c.dawn.length=0):=by simp at h2; omega
     rw[cdSum,hu,decide_eq_true h2,decide_eq_true h]; rfl
  intro b7;rw[b7,Bool.true_and];refine Ya rfl (Zd rfl rfl (Ya rfl (Ya rfl (Ya (ldr (row:=cdC c) rfl) ?_))));refine XE (c157 m cs hU true c.played 1 f1 (by omega)) rfl g157_ok.plain rfl rfl ?_;refine Ya rfl (Qc (λp1=>?_) (λp1=>?_))
  ·have p1:lstOk cs true 1 c.played=false:=by simpa using p1
   rw[p1]; rfl
  have p1:lstOk cs true 1 c.played=true:=by simpa using p1
  rw[p1,Bool.true_and];refine Ya rfl (Ya rfl (Zd rfl rfl (Ya rfl (Ya rfl (Ya (ldr (row:=cdC c) rfl) ?_)))));refine XE (c157 m cs hU false c.dead 1 f2 (by omega)) rfl g157_ok.plain rfl rfl ?_;rcases YBE (lstOk cs false 1 c.dead) with p2|p2
  rotate_left
  ·rw[p2];repeat first|refine Yb ?_|refine Yc ?_|refine Xb rfl ?_|refine Xf rfl ?_|refine Zi rfl ?_|refine Xi rfl ?_|refine Ya (ldr (row:=cdC c) rfl) ?_|refine Ya rfl ?_
   rfl
  rw[p2];repeat first|refine Yb ?_|refine Yc ?_|refine Ya (ldr (row:=cdC c) rfl) ?_|refine Ya rfl ?_
  refine XE (c157 m cs hU false c.dawn 1 f3 (by omega)) rfl g157_ok.plain rfl rfl ?_;repeat first|refine Yb ?_|refine Yc ?_|refine Ya (ldr (row:=cdC c) rfl) ?_|refine Ya rfl ?_
  rfl
 clear hk33 bad;refine Qc (λn1=>?_) (λn1=>?_)
 ·rw[n1];refine kk1 ?_;have n1:nameOk c.name=false:=by simpa using n1
  rw[n1]; rfl
 have n1:nameOk c.name=true:=by simpa using n1
 refine Ya rfl (Ya (ldr (cdLd c)) ?_);refine Ye h124 rfl g124_ok.plain rfl ?_;refine Ya rfl (Qc (λn2=>?_) (λn2=>?_))
 ·rw[n2];refine kk1 ?_;have n2:¬cdW c≤200:=by simp at n2; omega
  rw[decide_eq_false n2]; simp
 have n2:cdW c≤200:=by simp at n2; omega
 repeat first|refine Ya (ldr (row:=cdC c) rfl) ?_|refine Ya rfl ?_
 cases hu:c.unit with
 |false=>
  repeat first|refine Yb ?_|refine Yc ?_|refine Xb rfl ?_|refine Xf rfl ?_|refine Zi rfl ?_|refine Xi rfl ?_|refine Ya (ldr (row:=cdC c) rfl) ?_|refine Ya rfl ?_
  exact kk2 n1 n2 (λh=>by rw[hu] at h; cases h)
 |true=>
  repeat first|refine Yb ?_|refine Yc ?_|refine Ya (ldr (row:=cdC c) rfl) ?_|refine Ya rfl ?_
  rcases YBE (decide (c.health<1)) with h|h
  ·rw[h];refine kk1 ?_;have:cdSum c=false:=by simp at h; simp[cdSum,hu]; omega
   rw[this]; simp
  ·rw[h];exact kk2 n1 n2 (λ_=>by simp at h; omega)
end Go.Ah.Tz
end
section
namespace Go.Ah.Tz
open Go.Proofs.Tryz (prog)
def tput(t:Tx)(v:Bool):List (Tx×Bool)→List (Tx×Bool)
 |[]=>[(t,v)]
 |p::l=>if t==p.1 then (t,v)::l else p::tput t v l
theorem Qby(t:Tx)(v:Bool):∀l,aput (.str t) (.bool v) (mpE l)=some (mpE (tput t v l))
 |[]=>rfl
 |p::l=>by
  simp only[mpE,List.map_cons,aput,keyEq,tput];cases h:t==p.1 with
  |true=>rfl
  |false=>
   have:=Qby t v l;simp only[mpE] at this;simp only[this]; rfl
theorem ZQ(t n:Tx)(v:Bool):∀l,tlook t (tput n v l)=if t==n then some v else tlook t l
 |[]=>by simp[tput,tlook]
 |p::l=>by
  simp only[tput];by_cases h:n==p.1
  ·have e:n=p.1:=by simpa using h
   rw[if_pos h,tlook,tlook,←e];by_cases h2:t==n<;>simp[h2]
  ·rw[if_neg h,tlook,tlook,ZQ t n v l];have e:n≠p.1:=by simpa using h
   by_cases h2:t==p.1
   ·have e2:t=p.1:=by simpa using h2
    have:¬(t==n)=true:=by simp[e2]; exact λh=>e h.symm
    rw[if_pos h2,if_neg this,if_pos h2]
   ·rw[if_neg h2];by_cases h3:t==n<;>simp[h3,h2]
theorem Ya6:∀l,roES (mpE l)=true
 |[]=>rfl
 |p::l=>by
  have:=Ya6 l;simp only[mpE] at this;simp[mpE,roES,AVal.ro,this]
theorem ZbW{σ:List ABlk}{b:Nat}{l:List (Tx×Bool)}(h:hget σ b=.map (mpE l))(row:List AVal)(j:Nat):Xt σ 1000 [.rptr row j,.map b]=some ([.rptr row j,.rmap (mpE l)],[b]):=by
 show Xt σ (998+1+1) _=_;simp[Xt,h,Ya6,AVal.ro]
theorem XcO{σ:List ABlk}{b:Nat}{l:List (Tx×Bool)}(h:hget σ b=.map (mpE l))(t:Tx):Zq true true (.bool false) [.map b,.str t] σ=.ok (.tup [.bool ((tlook t l).getD false),.bool (tlook t l).isSome]) [b] []:=by
 simp only[Zq,Z1,mapOf,h,Q3,cond_true];cases tlook t l<;>rfl
theorem Ya3{σ:List ABlk}{b:Nat}{l:List (Tx×Bool)}(h:hget σ b=.map (mpE l))(t:Tx):Zq true false (.bool false) [.map b,.str t] σ=.ok (.bool ((tlook t l).getD false)) [b] []:=by
 simp only[Zq,Z1,mapOf,h,Q3,cond_true];cases tlook t l<;>rfl
theorem Qbb{σ:List ABlk}{b:Nat}{l:List (Tx×Bool)}(h:hget σ b=.map (mpE l))(t:Tx)(v:Bool):Xw true [.map b,.str t,.bool v] σ=.ok .junk [] [(b,.map (mpE (tput t v l)))]:=by
 simp only[Xw,Z1,h,Qby,cond_true]
def findO:List Cd→Tx→Option Bool
 |[],_=>none
 |c::l,t=>if c.name==t then some c.unit else findO l t
theorem Qb5:∀ (l:List Cd) (t:Tx) (u:Bool),findC l t u=(match findO l t with
 |none=>false
 | some b=>b || !u)
 |[],_,_=>rfl
 |c::l,t,u=>by
  simp only[findC,findO];by_cases h:c.name==t
  ·rw[if_pos h,if_pos h]
  ·rw[if_neg h,if_neg h]; exact Qb5 l t u
theorem Qar:∀ (l:List Cd) (c:Cd) (t:Tx),findO (l ++ [c]) t=(match findO l t with
 |some b=>some b
 | none=>if c.name == t then some c.unit else none)
 |[],_,_=>rfl
 |d::l,c,t=>by
  simp only[List.cons_append,findO];by_cases h:d.name==t
  ·rw[if_pos h,if_pos h]
  ·rw[if_neg h,if_neg h]; exact Qar l c t
def UnitsO(m:List (Tx×Bool))(l:List Cd):Prop:=∀t,tlook t m=findO l t
theorem UnitsO.units{m:List (Tx×Bool)}{l:List Cd}(h:UnitsO m l):Units m l:=by
 intro t u; rw[Qb5,h t]<;>cases findO l t<;>rfl
theorem UnitsO.old{m:List (Tx×Bool)}{l:List Cd}(h:UnitsO m l){c:Cd}(hc:(tlook c.name m).isSome=true):UnitsO m (l++[c]):=by
 intro t;rw[Qar,←h t];cases e:tlook t m with
 |some b=>rfl
 |none=>
  by_cases h2:c.name==t
  ·have:c.name=t:=by simpa using h2
   rw[this,e] at hc; cases hc
  ·rw[if_neg h2]
theorem UnitsO.new{m:List (Tx×Bool)}{l:List Cd}(h:UnitsO m l){c:Cd}(hc:(tlook c.name m).isSome=false):UnitsO (tput c.name c.unit m) (l++[c]):=by
 intro t;rw[Qar,←h t,ZQ];by_cases h2:t==c.name
 ·have e:t=c.name:=by simpa using h2
  subst e;cases e:tlook c.name m with
  |some b=>rw[e] at hc; cases hc
  |none=>simp
 ·have h3:¬(c.name==t)=true:=by
   intro h; apply h2; simp at h; simp[h]
  rw[if_neg h2,if_neg h3];cases tlook t m<;>rfl
def Seen(m:List (Tx×Bool))(l:List Cd):Prop:=∀t,(tlook t m).getD false=l.any λd=>d.name==t
theorem Seen.put{m:List (Tx×Bool)}{l:List Cd}(h:Seen m l)(c:Cd):Seen (tput c.name true m) (l++[c]):=by
 intro t;rw[ZQ,List.any_append,←h t];by_cases h2:t==c.name
 ·have e:t=c.name:=by simpa using h2
  simp[e]
 ·have h3:(c.name==t)=false:=by
   rw[Bool.eq_false_iff]; intro h; apply h2; simp at h; simp[h]
  rw[if_neg h2]; simp[h3]
theorem Qk{σ:List ABlk}{b:Nat}(x:ABlk)(h:b<σ.length):hget (σ.set b x) b=x:=QJ (by simp[h])
attribute [local irreducible] Ans.rd Ans.pu Ans.wr Ans.dr Ans.gr Ans.gw Ans.gl Ans.gd Ans.opt joinK W
set_option maxHeartbeats 1000000
theorem c180(cs:List Cd)(hf:Zaf cs=true)(h221:∀m,Units m cs→∀c∈cs,PC 221 [.rptr (cdC c) 0,.rmap (mpE m)] (.bool (cdOk cs c))) :
  PC 180 [cdV cs] (.agg [iv (Q2 cs).1,iv (Q2 cs).2]):=by
 simp only[Zaf,Bool.and_eq_true,decide_eq_true_eq] at hf;obtain⟨f0,f1⟩:=hf;rw[bigE] at f0;refine Ze hP g180_ok rfl rfl ?_;unfold g180;refine Zd rfl rfl (Ya rfl (Ya rfl ?_));refine Qc (λh=>?_) (λh=>?_)
 ·have h:240<cs.length:=by simp at h; omega
  refine Ya rfl (Zd rfl rfl (Xm rfl ?_));rw[Q2,if_pos h]
 have h:¬240<cs.length:=by simp at h; omega
 rw[Q2,if_neg h];refine Zd rfl rfl (Ya rfl ?_);refine Xo (ι:=Nat) (λi vs σ=>∃m,vs=[iv i]∧hget σ 0=.box [iv 0,iv 0]∧hget σ 1=.map (mpE m)∧1<σ.length∧i≤cs.length∧UnitsO m (cs.take i)) (λi=>cs.length-i) 0 ⟨[],rfl,rfl,rfl,by simp,by omega,λt=>by simp[tlook,findO]⟩ ?_;rintro i vs σ again ⟨m,rfl,hz,hm,hln,hi,hu⟩ hag;refine Ya rfl ?_;refine Qc (λh=>?_) (λh=>?_)
 ·have hil:i<cs.length:=by simpa using h
  have hix:=λ(s:List ABlk)=>Qu s cdC false false 12 cs .i64 i hil;have htk:cs.take (i+1)=cs.take i++[cs[i]]:=QL cs i hil;generalize cs[i]=c at hix htk;refine Xn λk10 hk10=>?_;have kk:∀m' σ',UnitsO m' (cs.take i++[c])→hget σ' 0=.box [iv 0,iv 0]→hget σ' 1=.map (mpE m')→1<σ'.length→k10 [] σ':=by
   intro m' σ' q1 q2 q3 q4;rw[hk10];refine Ya (Qn ..) ?_;rw[Xg (n:=i) (by omega)];exact hag (i+1) _ _ (by omega) ⟨m',rfl,q2,q3,q4,by omega,by rw[htk]; exact q1⟩
  clear hk10 hag;refine Ya (hix _) (Ya (ldr (cdLd _)) (Xz (row:=cdC c) (row':=cdC c) rfl rfl rfl ?_));have hB0:=Qh σ (ABlk.box (cdC c));have hz':hget (σ++[ABlk.box (cdC c)]) 0=.box [iv 0,iv 0]:=Qf _ hz (by simp);have hm':hget (σ++[ABlk.box (cdC c)]) 1=.map (mpE m):=Qf _ hm (by simp);have hl':1<(σ++[ABlk.box (cdC c)]).length:=by simp; omega
  generalize σ++[ABlk.box (cdC c)]=base at hB0 hz' hm' hl' ⊢;generalize σ.length=b at hB0 ⊢;refine Ya rfl (Ya (ld hB0 rfl) (Ya (XcO hm' _) (Ya rfl (Ya rfl (Ya rfl ?_)))));refine Qc (λh=>?_) (λh=>?_)
  ·have h:(tlook c.name m).isSome=false:=by simpa using h
   refine Ya rfl (Ya (ld hB0 rfl) (Ya rfl (Ya (ld hB0 rfl) (Zd (Qbb hm' _ _) (Yo _ hl') ?_))));exact kk _ _ (hu.new h) (Xj hz' (by simp) (by omega)) (Qk _ hl') (by simpa using hl')
  ·have h:(tlook c.name m).isSome=true:=by simpa using h
   exact kk _ _ (hu.old h) hz' hm' hl'
 have h:i=cs.length:=by simp at h; omega
 subst h;rw[List.take_length] at hu;have hmay:=h221 m hu.units;clear hag hu h221;refine Zd rfl (Qs _ _) (Ya rfl ?_);have hz':hget (σ++[ABlk.map []]) 0=.box [iv 0,iv 0]:=Qf _ hz (by simp);have hm':hget (σ++[ABlk.map []]) 1=.map (mpE m):=Qf _ hm (by simp);have hs':hget (σ++[ABlk.map []]) σ.length=.map (mpE []):=Qh _ _;have hl':σ.length<(σ++[ABlk.map []]).length:=by simp
 generalize σ++[ABlk.map []]=base at hz' hm' hs' hl' ⊢;generalize σ.length=b at hs' hl' hln ⊢;refine Xo (ι:=Nat) (λi vs s=>∃m2,vs=[iv i]∧hget s 0=.box [iv 0,iv 0]∧hget s 1=.map (mpE m)∧hget s b=.map (mpE m2)∧b<s.length∧i≤cs.length∧Seen m2 (cs.take i)∧cdsGo cs [] cs=cdsGo cs (cs.take i) (cs.drop i)) (λi=>cs.length-i) 0 ⟨[],rfl,hz',hm',hs',hl',by omega,λt=>by simp[tlook],by simp⟩ ?_;clear hz' hm' hs' hl' base hz hm σ;rintro i vs s again ⟨m2,rfl,hz,hm,hs,hl,hi,hse,hu⟩ hag;refine Ya rfl ?_;refine Qc (λh=>?_) (λh=>?_);rotate_left
 ·have h:i=cs.length:=by simp at h; omega
  subst h;rw[List.drop_length,cdsGo] at hu;refine Ya rfl (Zd (stv hz rfl rfl rfl) (Yo _ (by show 0<s.length; omega)) (Xm (XQ (by show 0<s.length; omega) rfl) ?_));rw[hu]
 have hil:i<cs.length:=by simpa using h
 have hdr:cs.drop i=cs[i]::cs.drop (i+1):=by rw[YLD hil]
 have hix:=λ(s:List ABlk)=>Qu s cdC false false 12 cs .i64 i hil;have htk:cs.take (i+1)=cs.take i++[cs[i]]:=QL cs i hil;have hmy:=hmay _ (List.getElem_mem hil);generalize cs[i]=c at hix htk hdr hmy;rw[hdr,cdsGo,←hse c.name] at hu;refine Ya (hix _) (Ya rfl (Ya rfl (Ya (ldr (cdLd0 _)) (Ya (Ya3 hs _) ?_))));refine Qc (λh=>?_) (λh=>?_)
 ·rw[if_pos h] at hu;refine Ya rfl (Ya rfl (Ya (ldr (YcH _)) (Ya rfl (Zd (stv hz rfl rfl rfl) (Yo _ (by show 0<s.length; omega)) (Xm (XQ (by show 0<s.length; omega) rfl) ?_)))));rw[hu]
 rw[if_neg (by rw[h]; simp)] at hu;refine XE hmy rfl g221_ok.plain (ZbW hm _ _) rfl ?_;refine Ya rfl ?_;refine Qc (λh=>?_) (λh=>?_)
 ·have h:cdOk cs c=false:=by simpa using h
  rw[h] at hu
  replace hu:cdsGo cs [] cs=(130,c.pl):=hu
  refine Ya rfl (Ya rfl (Ya (ldr (YcH _)) (Ya rfl (Zd (stv hz rfl rfl rfl) (Yo _ (by show 0<s.length; omega)) (Xm (XQ (by show 0<s.length; omega) rfl) ?_)))));rw[hu]
 ·have h:cdOk cs c=true:=by simpa using h
  rw[h,if_pos rfl] at hu;refine Ya rfl (Ya rfl (Ya (ldr (cdLd0 _)) (Zd (Qbb hs _ _) (Yo _ hl) (Ya (Qn ..) ?_))));rw[Xg (n:=i) (by omega)];refine hag (i+1) _ _ (by omega) ⟨_,rfl,?_,?_,Qk _ hl,by simpa using hl,by omega,by rw[htk]; exact hse.put c,by rw[htk]; exact hu⟩
  ·exact Xj hz (by simp) (by omega)
  ·exact Xj hm (by simp) (by omega)
end Go.Ah.Tz
end
section
namespace Go.Ah.Tz
open Go.Proofs.Tryz (prog)
set_option maxRecDepth 1000000
theorem hTm:∀f np g,tb.get f=some (np,g)→GQ f np g:=GT.get_ok tb_ok
def ownTx:Tx:=[99,97,114,100,32,117,110,105,116,32,99,104,97,114,109,32,102,111,114,109,97,116,32,112,108,97,121,101,100,32,100,101,97,100,32,100,97,119,110,32,97,117,114,97,32,115,104,105,101,108,100,32,104,97,114,109,32,109,101,110,100,32,100,114,97,119,32,103,97,105,110,32,100,114,111,112,32,108,111,111,107,32,115,104,111,119,32,115,117,109,109,111,110,32,105,102,32,101,108,115,101,32,109,101,32,102,111,101,32,116,97,114,103,101,116,32,108,105,102,101,32,104,97,110,100,32,100,101,99,107,32,117,110,105,116,115,32,109,97,110,97,32,99,111,115,116,32,116,111,112,32,112,111,119,101,114,32,109,105,110,32,109,97,120,32,110,111,116,32,97,110,100,32,111,114,32,104,111,108,100,115,32,108,101,97,115,116,32,109,111,115,116,32,99,111,112,105,101,115,32,98,97,110,110,101,100,32,115,105,110,103,108,101]
theorem p264:PC 264 [.str ownTx] (.rsl true false 1 (keysR.map txC)):=QaC hP hTm (much:=1000000000) 60 (by kernel_rfl)
def ownM:List (Tx×Bool):=keysR.foldl (λm k=>tput k true m) []
theorem Ya1(t:Tx):∀(l:List Tx) (m:List (Tx×Bool)),(tlook t (l.foldl (λm k=>tput k true m) m)).getD false=((tlook t m).getD false||ownIn l t)
 |[],m=>by simp[ownIn]
 |k::l,m=>by
  rw[List.foldl_cons,Ya1 t l,ZQ,ownIn];by_cases h:t==k
  ·have e:t=k:=by simpa using h
   subst e; simp
  ·have h2:(k==t)=false:=by
    rw[Bool.eq_false_iff]; intro q; apply h; simp at q; simp[q]
   rw[if_neg h,h2,Bool.false_or]
theorem ZcS(t:Tx):(tlook t ownM).getD false=ownIn keysR t:=by
 rw[ownM,Ya1]; rfl
attribute [local irreducible] Ans.rd Ans.pu Ans.wr Ans.dr Ans.gr Ans.gw Ans.gl Ans.gd Ans.opt joinK W
theorem c258:PC 258 [] (.rmap (mpE ownM)):=by
 refine Zch hP g258_ok rfl ⟨.map 0,[.map (mpE ownM)],?_,?_⟩
 ·show (match Xt [.map (mpE ownM)] (998 + 1 + 1) [.map 0] with
   |some ([y],_)=>some y
   | _=>none)=_
  have:hget [ABlk.map (mpE ownM)] 0=.map (mpE ownM):=rfl;simp only[Xt,this,Ya6,cond_true]
 unfold g258;refine Zd rfl rfl ?_;refine Ye p264 rfl g264_ok.plain rfl ?_;refine Ya rfl ?_;have hlen:keysR.length=41:=rfl;unfold ownM;generalize keysR=l at hlen ⊢;refine Xo (ι:=Nat) (λi vs σ=>∃m,vs=[iv i]∧σ=[.map (mpE m)]∧i≤l.length∧l.foldl (λm k=>tput k true m) []=(l.drop i).foldl (λm k=>tput k true m) m) (λi=>l.length-i) 0 ⟨[],rfl,rfl,by omega,by simp⟩ ?_;rintro i vs σ again ⟨m,rfl,rfl,hi,hu⟩ hag;refine Ya rfl ?_;refine Qc (λh=>?_) (λh=>?_)
 ·have h:i<l.length:=by simpa using h
  have hdr:l.drop i=l[i]::l.drop (i+1):=by rw[YLD h]
  rw[hdr,List.foldl_cons] at hu;refine Ya (Qu _ txC _ _ _ l .i64 i h) (Ya (ldr (txLd _)) (Zd (Qbb (b:=0) rfl _ _) rfl (Ya (Qn ..) ?_)));rw[Xg (n:=i) (by omega)];exact hag (i+1) _ _ (by omega) ⟨_,rfl,rfl,by omega,hu⟩
 ·have h:i=l.length:=by simp at h; omega
  subst h;rw[List.drop_length,List.foldl_nil] at hu;rw[hu]; exact⟨rfl,rfl⟩
theorem c242(s:Tx):PC 242 [.str s] (.bool (ownIn keysR s)):=by
 refine Ze hP g242_ok rfl rfl ?_;unfold g242;refine Ye c258 rfl g258_ok.plain rfl ?_;refine Ya (Xl ..) ?_;rw[ZcS]
end Go.Ah.Tz
end
section
namespace Go.Ah.Tz
open Go.Proofs.Tryz (prog)
attribute [local irreducible] Ans.rd Ans.pu Ans.wr Ans.dr Ans.gr Ans.gw Ans.gl Ans.gd Ans.opt joinK W
theorem c257(x:Int):PC 257 [.int .i32 x] (.bool (isDig x)):=by
 refine Ze hP g257_ok rfl rfl ?_;unfold g257;refine Ya rfl (ZaH rfl rfl ?_);exact congrArg AVal.bool (by rw[Bool.eq_iff_iff]; simp[isDig])
theorem c256(x:Int):PC 256 [.int .i32 x] (.bool (isLet x)):=by
 refine Ze hP g256_ok rfl rfl ?_;unfold g256;refine Ya rfl (ZaH rfl rfl ?_);refine Xn λk1 hk1=>?_;have kk:∀c,c=decide ((97≤x∧x≤122)∨(65≤x∧x≤90))→k1 [.bool c] []:=by
  rintro c hc;rw[hk1]; clear hk1 k1;refine Qc (λh=>?_) (λh=>?_)
  ·rw[h] at hc;have hc:(97≤x∧x≤122)∨(65≤x∧x≤90):=by simpa using hc.symm
   exact congrArg AVal.bool (by rw[eq_comm,isLet,decide_eq_true_eq]; omega)
  rw[h] at hc;have hc:¬((97≤x∧x≤122)∨(65≤x∧x≤90)):=of_decide_eq_false hc.symm;refine Ya (Yi ..) ?_;refine Xn λk1 hk1=>?_;have k2:∀c,c=decide (x=215∨x=247)→k1 [.bool c] []:=by
   rintro c hc2;rw[hk1]; clear hk1 k1;refine Qc (λh=>?_) (λh=>?_)
   ·rw[h] at hc2;have hc2:x=215∨x=247:=of_decide_eq_true hc2.symm;exact congrArg AVal.bool (by rw[eq_comm,isLet,decide_eq_false_iff_not]; omega)
   rw[h] at hc2;have hc2:¬(x=215∨x=247):=of_decide_eq_false hc2.symm;refine Ya rfl (ZaH rfl rfl ?_);exact congrArg AVal.bool (by rw[Bool.eq_iff_iff,Bool.and_eq_true,isLet,decide_eq_true_eq,decide_eq_true_eq,decide_eq_true_eq]; omega)
  clear hk1;refine Qc (λh=>k2 _ ?_) (λh=>?_)
  ·rw[h]; rw[eq_comm,decide_eq_true_eq]; exact Or.inl (of_decide_eq_true h)
  ·have h:x≠215:=of_decide_eq_false h;refine Ya (Yi ..) (k2 _ ?_);rw[Bool.eq_iff_iff,decide_eq_true_eq,decide_eq_true_eq]; omega
 clear hk1;refine Qc (λh=>kk _ ?_) (λh=>?_)
 ·rw[h]; rw[eq_comm,decide_eq_true_eq]; simp at h; omega
 ·refine Ya rfl (ZaH rfl rfl (kk _ ?_));rw[Bool.eq_iff_iff,Bool.and_eq_true,decide_eq_true_eq,decide_eq_true_eq,decide_eq_true_eq]; simp at h; omega
end Go.Ah.Tz
end
section
namespace Go.Ah.Tz
theorem all256{p:Nat→Bool}(h:(List.range 256).all p=true){c:Nat}(hc:c<256):p c=true:=List.all_eq_true.1 h c (List.mem_range.2 hc)
theorem and31{c:Nat}(hc:c<256):bits .and .i64 (c:Int) 31=((c%32:Nat):Int):=by
 have:=all256 (p:=λc=>bits .and .i64 (c:Int) 31==((c%32:Nat):Int)) (by kernel_rfl) hc;simpa using this
theorem and15{c:Nat}(hc:c<256):bits .and .i64 (c:Int) 15=((c%16:Nat):Int):=by
 have:=all256 (p:=λc=>bits .and .i64 (c:Int) 15==((c%16:Nat):Int)) (by kernel_rfl) hc;simpa using this
theorem and7{c:Nat}(hc:c<256):bits .and .i64 (c:Int) 7=((c%8:Nat):Int):=by
 have:=all256 (p:=λc=>bits .and .i64 (c:Int) 7==((c%8:Nat):Int)) (by kernel_rfl) hc;simpa using this
theorem and63{c:Nat}(hc:c<256):bits .and .u8 (c:Int) 63=((c%64:Nat):Int):=by
 have:=all256 (p:=λc=>bits .and .u8 (c:Int) 63==((c%64:Nat):Int)) (by kernel_rfl) hc;simpa using this
theorem and192{c:Nat}(hc:c<256):(bits .and .u8 (c:Int) 192 != 128) = !(c/64==2):=by
 have:=all256 (p:=λc=>(bits .and .u8 (c:Int) 192 != 128) == !(c/64==2)) (by kernel_rfl) hc;simpa using this
theorem QcB(c:UInt8):rCont c = !(c.toNat/64==2):=and192 c.toNat_lt
theorem or64(q y:Nat)(hq:q<1099511627776)(hy:y<64):bits .or .i64 ((q*64:Nat):Int) (y:Int)=((q*64+y:Nat):Int):=by
 have h1:(BitVec.ofInt 64 ((q*64:Nat):Int)).toNat=q*64:=by
  rw[BitVec.toNat_ofInt]; omega
 have h2:(BitVec.ofInt 64 (y:Int)).toNat=y:=by
  rw[BitVec.toNat_ofInt]; omega
 have h3:q*64 ||| y=q*64+y:=by
  have:=Nat.two_pow_add_eq_or_of_lt (i:=6) (b:=y) (by omega) q;rw[show 2 ^ 6*q=q*64 by omega] at this;exact this.symm
 show IntKind.i64.wrap (((BitVec.ofInt 64 ((q*64:Nat):Int)) ||| (BitVec.ofInt 64 (y:Int))).toNat:Int)=_;rw[BitVec.toNat_or,h1,h2,h3];exact wrapI (by omega) (by omega)
theorem ZcC(x:Nat)(hx:x<1099511627776)(c:UInt8):rStep (x:Int) c=((x*64+c.toNat%64:Nat):Int):=by
 have e:shl6 (x:Int)=((x*64:Nat):Int):=by
  show IntKind.i64.wrap ((x:Int)*64)=_;rw[wrapI (by omega) (by omega)]; simp
 rw[rStep,e,and63 c.toNat_lt,wrapI (by omega) (by omega)];exact or64 x _ hx (Nat.mod_lt _ (by omega))
theorem Zb3(s:Tx)(a:Nat)(ha:a<s.length) :
  (((runeR s a).2≠0→((Utf8.decode ⟨s.toArray⟩ a).1:Int)=(runeR s a).1∧(Utf8.decode ⟨s.toArray⟩ a).2=(runeR s a).2)∧((runeR s a).2=0→(Utf8.decode ⟨s.toArray⟩ a).1=65533)):=by
 have hat:∀k,((⟨s.toArray⟩:ByteArray).get! (a+k))=(s[a+k]?).getD 0:=by
  intro k;show (s.toArray)[a+k]! = _;simp[List.getElem!_eq_getElem?_getD];rfl
 have hsz:(⟨s.toArray⟩:ByteArray).size=s.length:=by simp[ByteArray.size]
 rw[runeR,List.getElem?_eq_getElem ha];unfold Utf8.decode;simp only[hat,hsz];have h0:(s[a+0]?).getD 0=s[a]:=by simp[List.getElem?_eq_getElem ha]
 rw[h0];have hb:s[a].toNat<256:=s[a].toNat_lt;generalize s[a].toNat=b at hb ⊢;have hcn:∀k,¬a+k<s.length→s[a+k]?=none:=λk h=>by simp; omega
 have ht:∀(i x:Nat),x<1000000→∀m,rTail s a (m+1) i (x:Int)=if a+i<s.length∧((s[a+i]?).getD 0).toNat/64=2 then rTail s a m (i+1) ((x*64+((s[a+i]?).getD 0).toNat%64:Nat):Int) else none:=by
  intro i x hx m;by_cases h:a+i<s.length
  ·rw[rTail,List.getElem?_eq_getElem h];simp only[QcB,Option.getD_some,h,true_and];by_cases h2:s[a+i].toNat/64=2
   ·simp[h2,ZcC x (by omega)]
   ·simp[h2]
  ·rw[rTail,hcn i h]; simp[h]
 have hcd:∀k,(decide (a+k<s.length)&&(((s[a+k]?).getD 0).toNat/64==2))=decide (a+k<s.length∧((s[a+k]?).getD 0).toNat/64=2):=by
  intro k; rw[Bool.eq_iff_iff]; simp
 simp only[hcd];have t1:=λx hx m=>ht 1 x hx m;have t2:=λx hx m=>ht 2 x hx m;have t3:=λx hx m=>ht 3 x hx m;clear ht hcd hcn hat hsz h0;generalize ((s[a+1]?).getD 0).toNat=d1 at *;generalize ((s[a+2]?).getD 0).toNat=d2 at *;generalize ((s[a+3]?).getD 0).toNat=d3 at *;by_cases c1:b<128
 ·have hh:rHead (b:Int)=some (1,(b:Int),0):=by
   rw[rHead,if_neg (by omega),if_neg (by omega),if_neg (by omega),if_neg (by omega)]
  simp only[hh,if_pos c1,Nat.sub_self,rTail,rEnd];rw[if_neg (by omega)]; simp
 rw[if_neg c1];by_cases c2:b<192
 ·have hh:rHead (b:Int)=none:=by
   rw[rHead,if_neg (by omega),if_neg (by omega),if_neg (by omega),if_pos (by omega)]
  simp only[hh];have e1:¬b/32=6:=by omega
  have e2:¬b/16=14:=by omega
  have e3:¬b/8=30:=by omega
  simp[e1,e2,e3,Utf8.runeError]
 by_cases c3:b<224
 ·have hh:rHead (b:Int)=some (2,((b%32:Nat):Int),128):=by
   rw[rHead,if_pos (by omega),and31 hb]
  have e1:b/32=6:=by omega
  have e2:¬b/16=14:=by omega
  have e3:¬b/8=30:=by omega
  simp only[hh];rw[t1 _ (by omega) 0];by_cases p1:a+1<s.length∧d1/64=2
  ·simp only[if_pos p1,rTail,rEnd,e1,decide_eq_true p1,beq_self_eq_true,Bool.and_self,if_true];by_cases y:b%32*64+d1%64 ≥ 128
   ·rw[if_pos y,if_neg (by omega)]; simp
   ·rw[if_neg y,if_pos (by omega)]; simp[Utf8.runeError]
  ·simp only[if_neg p1,rEnd,decide_eq_false p1,Bool.and_false,Bool.false_and,Bool.false_eq_true,if_false];simp[Utf8.runeError]
 by_cases c4:b<240
 ·have hh:rHead (b:Int)=some (3,((b%16:Nat):Int),2048):=by
   rw[rHead,if_neg (by omega),if_pos (by omega),and15 hb]
  have e1:¬b/32=6:=by omega
  have e2:b/16=14:=by omega
  have e3:¬b/8=30:=by omega
  simp only[hh];rw[t1 _ (by omega) 1];have f1:(b/32==6)=false:=by simpa using e1
  by_cases p1:a+1<s.length∧d1/64=2
  ·rw[if_pos p1,t2 _ (by omega) 0];by_cases p2:a+2<s.length∧d2/64=2
   ·simp only[if_pos p2,rTail,rEnd,f1,e2,decide_eq_true p1,decide_eq_true p2,beq_self_eq_true,Bool.and_self,if_true,Bool.false_and,Bool.false_eq_true,if_false];by_cases y:(b%16*64+d1%64)*64+d2%64<2048∨(55296≤(b%16*64+d1%64)*64+d2%64∧(b%16*64+d1%64)*64+d2%64≤57343)
    ·rw[if_pos (by omega),if_neg (by simp[Utf8.valid]; omega)]; simp[Utf8.runeError]
    ·rw[if_neg (by omega),if_pos (by simp[Utf8.valid]; omega)]; simp; omega
   ·simp only[if_neg p2,rEnd,f1,decide_eq_false p2,Bool.and_false,Bool.false_and,Bool.false_eq_true,if_false];simp[Utf8.runeError]
  ·simp only[if_neg p1,rEnd,f1,decide_eq_false p1,Bool.and_false,Bool.false_and,Bool.false_eq_true,if_false];simp[Utf8.runeError]
 by_cases c5:b<248
 ·have hh:rHead (b:Int)=some (4,((b%8:Nat):Int),65536):=by
   rw[rHead,if_neg (by omega),if_neg (by omega),if_pos (by omega),and7 hb]
  have e3:b/8=30:=by omega
  have f1:(b/32==6)=false:=by simp; omega
  have f2:(b/16==14)=false:=by simp; omega
  simp only[hh];rw[t1 _ (by omega) 2];by_cases p1:a+1<s.length∧d1/64=2
  ·rw[if_pos p1,t2 _ (by omega) 1];by_cases p2:a+2<s.length∧d2/64=2
   ·rw[if_pos p2,t3 _ (by omega) 0];by_cases p3:a+3<s.length∧d3/64=2
    ·simp only[if_pos p3,rTail,rEnd,f1,f2,e3,decide_eq_true p1,decide_eq_true p2,decide_eq_true p3,beq_self_eq_true,Bool.and_self,if_true,Bool.false_and,Bool.false_eq_true,if_false];by_cases y:((b%8*64+d1%64)*64+d2%64)*64+d3%64<65536∨1114111<((b%8*64+d1%64)*64+d2%64)*64+d3%64
     ·rw[if_pos (by omega),if_neg (by simp[Utf8.valid]; omega)]; simp[Utf8.runeError]
     ·rw[if_neg (by omega),if_pos (by simp[Utf8.valid]; omega)]; simp; omega
    ·simp only[if_neg p3,rEnd,f1,f2,decide_eq_false p3,Bool.and_false,Bool.false_and,Bool.false_eq_true,if_false];simp[Utf8.runeError]
   ·simp only[if_neg p2,rEnd,f1,f2,decide_eq_false p2,Bool.and_false,Bool.false_and,Bool.false_eq_true,if_false];simp[Utf8.runeError]
  ·simp only[if_neg p1,rEnd,f1,f2,decide_eq_false p1,Bool.and_false,Bool.false_and,Bool.false_eq_true,if_false];simp[Utf8.runeError]
 ·have hh:rHead (b:Int)=none:=by
   rw[rHead,if_neg (by omega),if_neg (by omega),if_neg (by omega),if_pos (by omega)]
  simp only[hh];have e1:¬b/32=6:=by omega
  have e2:¬b/16=14:=by omega
  have e3:¬b/8=30:=by omega
  simp[e1,e2,e3,Utf8.runeError]
end Go.Ah.Tz
end
section
namespace Go.Ah.Tz
open Go.Proofs.Tryz (prog)
theorem ZbI(s:Tx)(a:Nat):∀(m i:Nat) (x y:Int),rTail s a (m+1) i x=some y→a+i+m<s.length
 |m,i,x,y,h=>by
  rw[rTail] at h;cases e:s[a+i]? with
  |none=>rw[e] at h; cases h
  |some c=>
   have hl:a+i<s.length:=(YLG e).1;rw[e] at h;cases m with
   |zero=>omega
   |succ m=>
    have h2:(if rCont c=true then none else rTail s a (m+1) (i+1) (rStep x c))=some y:=h;split at h2
    ·cases h2
    ·have:=ZbI s a m (i+1) _ _ h2;omega
theorem XcC(s:Tx)(a:Nat)(ha:a<s.length)(h:(runeR s a).2≠0):a+(runeR s a).2≤s.length:=by
 unfold runeR at h ⊢;rw[List.getElem?_eq_getElem ha] at h ⊢;simp only at h ⊢;cases e:rHead (s[a].toNat:Int) with
 |none=>rw[e] at h; simp at h
 |some p=>
  obtain⟨n,x,least⟩:=p;rw[e] at h;simp only at h ⊢;cases e2:rTail s a (n-1) 1 x with
  |none=>rw[e2] at h; simp[rEnd] at h
  |some y=>
   rw[e2] at h;have h3:(rEnd n least (some y)).2≤n:=by rw[rEnd]; split<;>simp
   by_cases hn:n≤1
   ·omega
   ·have:=ZbI s a (n-2) 1 x y (by rw[show n-2+1=n-1 by omega]; exact e2);omega
attribute [local irreducible] Ans.rd Ans.pu Ans.wr Ans.dr Ans.gr Ans.gw Ans.gl Ans.gd Ans.opt joinK W
set_option maxHeartbeats 1000000
theorem Qc1{s:Tx}{a:Nat}(h:a<s.length):Xa9 [.iter 0] [.siter s a]=.ok (.tup [.bool true,iv a,.int .i32 (Utf8.decode ⟨s.toArray⟩ a).1]) [] [(0,.siter s (a+(Utf8.decode ⟨s.toArray⟩ a).2))]:=by
 have hb:Nat.blt a s.length=true:=by simpa[Nat.blt_eq] using h
 show (bif Nat.blt a s.length then _ else _)=_;rw[hb]; rfl
theorem QcO{s:Tx}{a:Nat}(h:¬a<s.length):Xa9 [.iter 0] [.siter s a]=.ok (.tup [.bool false]) [0] []:=by
 have hb:Nat.blt a s.length=false:=by rw[Bool.eq_false_iff]; intro q; exact h (by simpa[Nat.blt_eq] using q)
 show (bif Nat.blt a s.length then _ else _)=_;rw[hb]; rfl
theorem c241(s:Tx)(hs:s.length≤big):PC 241 [.str s] (.tup [iv (nameR s 0 0).1,iv (nameR s 0 0).2]):=by
 rw[bigE] at hs;refine Ze hP g241_ok rfl rfl ?_;unfold g241;refine Zd rfl rfl ?_;refine Xo (ι:=Nat) (λa vs σ=>∃n:Nat,vs=[iv n]∧σ=[.siter s a]∧n≤a∧(a=0↔n=0)∧a≤s.length∧nameR s 0 0=nameR s a n) (λa=>s.length-a) 0 ⟨0,rfl,rfl,by omega,by simp,by omega,rfl⟩ ?_;rintro a vs σ again ⟨n,rfl,rfl,i1,i0,i2,hu⟩ hag;by_cases h:a<s.length;rotate_left
 ·refine Zd (QcO h) rfl (Ya rfl (Xh (Ya rfl ?_)));rw[show nameR s a n=(a,n) by rw[nameR,dif_neg h]] at hu;rw[hu,show s.length=a by omega]; rfl
 refine Zd (Qc1 h) rfl (Ya rfl (Zg (Ya rfl (Ya rfl ?_))));obtain⟨d1,d2⟩:=Zb3 s a h;have hin:=XcC s a h;generalize Utf8.decode ⟨s.toArray⟩ a=p at d1 d2 ⊢;have hst:Zbh s a n↔(isLet (p.1:Int)=false∧(a=0∨(isDig (p.1:Int)=false∧(p.1:Int)≠39))):=by
  unfold Zbh;by_cases h0:(runeR s a).2=0
  ·have:=d2 h0;rw[this];have e1:isLet 65533=false:=by decide
   have e2:isDig 65533=false:=by decide
   simp[h0,e1,e2]
  ·rw[(d1 h0).1];simp[h0,i0]
 have stp:(isLet (p.1:Int)=false∧(a=0∨(isDig (p.1:Int)=false∧(p.1:Int)≠39)))→AVal.tup [iv a,iv n]=AVal.tup [iv (nameR s 0 0).1,iv (nameR s 0 0).2]:=by
  intro q;rw[hu,nameR,dif_pos h,dif_pos (hst.2 q)]
 have go:¬(isLet (p.1:Int)=false∧(a=0∨(isDig (p.1:Int)=false∧(p.1:Int)≠39)))→VV.rd (Yh .add false [iv n,(.int .i64 1)] [.siter s (a+p.2)]) λt31=>again [t31] [.siter s (a+p.2)]:=by
  intro q;have q2:¬Zbh s a n:=λz=>q (hst.1 z);have h0:(runeR s a).2≠0:=λe=>q2 (Or.inl e);have:=(d1 h0).2;have:=hin h0;refine Ya (Qn ..) ?_;rw[Xg (n:=n) (by omega)];refine hag (a+p.2) _ _ (by omega) ⟨n+1,rfl,rfl,by omega,by omega,by omega,?_⟩;rw[hu,nameR,dif_pos h,dif_neg q2,(d1 h0).2]
 clear hag hu hst d1 d2 hin;generalize (p.1:Int)=r at stp go ⊢;refine Ye (c256 r) rfl g256_ok.plain rfl ?_;refine Ya rfl ?_;rcases YBE (!isLet r) with h1|h1
 rotate_left
 ·rw[h1];repeat first|refine Yb ?_|refine Yc ?_|refine Xb rfl ?_|refine Xf rfl ?_|refine Zi rfl ?_|refine Xi rfl ?_|refine Ya rfl ?_
  exact Xh (go (by have h1:isLet r=true:=(by simpa using h1); simp[h1]))
 rw[h1];have h1:isLet r=false:=by simpa using h1
 repeat first|refine Yb ?_|refine Yc ?_|refine Ya rfl ?_
 rcases YBE ((a:Int)==0) with h2|h2
 ·rw[h2];repeat first|refine Yb ?_|refine Yc ?_|refine Xb rfl ?_|refine Xf rfl ?_|refine Zi rfl ?_|refine Xi rfl ?_|refine Ya rfl ?_
  exact Zg (stp ⟨h1,Or.inl (by simpa using h2)⟩)
 rw[h2];have h2:a≠0:=by simpa using h2
 repeat first|refine Yb ?_|refine Yc ?_|refine Ya rfl ?_
 refine Ye (c257 r) rfl g257_ok.plain rfl ?_;repeat first|refine Yb ?_|refine Yc ?_|refine Ya rfl ?_
 rcases YBE (!isDig r) with h3|h3
 rotate_left
 ·rw[h3];repeat first|refine Yb ?_|refine Yc ?_|refine Xb rfl ?_|refine Xf rfl ?_|refine Zi rfl ?_|refine Xi rfl ?_|refine Ya rfl ?_
  exact Xh (go (by have h3:isDig r=true:=(by simpa using h3); simp[h2,h3]))
 rw[h3];have h3:isDig r=false:=by simpa using h3
 repeat first|refine Yb ?_|refine Yc ?_|refine Ya rfl ?_
 refine Qc (λh4=>stp ⟨h1,Or.inr ⟨h3,by simpa using h4⟩⟩) (λh4=>go ?_);have h4:r=39:=by simpa using h4
 simp[h2,h4]
theorem c223(s:Tx)(hs:s.length≤big):PC 223 [.str s] (.bool (nameOk s)):=by
 refine Ze hP g223_ok rfl rfl ?_;unfold g223;refine Ye (c241 s hs) rfl g241_ok.plain rfl ?_;unfold nameOk;generalize (nameR s 0 0).1=e;generalize (nameR s 0 0).2=n;refine Ya rfl (Ya rfl (Ya rfl ?_));rcases YBE (decide ((n:Int)>0)) with h1|h1
 rotate_left
 ·rw[h1];repeat first|refine Xb rfl ?_|refine Xf rfl ?_|refine Zi rfl ?_|refine Xi rfl ?_|refine Ya rfl ?_
  have h1:¬1≤n:=by simp at h1; omega
  simp[h1]
 rw[h1];repeat first|refine Yb ?_|refine Yc ?_|refine Ya rfl ?_
 rcases YBE (decide ((n:Int)≤24)) with h2|h2
 rotate_left
 ·rw[h2];repeat first|refine Xb rfl ?_|refine Xf rfl ?_|refine Zi rfl ?_|refine Xi rfl ?_|refine Ya rfl ?_
  have h2:¬n≤24:=by simp at h2; omega
  simp[h2]
 rw[h2];repeat first|refine Yb ?_|refine Yc ?_|refine Ya rfl ?_
 rcases YBE ((e:Int)==(s.length:Int)) with h3|h3
 rotate_left
 ·rw[h3];repeat first|refine Xb rfl ?_|refine Xf rfl ?_|refine Zi rfl ?_|refine Xi rfl ?_|refine Ya rfl ?_
  have h3:¬e=s.length:=by simp at h3; omega
  simp[h3]
 rw[h3];repeat first|refine Yb ?_|refine Yc ?_|refine Ya rfl ?_
 have h3:e=s.length:=by simp at h3; omega
 subst h3;rcases YBE (decide ((s.length:Int)≤40)) with h4|h4
 rotate_left
 ·rw[h4];repeat first|refine Xb rfl ?_|refine Xf rfl ?_|refine Zi rfl ?_|refine Xi rfl ?_|refine Ya rfl ?_
  have h4:¬s.length≤40:=by simp at h4; omega
  simp[h4]
 rw[h4];repeat first|refine Yb ?_|refine Yc ?_|refine Ya rfl ?_
 refine Ye (c242 _) rfl g242_ok.plain rfl ?_;repeat first|refine Yb ?_|refine Yc ?_|refine Ya rfl ?_
 have h1:1≤n:=by simp at h1; omega
 have h2:n≤24:=by simp at h2; omega
 have h4:s.length≤40:=by simp at h4; omega
 simp[h1,h2,h4]
end Go.Ah.Tz
end
section
namespace Go.Ah.Tz
open Go.Proofs.Tryz (prog)
theorem Xbe(a:Int):lbN a=0∨lbN a=1∨lbN a=2∨lbN a=3:=by unfold lbN; split<;>omega
attribute [local irreducible] Ans.rd Ans.pu Ans.wr Ans.dr Ans.gr Ans.gw Ans.gl Ans.gd Ans.opt joinK W
theorem c252(a:Int):PC 252 [iv8 a] (iv8 (lbN a)):=by
 refine Ze hP g252_ok rfl rfl ?_;unfold g252;refine Ya rfl (XL rfl rfl ?_);refine Qc (λh=>?_) (λh=>?_)
 ·rw[lbN,if_pos (by simpa using h)]
 ·rw[lbN,if_neg (by simpa using h)]
def joinT:AVal:=.agg [iv8 0,iv8 1,iv8 2,iv8 3,iv8 1,iv8 1,iv8 3,iv8 3,iv8 2,iv8 3,iv8 2,iv8 3,iv8 3,iv8 3,iv8 3,iv8 3]
theorem c263:PC 263 [] joinT:=by
 refine Ze hP g263_ok rfl rfl ?_;unfold g263;refine Zd rfl rfl (Ya rfl (Ya rfl (Ya rfl (Ya rfl (Ya rfl (Zd rfl rfl (Xm rfl ?_)))))));rfl
theorem c250(a b:Int):PC 250 [iv8 a,iv8 b] (iv8 (joinL a b)):=by
 refine Ze hP g250_ok rfl rfl ?_;unfold g250;refine Qp c263 rfl g263_ok.plain rfl ?_;refine Qp (c252 a) rfl g252_ok.plain rfl ?_;have h1:=Xbe a;have h2:=Xbe b;unfold joinL;have k:=c252 b;generalize lbN a=p at h1 ⊢;generalize lbN b=q at h2 k ⊢;rcases h1 with h1|h1|h1|h1<;>subst h1<;>refine Yk rfl ?_<;>refine Qp k rfl g252_ok.plain rfl ?_<;>rcases h2 with h2|h2|h2|h2<;>subst h2<;>exact Yk rfl (QO (by kernel_rfl) rfl)
theorem c253(a b:Int):PC 253 [iv8 a,iv8 b] (.bool (decide (joinL a b=lbN b))):=by
 refine Ze hP g253_ok rfl rfl ?_;unfold g253;refine Ye (c250 a b) rfl g250_ok.plain rfl ?_;refine Ye (c252 b) rfl g252_ok.plain rfl ?_;refine Ya (Yi ..) ?_;rfl
theorem YaX(b:Int):joinL b b=lbN b:=by rw[joinL,if_pos (Or.inl rfl)]
end Go.Ah.Tz
end
section
namespace Go.Ah.Tz
open Go.Proofs.Tryz (prog)
attribute [local irreducible] Ans.rd Ans.pu Ans.wr Ans.dr Ans.gr Ans.gw Ans.gl Ans.gd Ans.opt joinK W
set_option maxHeartbeats 1000000
theorem XcR(x:Nm):nmL x=if x.op=6 then 3 else if 8≤x.op∧x.op≤12 then nmLs 0 x.kids else 0:=by
 rw[Zc5];by_cases h:x.op=6
 ·rw[if_neg (by omega),if_pos h,if_pos h]
 ·rw[if_neg h,if_neg h]
theorem c251':∀(k:Nat) (x:Nm),SizeOf.sizeOf x≤k→nmFit x=true→PC 251 [.agg (nmC x)] (iv8 (nmL x))
 |0,x,h,_=>by cases x; simp at h
 |k+1,x,hk,hf=>by
  rw[QG];refine Ze hP g251_ok rfl rfl ?_;unfold g251;refine Zd rfl rfl ?_;rw[XcR];have hlen:=QaN hf;rw[bigE] at hlen;generalize hB:([]++[ABlk.box [iv8 x.op,iv x.n,iv8 x.who,.rsl false false 4 (x.kids.map nmC)]]:List ABlk)=base;have hB0:hget base 0=.box [iv8 x.op,iv x.n,iv8 x.who,.rsl false false 4 (x.kids.map nmC)]:=by rw[←hB]; rfl
  clear hB;refine Ya rfl (Ya (ld hB0 rfl) (Ya (Yi ..) ?_));refine Qc (λh=>?_) (λh=>?_)
  ·rw[if_pos (by simpa using h)]
  rw[if_neg (by simpa using h)];refine Ya rfl (Ya (ld hB0 rfl) (Ya rfl ?_));refine Xap rfl (ld hB0 rfl) rfl ?_;rw[show (decide (x.op ≥ 8)&&decide (x.op≤12))=decide (8≤x.op∧x.op≤12) by simp];refine Qc (λh=>?_) (λh=>?_);rotate_left
  ·rw[if_neg (by simpa using h)]
  rw[if_pos (by simpa using h)];refine Ya rfl (Ya (ld hB0 rfl) (Ya rfl ?_));clear hB0;refine Xo (ι:=Nat) (λi vs σ=>∃n,vs=[iv i,iv8 n]∧i≤x.kids.length∧nmLs 0 x.kids=nmLs n (x.kids.drop i)) (λi=>x.kids.length-i) 0 ⟨0,rfl,by omega,by simp⟩ ?_;rintro i vs σ again ⟨n,rfl,hi,hu⟩ hag;refine Ya rfl ?_;refine Qc (λh=>?_) (λh=>?_)
  ·have h:i<x.kids.length:=by simpa using h
   have hdr:x.kids.drop i=x.kids[i]::x.kids.drop (i+1):=by rw[YLD h]
   rw[hdr,nmLs] at hu;have hm:x.kids[i]∈x.kids:=List.getElem_mem h;have hix:=λ(s:List ABlk)=>Qu s nmC false false 4 x.kids .i64 i h;have hsz:=Qbu hm;have hfk:=Xao hf hm;generalize x.kids[i]=y at hu hix hsz hfk;refine Ya (hix _) (Ya (ldr (nmLd _)) ?_);refine Xz (row:=[iv8 y.op,iv y.n,iv8 y.who,.rsl false false 4 (y.kids.map nmC)]) (row':=[iv8 y.op,iv y.n,iv8 y.who,.rsl false false 4 (y.kids.map nmC)]) (by rw[QG]; rfl) rfl rfl ?_;have hB1:=Qh σ (ABlk.box [iv8 y.op,iv y.n,iv8 y.who,.rsl false false 4 (y.kids.map nmC)]);have hN:Zc true 4 [.bptr σ.length 0] (σ++[ABlk.box [iv8 y.op,iv y.n,iv8 y.who,.rsl false false 4 (y.kids.map nmC)]])=.ok (.agg (nmC y)) [σ.length] []:=ld hB1 (by rw[QG]; rfl);refine Ya hN ?_;refine Ye (c251' k y (by omega) hfk) rfl g251_ok.plain (nmRo _) ?_;refine Ye (c250 _ _) rfl g250_ok.plain rfl ?_;refine Ya (Qn ..) ?_;rw[Xg (n:=i) (by omega)];exact hag (i+1) _ _ (by omega) ⟨_,rfl,by omega,hu⟩
  ·have h:i=x.kids.length:=by simp at h; omega
   subst h;rw[List.drop_length,nmLs] at hu;rw[hu]; rfl
theorem c251(x:Nm)(hf:nmFit x=true):PC 251 [.agg (nmC x)] (iv8 (nmL x)):=c251' _ x (Nat.le_refl _) hf
theorem c254':∀(k:Nat) (x:Cn),SizeOf.sizeOf x≤k→cnFit x=true→PC 254 [.agg (cnC x)] (iv8 (cnL x))
 |0,x,h,_=>by cases x; simp at h
 |k+1,x,hk,hf=>by
  rw[QX];refine Ze hP g254_ok rfl rfl ?_;unfold g254;refine Zd rfl rfl ?_;rw[QcY];have hl1:=Yaa hf;have hl2:=Zaa hf;rw[bigE] at hl1 hl2;generalize hB:([]++[ABlk.box [iv8 x.op,iv8 x.who,.str x.name,.rsl false false 4 (x.nums.map nmC),.rsl false false 5 (x.kids.map cnC)]]:List ABlk)=base;have hB0:hget base 0=.box [iv8 x.op,iv8 x.who,.str x.name,.rsl false false 4 (x.nums.map nmC),.rsl false false 5 (x.kids.map cnC)]:=by rw[←hB]; rfl
  clear hB;refine Ya rfl (Ya (ld hB0 rfl) (Ya (Yi ..) ?_));refine Qc (λh=>?_) (λh=>?_)
  ·rw[if_pos (by simpa using h)];refine Ya rfl (Ya (ld hB0 rfl) (Ya (Yi ..) ?_));refine Qc (λh=>?_) (λh=>?_)
   ·rw[if_pos (by simpa using h)]
   rw[if_neg (by simpa using h)];refine Ya (Yi ..) ?_;refine Qc (λh=>?_) (λh=>?_)
   ·rw[if_pos (by simpa using h)]
   ·rw[if_neg (by simpa using h)]
  rw[if_neg (by simpa using h)];refine Ya rfl (Ya (ld hB0 rfl) (Ya rfl ?_));refine Xo (ι:=Nat) (λi vs σ=>∃n,vs=[iv i,iv8 n]∧hget σ 0=.box [iv8 x.op,iv8 x.who,.str x.name,.rsl false false 4 (x.nums.map nmC),.rsl false false 5 (x.kids.map cnC)]∧i≤x.nums.length∧nmLs 0 x.nums=nmLs n (x.nums.drop i)) (λi=>x.nums.length-i) 0 ⟨0,rfl,hB0,by omega,by simp⟩ ?_;rintro i vs σ again ⟨n,rfl,hB0,hi,hu⟩ hag;refine Ya rfl ?_;refine Qc (λh=>?_) (λh=>?_)
  ·have h:i<x.nums.length:=by simpa using h
   have hdr:x.nums.drop i=x.nums[i]::x.nums.drop (i+1):=by rw[YLD h]
   rw[hdr,nmLs] at hu;have hm:x.nums[i]∈x.nums:=List.getElem_mem h;have hix:=λ(s:List ABlk)=>Qu s nmC false false 4 x.nums .i64 i h;have hfk:=Zam hf hm;generalize x.nums[i]=y at hu hix hfk;refine Ya (hix _) (Ya (ldr (nmLd _)) ?_);refine Xz (row:=[iv8 y.op,iv y.n,iv8 y.who,.rsl false false 4 (y.kids.map nmC)]) (row':=[iv8 y.op,iv y.n,iv8 y.who,.rsl false false 4 (y.kids.map nmC)]) (by rw[QG]; rfl) rfl rfl ?_;have hB1:=Qh σ (ABlk.box [iv8 y.op,iv y.n,iv8 y.who,.rsl false false 4 (y.kids.map nmC)]);have hN:Zc true 4 [.bptr σ.length 0] (σ++[ABlk.box [iv8 y.op,iv y.n,iv8 y.who,.rsl false false 4 (y.kids.map nmC)]])=.ok (.agg (nmC y)) [σ.length] []:=ld hB1 (by rw[QG]; rfl);refine Ya hN ?_;refine Ye (c251 y hfk) rfl g251_ok.plain (nmRo _) ?_;refine Ye (c250 _ _) rfl g250_ok.plain rfl ?_;refine Ya (Qn ..) ?_;rw[Xg (n:=i) (by omega)];exact hag (i+1) _ _ (by omega) ⟨_,rfl,Qf _ hB0 (by simp),by omega,hu⟩
  have h:i=x.nums.length:=by simp at h; omega
  subst h;rw[List.drop_length,nmLs] at hu;rw[hu];clear hag hu hi;refine Ya rfl (Ya (ld hB0 rfl) (Ya rfl ?_));refine Xo (ι:=Nat) (λi vs s=>∃m,vs=[iv i,iv8 m]∧i≤x.kids.length∧cnLs n x.kids=cnLs m (x.kids.drop i)) (λi=>x.kids.length-i) 0 ⟨n,rfl,by omega,by simp⟩ ?_;rintro i vs s again ⟨m,rfl,hi,hu⟩ hag;refine Ya rfl ?_;refine Qc (λh=>?_) (λh=>?_)
  ·have h:i<x.kids.length:=by simpa using h
   have hdr:x.kids.drop i=x.kids[i]::x.kids.drop (i+1):=by rw[YLD h]
   rw[hdr,cnLs] at hu;have hm:x.kids[i]∈x.kids:=List.getElem_mem h;have hix:=λ(s:List ABlk)=>Qu s cnC false false 5 x.kids .i64 i h;have hfk:=Qal hf hm;have hsz:=Ybq hm;generalize x.kids[i]=y at hu hix hfk hsz;refine Ya (hix _) (Ya (ldr (cnLd _)) ?_);refine Xz (row:=[iv8 y.op,iv8 y.who,.str y.name,.rsl false false 4 (y.nums.map nmC),.rsl false false 5 (y.kids.map cnC)]) (row':=[iv8 y.op,iv8 y.who,.str y.name,.rsl false false 4 (y.nums.map nmC),.rsl false false 5 (y.kids.map cnC)]) (by rw[QX]; rfl) rfl rfl ?_;have hB1:=Qh s (ABlk.box [iv8 y.op,iv8 y.who,.str y.name,.rsl false false 4 (y.nums.map nmC),.rsl false false 5 (y.kids.map cnC)]);have hN:Zc true 5 [.bptr s.length 0] (s++[ABlk.box [iv8 y.op,iv8 y.who,.str y.name,.rsl false false 4 (y.nums.map nmC),.rsl false false 5 (y.kids.map cnC)]])=.ok (.agg (cnC y)) [s.length] []:=ld hB1 (by rw[QX]; rfl);refine Ya hN ?_;refine Ye (c254' k y (by omega) hfk) rfl g254_ok.plain (cnRo _) ?_;refine Ye (c250 _ _) rfl g250_ok.plain rfl ?_;refine Ya (Qn ..) ?_;rw[Xg (n:=i) (by omega)];exact hag (i+1) _ _ (by omega) ⟨_,rfl,by omega,hu⟩
  ·have h:i=x.kids.length:=by simp at h; omega
   subst h;rw[List.drop_length,cnLs] at hu;rw[hu]; rfl
theorem c254(x:Cn)(hf:cnFit x=true):PC 254 [.agg (cnC x)] (iv8 (cnL x)):=c254' _ x (Nat.le_refl _) hf
end Go.Ah.Tz
end
section
namespace Go.Ah.Tz
open Go.Proofs.Tryz (prog)
attribute [local irreducible] Ans.rd Ans.pu Ans.wr Ans.dr Ans.gr Ans.gw Ans.gl Ans.gd Ans.opt joinK W
theorem efRo(u:Int)(x:Ef):roL [.agg [iv8 u],.agg (efC x)]=true:=by rw[YH]; rfl
theorem c235(u:Int)(x:Ef)(hf:efFit x=true):PC 235 [.agg [iv8 u],.agg (efC x)] (.bool (decide (joinL u (nmL x.n)=0))):=by
 rw[YH];refine Ze hP g235_ok rfl rfl ?_;unfold g235;refine Zd rfl rfl (Zd rfl rfl (Yk rfl (Qj rfl rfl (Yk rfl (Qj (ld (v:=.agg (nmC x.n)) rfl (by rw[QG]; rfl)) rfl ?_)))));refine Qp (c251 _ (XaJ hf)) rfl g251_ok.plain (nmRo _) ?_;refine Qp (c250 _ _) rfl g250_ok.plain rfl ?_;exact Yk (Yi ..) (QO (by kernel_rfl) rfl)
theorem c236(u:Int)(x:Ef):PC 236 [.agg [iv8 u],.agg (efC x)] (.bool (decide (lbN u=0))):=by
 rw[YH];refine Ze hP g236_ok rfl rfl ?_;unfold g236;refine Zd rfl rfl (Zd rfl rfl (Ya rfl (Ya rfl ?_)));refine Ye (c252 _) rfl g252_ok.plain rfl ?_;exact Ya (Yi ..) rfl
theorem c237(u:Int)(x:Ef)(hf:efFit x=true):PC 237 [.agg [iv8 u],.agg (efC x)] (.bool (Xbc (joinL u (nmL x.n)) 1)):=by
 rw[YH];refine Ze hP g237_ok rfl rfl ?_;unfold g237;refine Zd rfl rfl (Zd rfl rfl (Yk rfl (Qj rfl rfl (Yk rfl (Qj (ld (v:=.agg (nmC x.n)) rfl (by rw[QG]; rfl)) rfl ?_)))));refine Qp (c251 _ (XaJ hf)) rfl g251_ok.plain (nmRo _) ?_;refine Qp (c250 _ _) rfl g250_ok.plain rfl ?_;refine Qp (c253 _ _) rfl g253_ok.plain rfl ?_;refine QO (by kernel_rfl) ?_;rw[Xbc,YaX]
end Go.Ah.Tz
end
section
namespace Go.Ah.Tz
open Go.Proofs.Tryz (prog)
theorem Xp{σ:List ABlk}(l:List ABlk){c:Nat}(h:c<σ.length):hget (σ++l) c=hget σ c:=by
 have h1:=Qan h;exact QJ (by rw[List.getElem?_append_left h]; exact h1)
theorem Yj{σ:List ABlk}{b c:Nat}(x:ABlk)(h:c<σ.length)(hc:c≠b):hget (σ.set b x) c=hget σ c:=by
 have h1:=Qan h;exact QJ (by rw[List.getElem?_set_ne (λe=>hc e.symm)]; exact h1)
def Gr(σ0:List ABlk)(n:Nat)(rows:List (List AVal))(k:Nat)(v:AVal)(σ:List ABlk):Prop:=
 σ0.length≤σ.length∧(∀c,c<σ0.length→hget σ c=hget σ0 c)∧((k=0∧v=.nils∧rows=[])∨(0<k∧∃b,σ0.length≤b∧v=.sl b 0 k false∧hget σ b=.rows n rows∧rows.length=k))
theorem Gr.nil(n:Nat)(σ:List ABlk):Gr σ n [] 0 .nils σ:=⟨Nat.le_refl _,λ_ _=>rfl,.inl ⟨rfl,rfl,rfl⟩⟩
theorem Gr.grows{σ0 σ:List ABlk}{n k:Nat}{rows:List (List AVal)}{v:AVal}(h:Gr σ0 n rows k v σ):Grows n rows k v σ:=by
 rcases h.2.2 with h|⟨h1,b,_,h2,h3,h4⟩
 ·exact .inl h
 ·exact .inr ⟨h1,b,h2,h3,h4⟩
theorem Gr.old{σ0 σ:List ABlk}{n k:Nat}{rows:List (List AVal)}{v:AVal}(h:Gr σ0 n rows k v σ){c:Nat}{x:ABlk}(hx:hget σ0 c=x)(hd:x≠.dead):hget σ c=x:=by
 rw[h.2.1 c (Qi hx hd)]; exact hx
theorem Gr.base{σ0 σ:List ABlk}{l:List ABlk}{n k:Nat}{rows:List (List AVal)}{v:AVal}(h:Gr (σ0++l) n rows k v σ):Gr σ0 n rows k v σ:=by
 obtain⟨h1,h2,h3⟩:=h;simp only[List.length_append] at h1 h2 h3;refine⟨by omega,λc hc=>?_,?_⟩
 ·rw[h2 c (by omega),Xp l hc]
 ·rcases h3 with h3|⟨q1,b,q2,q3⟩
  ·exact .inl h3
  ·exact .inr ⟨q1,b,by omega,q3⟩
theorem Gr.put{σ0 σ:List ABlk}{n by_ k:Nat}{rows:List (List AVal)}{v:AVal}{z cs:List AVal}{x:AVal}(hg:Gr σ0 n rows k v σ)(hx:fill z [(0,n)] [x]=some cs)(hc:chunk n 1 cs=some [cs])(hr:cs.all AVal.cell=true)(hroom:(2*(k+1)+192)*by_≤2 ^ 48){K:AVal→List ABlk→Prop}
 (hK:∀v' σ',Gr σ0 n (rows++[cs]) (k+1) v' σ'→K v' σ'):VV.wr (Zh n 1 z [(0,n)] [x] σ) σ (λt σ=>VV.wr (Qg n by_ [v,t] σ) σ K):=by
 rw[QaH _ _ _ _ _ cs hx hc];obtain⟨g1,g2,hg⟩:=hg;rcases hg with ⟨rfl,rfl,rfl⟩|⟨hk,b,hb0,rfl,hb,hl⟩
 ·rw[Xby _ n by_ σ cs hr (by simpa using hroom)];refine hK _ _ ⟨by simp; omega,λc hc=>?_,.inr ⟨by omega,_,?_,rfl,by have:=Qh (σ++[.rows n [cs]]) (.rows n [cs]); simpa using this,rfl⟩⟩
  ·rw[Xp _ (by simp; omega),Xp _ (by omega),g2 c hc]
  ·omega
 ·rw[XbU _ n by_ σ b k false rows cs hb hl hr hroom];refine hK _ _ ⟨by simp; omega,λc hc=>?_,.inr ⟨by omega,_,?_,rfl,?_,by simp[hl]⟩⟩
  ·rw[Xp _ (by simp; omega),Xp _ (by simp; omega),Yj _ (by omega) (by omega),g2 c hc]
  ·omega
  ·have:=Qh (σ.set b .dead++[.rows n [cs]]) (.rows n (rows++[cs]));simpa using this
inductive Pt where
 |ef (x:Ef)
 |nm (x:Nm)
 |cn (x:Cn)
inductive PtV:AVal→Pt→Prop
 |ef (x:Ef):PtV (.iface 272 (.agg [.rptr (efC x) 0])) (.ef x)
 |nm (row:List AVal) (j:Nat) (x:Nm):NmAt row j x→PtV (.iface 290 (.agg [.rptr row j])) (.nm x)
 |cn (row:List AVal) (j:Nat) (x:Cn):CnAt row j x→PtV (.iface 292 (.agg [.rptr row j])) (.cn x)
def Pt.kids:Pt→List Pt
 |.ef x=>(if cntOp x.op then [.nm x.n] else [])++(if x.op=8 then .cn x.c::(x.thn.map .ef++x.els.map .ef) else [])
 |.nm x=>x.kids.map .nm
 |.cn x=>x.nums.map .nm++x.kids.map .cn
def Pt.fit:Pt→Bool
 |.ef x=>efFit x
 |.nm x=>nmFit x
 |.cn x=>cnFit x
mutual
def nmP:Nm→List Pt
 |.mk op n who kids=>.nm (.mk op n who kids)::nmPs kids
def nmPs:List Nm→List Pt
 |[]=>[]
 |x::l=>nmP x++nmPs l
end
mutual
def cnP:Cn→List Pt
 |.mk op who name nums kids=>.cn (.mk op who name nums kids)::(nmPs nums++cnPs kids)
def cnPs:List Cn→List Pt
 |[]=>[]
 |x::l=>cnP x++cnPs l
end
mutual
def efP:Ef→List Pt
 |.mk op who n name c thn els=>.ef (.mk op who n name c thn els)::((if cntOp op then nmP n else [])++(if op=8 then cnP c++(efPs thn++efPs els) else []))
def efPs:List Ef→List Pt
 |[]=>[]
 |x::l=>efP x++efPs l
end
def flat:Pt→List Pt
 |.ef x=>efP x
 |.nm x=>nmP x
 |.cn x=>cnP x
def flats:List Pt→List Pt
 |[]=>[]
 |p::l=>flat p++flats l
theorem XU:∀a b,flats (a++b)=flats a++flats b
 |[],b=>rfl
 |p::a,b=>by simp[flats,XU a b]
theorem Xa3:∀l,flats (l.map .nm)=nmPs l
 |[]=>rfl
 |x::l=>by simp[flats,Xa3 l,flat,nmPs]
theorem ZbD:∀l,flats (l.map .cn)=cnPs l
 |[]=>rfl
 |x::l=>by simp[flats,ZbD l,flat,cnPs]
theorem Xan:∀l,flats (l.map .ef)=efPs l
 |[]=>rfl
 |x::l=>by simp[flats,Xan l,flat,efPs]
theorem Zb6(p:Pt):flat p=p::flats p.kids:=by
 cases p with
 |ef x=>
  obtain⟨op,who,n,name,c,thn,els⟩:=x;have e:Pt.kids (.ef (.mk op who n name c thn els))=(if cntOp op then [.nm n] else [])++(if op=8 then .cn c::(thn.map .ef++els.map .ef) else []):=rfl;rw[e,XU];simp only[flat,efP]
  congr 2
  ·by_cases h:cntOp op=true<;>simp[h,flats,flat]
  ·by_cases h:op=8<;>simp[h,flats,flat,XU,Xan]
 |nm x=>cases x; simp[flat,nmP,Pt.kids,Nm.kids,Xa3]
 |cn x=>cases x; simp[flat,cnP,Pt.kids,Cn.nums,Cn.kids,XU,Xa3,ZbD]
theorem QbC(p:Pt):0<(flat p).length:=by rw[Zb6]; simp
theorem XaK:∀ {l:List Pt} {p:Pt},p∈l→(flat p).length≤(flats l).length
 |q::l,p,h=>by
  simp only[flats,List.length_append];rcases List.mem_cons.1 h with rfl|h
  ·omega
  ·have:=XaK h; omega
theorem YaK:∀l:List Pt,l.length≤(flats l).length
 |[]=>by simp
 |p::l=>by
  have:=YaK l;have:=QbC p;simp[flats]; omega
theorem YcR{p q:Pt}(h:p.fit=true)(hq:q∈p.kids):q.fit=true:=by
 cases p with
 |ef x=>
  simp only[Pt.kids,List.mem_append] at hq;rcases hq with hq|hq
  ·split at hq
   ·simp at hq; subst hq; exact XaJ h
   ·simp at hq
  ·split at hq
   ·simp only[List.mem_cons,List.mem_append,List.mem_map] at hq;rcases hq with rfl|⟨y,hy,rfl⟩|⟨y,hy,rfl⟩
    ·exact Zar h
    ·exact Z6 (Y5 h) hy
    ·exact Z6 (Z5 h) hy
   ·simp at hq
 |nm x=>
  simp only[Pt.kids,List.mem_map] at hq;obtain⟨y,hy,rfl⟩:=hq;exact Xao h hy
 |cn x=>
  simp only[Pt.kids,List.mem_append,List.mem_map] at hq;rcases hq with ⟨y,hy,rfl⟩|⟨y,hy,rfl⟩
  ·exact Zam h hy
  ·exact Qal h hy
def runL{S:Type}(step:S→Pt→S×Bool):S→List Pt→S×Bool
 |s,[]=>(s,true)
 |s,p::l=>if (step s p).2=true then runL step (step s p).1 l else ((step s p).1,false)
theorem Z2{S:Type}(step:S→Pt→S×Bool):∀(a:List Pt) (s:S) (b:List Pt),runL step s (a++b)=if (runL step s a).2=true then runL step (runL step s a).1 b else ((runL step s a).1,false)
 |[],s,b=>by simp[runL]
 |p::a,s,b=>by
  simp only[List.cons_append,runL];by_cases h:(step s p).2=true
  ·simp only[if_pos h]; exact Z2 step a _ b
  ·simp[if_neg h]
def Bt(b:Nat)(σ σ':List ABlk):Prop:=σ.length≤σ'.length∧∀c,c<σ.length→c≠b→hget σ' c=hget σ c
theorem Bt.refl(b:Nat)(σ:List ABlk):Bt b σ σ:=⟨Nat.le_refl _,λ_ _ _=>rfl⟩
theorem Bt.trans{b:Nat}{x y z:List ABlk}(h:Bt b x y)(k:Bt b y z):Bt b x z:=⟨Nat.le_trans h.1 k.1,λc hc hb=>by rw[k.2 c (by have:=h.1; omega) hb,h.2 c hc hb]⟩
theorem Bt.old{b:Nat}{σ σ':List ABlk}(h:Bt b σ σ'){c:Nat}{x:ABlk}(hx:hget σ c=x)(hd:x≠.dead)(hc:c≠b):hget σ' c=x:=by
 rw[h.2 c (Qi hx hd) hc]; exact hx
theorem Bt.gr{σ σ':List ABlk}(b:Nat)(h1:σ.length≤σ'.length)(h:∀c,c<σ.length→hget σ' c=hget σ c):Bt b σ σ':=⟨h1,λc hc _=>h c hc⟩
def Clo{S:Type}(clo:AVal)(b:Nat)(enc:S→List AVal)(step:S→Pt→S×Bool):Prop:=
 ∀p v,PtV v p→∀s σ K,hget σ b=.box (enc s)→(∀σ',Bt b σ σ'→hget σ' b=.box (enc (step s p).1)→K (.bool (step s p).2) σ')→VV.call .callv [clo,v] σ K
inductive PtL:List AVal→List Pt→Prop
 |nil:PtL [] []
 |snoc (vs:List AVal) (ps:List Pt) (v:AVal) (p:Pt):PtL vs ps→PtV v p→PtL (vs++[v]) (ps++[p])
theorem PtL.length{vs:List AVal}{ps:List Pt}(h:PtL vs ps):vs.length=ps.length:=by
 induction h with
 |nil=>rfl
 |snoc vs ps v p h hv ih=>simp[ih]
theorem PtL.get{vs:List AVal}{ps:List Pt}(h:PtL vs ps):∀i (h1:i<vs.length) (h2:i<ps.length),PtV vs[i] ps[i]:=by
 induction h with
 |nil=>intro i h; simp at h
 |snoc vs ps v p h hv ih=>
  intro i h1 h2;have hl:=h.length;simp only[List.length_append,List.length_singleton] at h1 h2;by_cases hi:i<vs.length
  ·rw[List.getElem_append_left hi,List.getElem_append_left (by omega)]; exact ih i hi (by omega)
  ·have e1:i=vs.length:=by omega
   subst e1;have:ps[vs.length]?=none:=by rw[List.getElem?_eq_none (by omega)]
   simp[hl,hv]
def one(v:AVal):List AVal:=[v]
end Go.Ah.Tz
end
section
namespace Go.Ah.Tz
open Go.Proofs.Tryz (prog)
attribute [local irreducible] Ans.rd Ans.pu Ans.wr Ans.dr Ans.gr Ans.gw Ans.gl Ans.gd Ans.opt joinK W
set_option maxHeartbeats 2000000
def efPt(x:Ef):List AVal:=[.iface 272 (.agg [.rptr (efC x) 0])]
def nmPt(x:Nm):List AVal:=[.iface 290 (.agg [.rptr (nmC x) 0])]
def cnPt(x:Cn):List AVal:=[.iface 292 (.agg [.rptr (cnC x) 0])]
theorem Yc4{σ0 σ:List ABlk}{k:Nat}{rows:List (List AVal)}{v:AVal}(l:List Ef)(hl:k+l.length≤1000000000)(hg:Gr σ0 1 rows k v σ){K:List AVal→List ABlk→Prop}
 (hK:∀v' σ' w,Gr σ0 1 (rows++l.map efPt) (k+l.length) v' σ'→K [w,v'] σ') :
  VV.loop (λag v55 σ=>VV.rd (Yh .lss false [(h0 v55),iv l.length] σ) λt72_56=>VV.test t72_56 (
   VV.rd (Qa 14 [efV l,(h0 v55)] σ) λt77_57=>VV.rd (Xd [.nilp] [(0,1)] [t77_57] σ) λt78_58=>VV.rd (Zz 272 [t78_58] σ) λt79_59=>
   VV.wr (Zh 1 1 [.nili] [(0,1)] [t79_59] σ) σ λt80_60 σ=>VV.wr (Qg 1 16 [(h1 v55),t80_60] σ) σ λt81_61 σ=>
   VV.rd (Yh .add false [(h0 v55),(.int .i64 1)] σ) λt82_62=>ag [t82_62,t81_61] σ) (K v55 σ)) [(.int .i64 0),v] σ:=by
 refine Xo (ι:=Nat) (λi vs s=>∃v,vs=[iv i,v]∧i≤l.length∧Gr σ0 1 (rows++(l.take i).map efPt) (k+i) v s) (λi=>l.length-i) 0 ⟨v,rfl,by omega,by simpa using hg⟩ ?_;rintro i vs s again ⟨v,rfl,hi,hg⟩ hag;refine Ya rfl (Qc (λh=>?_) (λh=>?_))
 ·have h:i<l.length:=by simpa using h
  refine Ya (Qu _ efC _ _ _ l _ i h) (Ya rfl (Ya rfl ?_));refine hg.put (cs:=efPt l[i]) rfl rfl rfl (by omega) (λv' σ' hg'=>?_);refine Ya (Qn ..) ?_;rw[Xg (n:=i) (by omega)];refine hag (i+1) _ _ (by omega) ⟨v',rfl,by omega,?_⟩;rw[←ZC _ _ _ h,←List.append_assoc]; exact hg'
 ·have h:i=l.length:=by simp at h; omega
  subst h;rw[List.take_length] at hg;exact hK _ _ _ hg
theorem efPtL{vs:List AVal}{ps:List Pt}(h:PtL vs ps):∀l:List Ef,PtL (vs++(l.map efPt).flatten) (ps++l.map .ef):=by
 intro l
 induction l generalizing vs ps with
 |nil=>simpa using h
 |cons x l ih=>
  have:=ih (PtL.snoc _ _ _ _ h (.ef x));simpa[efPt] using this
theorem nmPtL{vs:List AVal}{ps:List Pt}(h:PtL vs ps):∀l:List Nm,PtL (vs++(l.map nmPt).flatten) (ps++l.map .nm):=by
 intro l
 induction l generalizing vs ps with
 |nil=>simpa using h
 |cons x l ih=>
  have:=ih (PtL.snoc _ _ _ _ h (.nm (nmC x) 0 x (nmAt x)));simpa[nmPt] using this
theorem cnPtL{vs:List AVal}{ps:List Pt}(h:PtL vs ps):∀l:List Cn,PtL (vs++(l.map cnPt).flatten) (ps++l.map .cn):=by
 intro l
 induction l generalizing vs ps with
 |nil=>simpa using h
 |cons x l ih=>
  have:=ih (PtL.snoc _ _ _ _ h (.cn (cnC x) 0 x (cnAt x)));simpa[cnPt] using this
theorem QaF{α:Type}{f:α→List AVal}(h:∀x,∃v,f x=[v]):∀l:List α,l.map f=((l.map f).flatten).map one
 |[]=>rfl
 |x::l=>by
  obtain⟨v,hv⟩:=h x;have:=QaF h l;simp only[List.map_cons,List.flatten_cons,hv,List.map_append,List.map_nil,one];rw[←this]; rfl
theorem XaF(l:List Ef):l.map efPt=((l.map efPt).flatten).map one:=QaF (λ_=>⟨_,rfl⟩) l
theorem YbH(l:List Nm):l.map nmPt=((l.map nmPt).flatten).map one:=QaF (λ_=>⟨_,rfl⟩) l
theorem YcB(l:List Cn):l.map cnPt=((l.map cnPt).flatten).map one:=QaF (λ_=>⟨_,rfl⟩) l
theorem c208{S:Type}{enc:S→List AVal}{step:S→Pt→S×Bool}{clo:AVal}{b:Nat}(hc:Clo clo b enc step):∀(k:Nat) (p:Pt),(flat p).length≤k→p.fit=true→(flat p).length≤500000000→∀v,PtV v p→∀s σ K,hget σ b=.box (enc s) →
  (∀σ',Bt b σ σ'→hget σ' b=.box (enc (runL step s (flat p)).1)→K (.bool (runL step s (flat p)).2) σ')→g208 VV [v,clo] σ K
 |0,p,h,_,_=>by have:=QbC p; omega
 |k+1,p,hk,hf,hN=>by
  intro v hv s σ K hb hK;rw[Zb6] at hk hN hK;simp only[List.length_cons] at hk hN;have hkl:=YaK p.kids;unfold g208;refine hc p v hv s σ _ hb (λσ1 t1 b1=>?_);simp only[runL] at hK;refine Ya rfl (Qc (λh=>?_) (λh=>?_))
  ·have h:(step s p).2=false:=by simpa using h
   rw[h] at hK;exact hK σ1 t1 b1
  have h:(step s p).2=true:=by simpa using h
  rw[h,if_pos rfl] at hK;generalize (step s p).1=s1 at hK b1;refine Xn λk2 hk2=>?_;have kk:∀v2 σ2 vs,PtL vs p.kids→Gr σ1 1 (vs.map one) vs.length v2 σ2→k2 [v2] σ2:=by
   intro v2 σ2 vs hp hg;rw[hk2]; clear hk2 k2;have hlen:=hp.length;have hb2:=hg.old b1 (by simp);have t2:Bt b σ1 σ2:=⟨hg.1,λc hc _=>hg.2.1 c hc⟩;refine Ya (hg.grows.len _) ?_;refine Xo (ι:=Nat) (λi ws σ3=>∃s',ws=[iv i]∧i≤p.kids.length∧hget σ3 b=.box (enc s')∧Bt b σ2 σ3∧runL step s1 (flats p.kids)=runL step s' (flats (p.kids.drop i))) (λi=>p.kids.length-i) 0 ⟨s1,rfl,by omega,hb2,Bt.refl _ _,by simp⟩ ?_;rintro i ws σ3 again ⟨s',rfl,hi,hb3,t3,hr⟩ hag;refine Ya rfl (Qc (λh=>?_) (λh=>?_))
   ·have h:i<vs.length:=by simpa using h
    have h':i<p.kids.length:=by omega
    have hg3:Grows 1 (vs.map one) vs.length v2 σ3:=by
     rcases hg.2.2 with h|⟨q1,c,q2,q3,q4,q5⟩
     ·exact .inl h
     ·refine .inr ⟨q1,c,q3,?_,q5⟩;have hcb:c≠b:=by
       intro e; subst e;rw[hb2] at q4; cases q4
      exact t3.old q4 (by simp) hcb
    obtain⟨c,e1,hj,e2⟩:=hg3.at .i64 i h;refine Ya e1 (Ya (e2 false 1 vs[i] (by simp[one])) ?_);have hmem:p.kids[i]∈p.kids:=List.getElem_mem h';have hfl:=XaK hmem;have hdr:p.kids.drop i=p.kids[i]::p.kids.drop (i+1):=YLD h';rw[hdr,flats,Z2] at hr;refine Yt hP rfl g208_ok rfl ?_;refine c208 hc k p.kids[i] (by omega) (YcR hf hmem) (by omega) _ (hp.get i h h') s' σ3 _ hb3 (λσ4 t4 b4=>?_);refine Ya rfl (Qc (λh5=>?_) (λh5=>?_))
    ·have h5:(runL step s' (flat p.kids[i])).2=false:=by simpa using h5
     rw[h5] at hr;have:=hK σ4 ((t1.trans t2).trans (t3.trans t4)) (by rw[hr]; exact b4);rw[hr] at this; exact this
    ·have h5:(runL step s' (flat p.kids[i])).2=true:=by simpa using h5
     rw[h5,if_pos rfl] at hr;refine Ya (Qn ..) ?_;rw[Xg (n:=i) (by omega)];exact hag (i+1) _ _ (by omega) ⟨_,rfl,by omega,b4,t3.trans t4,hr⟩
   ·have h:i=p.kids.length:=by simp at h; omega
    subst h;rw[List.drop_length,flats,runL] at hr;have:=hK σ3 ((t1.trans t2).trans t3) (by rw[hr]; exact hb3);rw[hr] at this; exact this
  clear hk2 hK hb hc;cases hv with
  |ef x=>
   refine Ya rfl (Ya rfl (Ya rfl (Zg ?_)));refine Xz (row:=[.rptr (efC x) 0]) rfl rfl rfl ?_;have hB:=Qh σ1 (ABlk.box [.rptr (efC x) 0]);have hlt:σ1.length<(σ1++[ABlk.box [.rptr (efC x) 0]]).length:=by simp
   have kb:∀v2 σ2 vs,PtL vs (Pt.ef x).kids→Gr (σ1++[ABlk.box [.rptr (efC x) 0]]) 1 (vs.map one) vs.length v2 σ2→k2 [v2] σ2:=λv2 σ2 vs h1 h2=>kk v2 σ2 vs h1 h2.base;clear kk b1 t1;generalize σ1++[ABlk.box [.rptr (efC x) 0]]=τ at hB hlt kb ⊢;generalize σ1.length=c at hB hlt ⊢;refine Ya rfl (Ya (ld hB rfl) (Ya rfl (Ya rfl (Ya (ldr (efLd0 _)) ?_))));refine Ye (c210 _) rfl g210_ok.plain rfl ?_;refine Xn λk14 hk14=>?_;have k1:∀v σ2 vs,PtL vs (if cntOp x.op then [.nm x.n] else [])→Gr τ 1 (vs.map one) vs.length v σ2→k14 [v] σ2:=by
    intro v σ2 vs hp hg;rw[hk14]; clear hk14 k14;have hB2:=hg.old hB (by simp);have hvl:vs.length≤1:=by rw[hp.length]; split<;>simp
    refine Ya rfl (Ya (ld hB2 rfl) (Ya rfl (Ya rfl (Ya (ldr (efLd0 _)) (Ya (Yi ..) ?_)))));refine Qc (λh=>?_) (λh=>?_);rotate_left
    ·have h:¬x.op=8:=by simpa using h
     refine kb _ _ vs ?_ hg;simp only[Pt.kids,if_neg h,List.append_nil]; exact hp
    have h:x.op=8:=by simpa using h
    have hkids:(Pt.ef x).kids=(if cntOp x.op then [.nm x.n] else [])++(.cn x.c::(x.thn.map .ef++x.els.map .ef)):=by simp only[Pt.kids,if_pos h]
    have hlen2:x.thn.length+x.els.length+1≤500000000:=by
     rw[hkids] at hkl;simp only[List.length_append,List.length_cons,List.length_map] at hkl;rw[hkids] at hN;omega
    refine Ya rfl (Ya (ld hB2 rfl) (Ya rfl (Ya rfl (Ya rfl (Ya rfl ?_)))));refine hg.put (cs:=[.iface 292 (.agg [.rptr (efC x) 7])]) rfl rfl rfl (by omega) (λv' σ' hg'=>?_);have hB3:=hg'.old hB (by simp);refine Ya rfl (Ya (ld hB3 rfl) (Ya rfl (Ya rfl (Ya (ldr (Yq _)) ?_))));refine Ya rfl (Ya (ld hB3 rfl) (Ya rfl (Ya rfl (Ya (ldr (Xq _)) ?_))));refine Ya rfl ?_;refine QI 3 (Ym (Ya rfl (Zg (Ya rfl ?_))));refine Ya (v:=iv x.thn.length) (rd:=[]) (by simp[Zf]) ?_;refine Yc4 x.thn (by omega) hg' (λv3 σ3 w hg3=>?_);refine Ya rfl (Ym (Ya rfl (Zg (Ya rfl ?_))));refine Ya (v:=iv x.els.length) (rd:=[]) (by simp[Zf]) ?_;refine Yc4 x.els (by omega) hg3 (λv4 σ4 w hg4=>?_);refine Ya rfl (Ym (Ya rfl (Xh ?_)));refine kb _ _ ((vs++[.iface 292 (.agg [.rptr (efC x) 7])])++(x.thn.map efPt).flatten++(x.els.map efPt).flatten) ?_ ?_
    ·rw[hkids];have:=efPtL (efPtL (PtL.snoc _ _ _ _ hp (.cn (efC x) 7 x.c (cnAt7 x))) x.thn) x.els;simpa using this
    ·have e1:((vs++[AVal.iface 292 (.agg [.rptr (efC x) 7])])++(x.thn.map efPt).flatten++(x.els.map efPt).flatten).map one=List.map one vs++[[AVal.iface 292 (.agg [.rptr (efC x) 7])]]++List.map efPt x.thn++List.map efPt x.els:=by
      rw[List.map_append,List.map_append,←XaF,←XaF,List.map_append]; rfl
     have e2:((vs++[AVal.iface 292 (.agg [.rptr (efC x) 7])])++(x.thn.map efPt).flatten++(x.els.map efPt).flatten).length=vs.length+1+x.thn.length+x.els.length:=by
      have l1:=congrArg List.length (XaF x.thn);have l2:=congrArg List.length (XaF x.els);simp only[List.length_map] at l1 l2;simp only[List.length_append,List.length_cons,List.length_nil,←l1,←l2]
     rw[e1,e2]; exact hg4
   clear hk14;refine Qc (λh=>?_) (λh=>?_)
   ·refine Ya rfl (Ya (ld hB rfl) (Ya rfl (Ya rfl (Ya rfl (Ya rfl ?_)))));refine(Gr.nil 1 τ).put (cs:=[.iface 290 (.agg [.rptr (efC x) 2])]) rfl rfl rfl (by omega) (λv' σ' hg'=>?_);refine k1 _ _ [.iface 290 (.agg [.rptr (efC x) 2])] ?_ hg';rw[if_pos h];exact PtL.snoc [] [] _ _ .nil (.nm (efC x) 2 x.n (nmAt2 x))
   ·refine k1 _ _ [] ?_ (Gr.nil 1 τ);rw[h]; exact .nil
  |nm row j x hx=>
   refine Ya rfl (Ya rfl (Ya rfl (Xh ?_)));refine Ya rfl (Ya rfl (Ya rfl (Zg ?_)));refine Xz (row:=[.rptr row j]) rfl rfl rfl ?_;have hB:=Qh σ1 (ABlk.box [.rptr row j]);have kb:∀v2 σ2 vs,PtL vs (Pt.nm x).kids→Gr (σ1++[ABlk.box [.rptr row j]]) 1 (vs.map one) vs.length v2 σ2→k2 [v2] σ2:=λv2 σ2 vs h1 h2=>kk v2 σ2 vs h1 h2.base;clear kk b1 t1;generalize σ1++[ABlk.box [.rptr row j]]=τ at hB kb ⊢;generalize σ1.length=c at hB ⊢;have hlen2:x.kids.length≤500000000:=by
    simp only[Pt.kids,List.length_map] at hkl hN; omega
   refine Ya rfl (Ya (ld hB rfl) (Ya rfl (Ya rfl (Ya (ldr hx.h3) ?_))));refine Ya (v:=iv x.kids.length) (rd:=[]) (by simp[Zf]) ?_;refine Xo (ι:=Nat) (λi vs s=>∃v,vs=[iv i,v]∧i≤x.kids.length∧Gr τ 1 ((x.kids.take i).map nmPt) i v s) (λi=>x.kids.length-i) 0 ⟨_,rfl,by omega,by simpa using Gr.nil 1 τ⟩ ?_;rintro i vs s again ⟨v,rfl,hi,hg⟩ hag;refine Ya rfl (Qc (λh=>?_) (λh=>?_))
   ·have h:i<x.kids.length:=by simpa using h
    refine Ya rfl (Ya (ld (hg.old hB (by simp)) rfl) (Ya rfl (Ya rfl (Ya (ldr hx.h3) ?_))));refine Ya (Qu _ nmC _ _ _ x.kids _ i h) (Ya rfl (Ya rfl ?_));refine hg.put (cs:=nmPt x.kids[i]) rfl rfl rfl (by omega) (λv' σ' hg'=>?_);refine Ya (Qn ..) ?_;rw[Xg (n:=i) (by omega)];refine hag (i+1) _ _ (by omega) ⟨v',rfl,by omega,?_⟩;rw[←ZC _ _ _ h]; exact hg'
   ·have h:i=x.kids.length:=by simp at h; omega
    subst h;rw[List.take_length] at hg;refine kb _ _ (x.kids.map nmPt).flatten ?_ ?_
    ·have:=nmPtL .nil x.kids;simpa[Pt.kids] using this
    ·have e1:=YbH x.kids;have e2:=congrArg List.length e1;rw[←e1];simp only[List.length_map] at e2;rw[←e2]; exact hg
  |cn row j x hx=>
   refine Ya rfl (Ya rfl (Ya rfl (Xh ?_)));refine Ya rfl (Ya rfl (Ya rfl (Xh ?_)));refine Ya rfl (Ya rfl (Ya rfl (Zg ?_)));refine Xz (row:=[.rptr row j]) rfl rfl rfl ?_;have hB:=Qh σ1 (ABlk.box [.rptr row j]);have kb:∀v2 σ2 vs,PtL vs (Pt.cn x).kids→Gr (σ1++[ABlk.box [.rptr row j]]) 1 (vs.map one) vs.length v2 σ2→k2 [v2] σ2:=λv2 σ2 vs h1 h2=>kk v2 σ2 vs h1 h2.base;clear kk b1 t1;generalize σ1++[ABlk.box [.rptr row j]]=τ at hB kb ⊢;generalize σ1.length=c at hB ⊢;have hlen2:x.nums.length+x.kids.length≤500000000:=by
    simp only[Pt.kids,List.length_map,List.length_append] at hkl hN; omega
   refine Ya rfl (Ya (ld hB rfl) (Ya rfl (Ya rfl (Ya (ldr hx.h3) ?_))));refine Ya (v:=iv x.nums.length) (rd:=[]) (by simp[Zf]) ?_;refine Xo (ι:=Nat) (λi vs s=>∃v,vs=[iv i,v]∧i≤x.nums.length∧Gr τ 1 ((x.nums.take i).map nmPt) i v s) (λi=>x.nums.length-i) 0 ⟨_,rfl,by omega,by simpa using Gr.nil 1 τ⟩ ?_;rintro i vs s again ⟨v,rfl,hi,hg⟩ hag;refine Ya rfl (Qc (λh=>?_) (λh=>?_))
   ·have h:i<x.nums.length:=by simpa using h
    refine Ya rfl (Ya (ld (hg.old hB (by simp)) rfl) (Ya rfl (Ya rfl (Ya (ldr hx.h3) ?_))));refine Ya (Qu _ nmC _ _ _ x.nums _ i h) (Ya rfl (Ya rfl ?_));refine hg.put (cs:=nmPt x.nums[i]) rfl rfl rfl (by omega) (λv' σ' hg'=>?_);refine Ya (Qn ..) ?_;rw[Xg (n:=i) (by omega)];refine hag (i+1) _ _ (by omega) ⟨v',rfl,by omega,?_⟩;rw[←ZC _ _ _ h]; exact hg'
   have h:i=x.nums.length:=by simp at h; omega
   subst h;rw[List.take_length] at hg;clear hag;refine Ya rfl (Ya (ld (hg.old hB (by simp)) rfl) (Ya rfl (Ya rfl (Ya (ldr hx.h4) ?_))));refine Ya (v:=iv x.kids.length) (rd:=[]) (by simp[Zf]) ?_;refine Xo (ι:=Nat) (λi vs s=>∃v,vs=[iv i,v]∧i≤x.kids.length∧Gr τ 1 (x.nums.map nmPt++(x.kids.take i).map cnPt) (x.nums.length+i) v s) (λi=>x.kids.length-i) 0 ⟨_,rfl,by omega,by simpa[h1,hdV,tlV] using hg⟩ ?_;clear hg;rintro i vs s again ⟨v,rfl,hi,hg⟩ hag;refine Ya rfl (Qc (λh=>?_) (λh=>?_))
   ·have h:i<x.kids.length:=by simpa using h
    refine Ya rfl (Ya (ld (hg.old hB (by simp)) rfl) (Ya rfl (Ya rfl (Ya (ldr hx.h4) ?_))));refine Ya (Qu _ cnC _ _ _ x.kids _ i h) (Ya rfl (Ya rfl ?_));refine hg.put (cs:=cnPt x.kids[i]) rfl rfl rfl (by omega) (λv' σ' hg'=>?_);refine Ya (Qn ..) ?_;rw[Xg (n:=i) (by omega)];refine hag (i+1) _ _ (by omega) ⟨v',rfl,by omega,?_⟩;rw[←ZC _ _ _ h,←List.append_assoc]; exact hg'
   ·have h:i=x.kids.length:=by simp at h; omega
    subst h;rw[List.take_length] at hg;refine kb _ _ ((x.nums.map nmPt).flatten++(x.kids.map cnPt).flatten) ?_ ?_
    ·have:=cnPtL (nmPtL .nil x.nums) x.kids;simpa[Pt.kids] using this
    ·have e1:((x.nums.map nmPt).flatten++(x.kids.map cnPt).flatten).map one=x.nums.map nmPt++x.kids.map cnPt:=by
      rw[List.map_append,←YbH,←YcB]
     have e2:=congrArg List.length e1;simp only[List.length_map,List.length_append] at e2;rw[e1,List.length_append,e2]; exact hg
end Go.Ah.Tz
end
section
namespace Go.Ah.Tz
open Go.Proofs.Tryz (prog)
mutual
theorem Yc5:∀x:Nm,nmW x=min ((nmP x).length:Int) 1073741824
 |.mk op n who kids=>by
  simp only[nmW,nmP,List.length_cons]
  rw[Ycf 1 kids (by omega) (by omega)]; omega
theorem Ycf:∀(n:Int) (l:List Nm),0≤n→n≤1073741824→nmWs n l=min (n+((nmPs l).length:Int)) 1073741824
 |n,[],h1,h2=>by simp only[nmWs,nmPs,List.length_nil]; omega
 |n,x::l,h1,h2=>by
  simp only[nmWs,nmPs,List.length_append]
  rw[Yc5 x,Ycf _ l (by omega) (by omega)]; omega
end
mutual
theorem ZcZ:∀x:Cn,cnW x=min ((cnP x).length:Int) 1073741824
 |.mk op who name nums kids=>by
  simp only[cnW,cnP,List.length_cons,List.length_append]
  rw[Ycf 1 nums (by omega) (by omega),XcH _ kids (by omega) (by omega)]; omega
theorem XcH:∀(n:Int) (l:List Cn),0≤n→n≤1073741824→cnWs n l=min (n+((cnPs l).length:Int)) 1073741824
 |n,[],h1,h2=>by simp only[cnWs,cnPs,List.length_nil]; omega
 |n,x::l,h1,h2=>by
  simp only[cnWs,cnPs,List.length_append]
  rw[ZcZ x,XcH _ l (by omega) (by omega)]; omega
end
mutual
theorem efW_P:∀(n:Int) (x:Ef),0≤n→n≤1073741824→efW n x=min (n+((efP x).length:Int)) 1073741824
 |n,.mk op who nn name c thn els,h1,h2=>by
  simp only[efW,efP,List.length_cons,List.length_append]
  rw[Yc5 nn,ZcZ c,XaV 0 thn (by omega) (by omega),XaV 0 els (by omega) (by omega)]
  generalize cntOp op=cb
  by_cases h:op=8
  ·simp only[if_pos h]
   cases cb<;>simp only[if_true,if_false,List.length_append,List.length_nil,Bool.false_eq_true]<;>omega
  ·simp only[if_neg h]
   cases cb<;>simp only[if_true,if_false,List.length_nil,Bool.false_eq_true]<;>omega
theorem XaV:∀(n:Int) (l:List Ef),0≤n→n≤1073741824→efsW n l=min (n+((efPs l).length:Int)) 1073741824
 |n,[],h1,h2=>by simp only[efsW,efPs,List.length_nil]; omega
 |n,x::l,h1,h2=>by
  simp only[efsW,efPs,List.length_append]
  rw[efW_P n x h1 h2,XaV _ l (by omega) (by omega)]; omega
end
def cdP(c:Cd):List Pt:=efPs c.played++(efPs c.dead++efPs c.dawn)
theorem cdW_P(c:Cd):cdW c=min ((cdP c).length:Int) 1073741824:=by
 rw[cdW,XaV 0 _ (by omega) (by omega),XaV 0 _ (by omega) (by omega),XaV 0 _ (by omega) (by omega),cdP];simp only[List.length_append]; omega
attribute [local irreducible] Ans.rd Ans.pu Ans.wr Ans.dr Ans.gr Ans.gw Ans.gl Ans.gd Ans.opt joinK W
set_option maxHeartbeats 1000000
theorem Yb5(l:List Ef):efPs l=flats (l.map .ef):=(Xan l).symm
theorem Zcf{S:Type}{enc:S→List AVal}{step:S→Pt→S×Bool}{clo:AVal}{b:Nat}(hc:Clo clo b enc step)(l:List Ef)(hf:lsFit l=true)(hN:(efPs l).length≤500000000){s:S}{σ:List ABlk}(hb:hget σ b=.box (enc s)){R:List ABlk→Prop}{K:List AVal→List ABlk→Prop}
 (hR:∀σ',Bt b σ σ'→hget σ' b=.box (enc (runL step s (efPs l)).1)→(runL step s (efPs l)).2=false→R σ')(hK:∀w σ',Bt b σ σ'→hget σ' b=.box (enc (runL step s (efPs l)).1)→(runL step s (efPs l)).2=true→K w σ') :
  VV.loop (λag15 v16 σ=>VV.rd (Yh .lss false [(h0 v16),iv l.length] σ) λt26_17=>VV.test t26_17 (
   VV.rd (Qa 14 [efV l,(h0 v16)] σ) λt30_18=>VV.rd (Xd [.nilp] [(0,1)] [t30_18] σ) λt31_19=>VV.rd (Zz 272 [t31_19] σ) λt32_20=>
   VV.call (.call 208) [t32_20,clo] σ λt34_21 σ=>VV.rd (Zp .not [t34_21] σ) λt35_22=>VV.test t35_22 (R σ) (
   VV.rd (Yh .add false [(h0 v16),(.int .i64 1)] σ) λt36_23=>ag15 [t36_23] σ)) (K v16 σ)) [(.int .i64 0)] σ:=by
 have hl:=YaK (l.map .ef);rw[Xan,List.length_map] at hl;rw[Yb5] at hR hK;refine Xo (ι:=Nat) (λi ws σ3=>∃s',ws=[iv i]∧i≤l.length∧hget σ3 b=.box (enc s')∧Bt b σ σ3∧runL step s (flats (l.map .ef))=runL step s' (flats ((l.drop i).map .ef))) (λi=>l.length-i) 0 ⟨s,rfl,by omega,hb,Bt.refl _ _,by simp⟩ ?_;rintro i ws σ3 again ⟨s',rfl,hi,hb3,t3,hr⟩ hag;refine Ya rfl (Qc (λh=>?_) (λh=>?_))
 ·have h:i<l.length:=by simpa using h
  refine Ya (Qu _ efC _ _ _ l _ i h) (Ya rfl (Ya rfl ?_));have hdr:l.drop i=l[i]::l.drop (i+1):=YLD h;rw[hdr,List.map_cons,flats,Z2] at hr;refine Yt hP rfl g208_ok rfl ?_;have hm:=XaK (l:=l.map .ef) (p:=.ef l[i]) (List.mem_map_of_mem (List.getElem_mem h));rw[Xan] at hm;refine c208 hc _ (.ef l[i]) (Nat.le_refl _) (Z6 hf (List.getElem_mem h)) (by omega) _ (.ef _) s' σ3 _ hb3 (λσ4 t4 b4=>?_);refine Ya rfl (Qc (λh5=>?_) (λh5=>?_))
  ·have h5:(runL step s' (flat (.ef l[i]))).2=false:=by simpa using h5
   rw[h5] at hr;exact hR σ4 (t3.trans t4) (by rw[hr]; exact b4) (by rw[hr]; rfl)
  ·have h5:(runL step s' (flat (.ef l[i]))).2=true:=by simpa using h5
   rw[h5,if_pos rfl] at hr;refine Ya (Qn ..) ?_;rw[Xg (n:=i) (by omega)];exact hag (i+1) _ _ (by omega) ⟨_,rfl,by omega,b4,t3.trans t4,hr⟩
 ·have h:i=l.length:=by simp at h; omega
  subst h;rw[List.drop_length,List.map_nil,flats,runL] at hr;exact hK _ σ3 t3 (by rw[hr]; exact hb3) (by rw[hr])
theorem c155{S:Type}{enc:S→List AVal}{step:S→Pt→S×Bool}{clo:AVal}{b:Nat}(hc:Clo clo b enc step)(c:Cd)(f1:lsFit c.played=true)(f2:lsFit c.dead=true)(f3:lsFit c.dawn=true)(hN:(cdP c).length≤500000000){s:S}{σ:List ABlk}{cb:Nat}(hcb:hget σ cb=.box (cdC c))(hb:hget σ b=.box (enc s)){K:AVal→List ABlk→Prop}
 (hK:∀σ',Bt b σ σ'→hget σ' b=.box (enc (runL step s (cdP c)).1)→K (.tup []) σ'):g155 VV [.bptr cb 0,clo] σ K:=by
 simp only[cdP,List.length_append] at hN;simp only[cdP,Z2] at hK;unfold g155;refine Ya rfl (Ya rfl (Ya (ld hcb rfl) (Ya rfl (Ya rfl (Ya (ld hcb rfl) (Ya rfl (Ya rfl (Ya (ld hcb rfl) (Ya rfl ?_)))))))));refine QI 4 (Ym (Ya rfl (Zg (Ya rfl ?_))));refine Ya (v:=iv c.played.length) (rd:=[]) (by simp[Zf]) ?_;refine Zcf hc c.played f1 (by omega) hb (λσ1 t1 b1 h1=>?_) (λw σ1 t1 b1 h1=>?_)
 ·rw[h1] at hK; exact hK σ1 t1 b1
 rw[h1,if_pos rfl] at hK;refine Ya rfl (Ym (Ya rfl (Zg (Ya rfl ?_))));refine Ya (v:=iv c.dead.length) (rd:=[]) (by simp[Zf]) ?_;refine Zcf hc c.dead f2 (by omega) b1 (λσ2 t2 b2 h2=>?_) (λw σ2 t2 b2 h2=>?_)
 ·rw[h2] at hK; exact hK σ2 (t1.trans t2) b2
 rw[h2,if_pos rfl] at hK;refine Ya rfl (Ym (Ya rfl (Zg (Ya rfl ?_))));refine Ya (v:=iv c.dawn.length) (rd:=[]) (by simp[Zf]) ?_;refine Zcf hc c.dawn f3 (by omega) b2 (λσ3 t3 b3 h3=>?_) (λw σ3 t3 b3 h3=>?_)
 ·exact hK σ3 ((t1.trans t2).trans t3) b3
 refine Ya rfl (Ym (Ya rfl (Xh ?_)));exact hK σ3 ((t1.trans t2).trans t3) b3
def cntS(n:Int)(_:Pt):Int×Bool:=(IntKind.i64.wrap (n+1),decide (IntKind.i64.wrap (n+1)<1073741824))
theorem Zcj:∀(l:List Pt) (n:Int),0≤n→n+(l.length:Int)<1073741824→runL cntS n l=(n+(l.length:Int),true)
 |[],n,_,_=>by simp[runL]
 |p::l,n,h1,h2=>by
  simp only[List.length_cons] at h2;have hw:IntKind.i64.wrap (n+1)=n+1:=wrapI (by omega) (by omega);simp only[runL,cntS,hw];rw[if_pos (by simp; omega),Zcj l (n+1) (by omega) (by omega),List.length_cons]
  congr 1; omega
theorem clo156(b:Nat):Clo (.func (.func 156) [] [.bptr b 0]) b (λn:Int=>[iv n]) cntS:=by
 intro p v hv s σ K hb hK;refine Yt hP rfl g156_ok rfl ?_;show g156 VV [v,.bptr b 0] σ K;unfold g156;have hlt:=Qi hb (by simp);refine Ya (ld hb rfl) (Ya (Qn ..) (Zd (stv hb rfl rfl rfl) (Yo _ hlt) ?_));have hb2:hget (σ.set b (.box [iv (IntKind.i64.wrap (s+1))])) b=.box [iv (IntKind.i64.wrap (s+1))]:=Qk _ hlt;refine Ya (ld hb2 rfl) (Ya (Qx ..) ?_);exact hK _ ⟨by simp,λc hc hne=>Yj _ hc hne⟩ hb2
theorem c124(c:Cd)(f1:lsFit c.played=true)(f2:lsFit c.dead=true)(f3:lsFit c.dawn=true)(hN:(cdP c).length≤500000000):PC 124 [.agg (cdC c)] (iv (cdW c)):=by
 refine Ze hP g124_ok rfl rfl ?_;unfold g124;refine Zd rfl rfl (Zd rfl rfl (Zd rfl rfl (Ya rfl ?_)));refine Yt hP rfl g155_ok rfl ?_;refine c155 (clo156 1) c f1 f2 f3 hN (s:=0) rfl rfl (λσ' _ hb=>?_);rw[Zcj _ 0 (by omega) (by omega)] at hb;refine Ya (ld hb rfl) ?_;rw[cdW_P]
 congr 1; omega
end Go.Ah.Tz
end
section
namespace Go.Ah.Tz
open Go.Proofs.Tryz (prog)
attribute [local irreducible] Ans.rd Ans.pu Ans.wr Ans.dr Ans.gr Ans.gw Ans.gl Ans.gd Ans.opt joinK W
set_option maxHeartbeats 1000000
theorem Qb3(σ:List ABlk)(x:Ef):Zm [.agg (efC x)] σ=.ok (.bptr σ.length 0) [] [(σ.length,.box (efC x))]:=by rw[YH]; rfl
def idxF{α:Type}(f:α→Bool):List α→Int→Int
 |[],_=>-1
 |x::l,n=>if f x=true then n else idxF f l (n+1)
theorem Ya4{α:Type}(f:α→Bool):∀(l:List α) (n:Int),0≤n→decide (0≤idxF f l n)=l.any f
 |[],_,_=>rfl
 |x::l,n,h=>by
  by_cases hf:f x=true
  ·have e:idxF f (x::l) n=n:=if_pos hf;rw[e,List.any_cons,hf]; simpa using h
  ·have e:idxF f (x::l) n=idxF f l (n+1):=if_neg hf;have hf':f x=false:=by simpa using hf
   rw[e,Ya4 f l (n+1) (by omega),List.any_cons,hf']; rfl
theorem ZcG{P:Program}{GL:Globs}{c d:Bool}{K:AVal→Prop}{r1:SRes}{f2 f3 f4:AVal→SRes}{σ:List ABlk}{v1 v2 v3:AVal}{q1 q2 q3 q4:List Nat}(h1:r1=.ok v1 q1 [])(h2:f2 v1=.ok v2 q2 [])(h3:f3 v2=.ok v3 q3 [])(h4:f4 v3=.ok (.bool d) q4 [])(hK:K (.bool (c&&d))) :
  (W P GL).gr (.bool c) true (λk=>(W P GL).rd r1 k) λt1=>(W P GL).gr (.bool c) true (λk=>(W P GL).rd (f2 t1) k) λt2=>(W P GL).gr (.bool c) true (λk=>(W P GL).rd (f3 t2) k) λt3=>(W P GL).gr (.bool c) true (λk=>(W P GL).rd (f4 t3) k) λt4=>(W P GL).rd (Zn [.bool c,t4,.bool false] σ) K:=by
 cases c with
 |true=>exact Yb (Ya h1 (Yb (Ya h2 (Yb (Ya h3 (Yb (Ya h4 (Ya rfl hK))))))))
 |false=>exact Xb rfl (Xb rfl (Xb rfl (Xb rfl (Ya rfl hK))))
theorem c255(l:List Ef)(hl:l.length≤big)(id:FuncId)(fs cs:List AVal)(hp:Zj prog id=true)(f:Ef→Bool)(hc:∀x∈l,PC id (fs++[.agg (efC x)]++cs) (.bool (f x)))(hr:∀x,roL (fs++[.agg (efC x)]++cs)=true) :
  PC 255 [efV l,.func (.func id) fs cs] (iv (idxF f l 0)):=by
 rw[bigE] at hl;refine Ze hP g255_ok rfl rfl ?_;unfold g255;refine Ya (v:=iv l.length) (rd:=[]) (by simp[Zf]) ?_;refine Xo (ι:=Nat) (λi vs s=>vs=[iv i]∧i≤l.length∧idxF f l 0=idxF f (l.drop i) i) (λi=>l.length-i) 0 ⟨rfl,by omega,by simp⟩ ?_;rintro i vs s again ⟨rfl,hi,hr'⟩ hag;refine Ya rfl (Qc (λh=>?_) (λh=>?_))
 ·have h:i<l.length:=by simpa using h
  refine Ya (Qu _ efC _ _ _ l _ i h) (Ya (ldr (efLd _)) ?_);refine Ye (hc _ (List.getElem_mem h)) rfl hp (hr _) ?_;rw[YLD h,idxF] at hr';refine Qc (λh2=>?_) (λh2=>?_)
  ·rw[if_pos h2] at hr'; rw[hr']; rfl
  ·rw[if_neg (by rw[h2]; simp)] at hr';refine Ya (Qn ..) ?_;rw[Xg (n:=i) (by omega)];exact hag (i+1) _ _ (by omega) ⟨rfl,by omega,by rw[hr']; push_cast; rfl⟩
 ·have h:i=l.length:=by simp at h; omega
  subst h;rw[List.drop_length,idxF] at hr';rw[hr']
theorem c239(l:List Ef)(hl:l.length≤big)(id:FuncId)(fs cs:List AVal)(hp:Zj prog id=true)(f:Ef→Bool)(hc:∀x∈l,PC id (fs++[.agg (efC x)]++cs) (.bool (f x)))(hr:∀x,roL (fs++[.agg (efC x)]++cs)=true)(hr2:roL [efV l,.func (.func id) fs cs]=true) :
  PC 239 [efV l,.func (.func id) fs cs] (.bool (l.any f)):=by
 refine Ze hP g239_ok rfl rfl ?_;unfold g239;refine Ye (c255 l hl id fs cs hp f hc hr) rfl g255_ok.plain hr2 ?_;refine Ya (Qaq ..) ?_;rw[Ya4 f l 0 (by omega)]
def asksR(u:Int):List AVal:=[.func (.func 235) [.agg [iv8 u]] [],.func (.func 235) [.agg [iv8 u]] [],.func (.func 235) [.agg [iv8 u]] [],.func (.func 235) [.agg [iv8 u]] [],.func (.func 236) [.agg [iv8 u]] [],.func (.func 237) [.agg [iv8 u]] [],.func (.func 236) [.agg [iv8 u]] [],.func (.func 236) [.agg [iv8 u]] [],.func (.func 238) [.agg [iv8 u]] []]
theorem c240(u:Int)(x:Ef)(hf:efFit x=true)(h238:x.op=8→PC 238 [.agg [iv8 u],.agg (efC x)] (.bool (efL u x))):PC 240 [.agg (efC x),.rptr [iv8 u] 0,.rptr (asksR u) 0] (.bool (!efL u x)):=by
 have hop:=Ycx hf;refine Ze hP g240_ok rfl rfl ?_;unfold g240;refine Zd (Qb3 _ _) rfl (Ya rfl (Ya rfl (Ya rfl (Ya (ld rfl (efLd0 x)) (Ya (Qaq ..) ?_)))));have p235:x.op=0∨x.op=1∨x.op=2∨x.op=3→PC 235 [.agg [iv8 u],.agg (efC x)] (.bool (efL u x)):=by
  intro h;have e:efL u x=decide (joinL u (nmL x.n)=0):=by rw[QbB,if_neg (by omega),if_neg (by omega),if_pos h]
  rw[e]; exact c235 u x hf
 have p236:¬(x.op=0∨x.op=1∨x.op=2∨x.op=3)→x.op≠5→x.op≠8→PC 236 [.agg [iv8 u],.agg (efC x)] (.bool (efL u x)):=by
  intro h h5 h8;have e:efL u x=decide (lbN u=0):=by rw[QbB,if_neg h5,if_neg h8,if_neg h,YaX]
  rw[e]; exact c236 u x
 have p237:x.op=5→PC 237 [.agg [iv8 u],.agg (efC x)] (.bool (efL u x)):=by
  intro h;have e:efL u x=Xbc (joinL u (nmL x.n)) 1:=by rw[QbB,if_pos h]
  rw[e]; exact c237 u x hf
 refine ZcG rfl (ld rfl (efLd0 x)) rfl (Qx ..) ?_;rw[wrapI (n:=x.op) (by omega) (by omega)];refine Xn λk11 hk11=>?_;have hk:∀id,Zj prog id=true→PC id [.agg [iv8 u],.agg (efC x)] (.bool (efL u x))→k11 [.func (.func id) [.agg [iv8 u]] []] [.box (efC x)]:=by
  intro id hp hc;rw[hk11];refine Ya (ld rfl (efLd x)) ?_;refine Ye hc rfl hp (efRo u x) ?_;exact Ya rfl rfl
 clear hk11;refine Qc (λh=>?_) (λh=>?_)
 ·have h:0≤x.op∧x.op<9:=by simpa using h
  refine Ya rfl (Ya (ld rfl (efLd0 x)) ?_);have hcs:x.op=0∨x.op=1∨x.op=2∨x.op=3∨x.op=4∨x.op=5∨x.op=6∨x.op=7∨x.op=8:=by omega
  rcases hcs with e|e|e|e|e|e|e|e|e
  ·have q:=p235 (by omega); rw[e]; exact Ya rfl (Ya rfl (hk _ g235_ok.plain q))
  ·have q:=p235 (by omega); rw[e]; exact Ya rfl (Ya rfl (hk _ g235_ok.plain q))
  ·have q:=p235 (by omega); rw[e]; exact Ya rfl (Ya rfl (hk _ g235_ok.plain q))
  ·have q:=p235 (by omega); rw[e]; exact Ya rfl (Ya rfl (hk _ g235_ok.plain q))
  ·have q:=p236 (by omega) (by omega) (by omega); rw[e]; exact Ya rfl (Ya rfl (hk _ g236_ok.plain q))
  ·have q:=p237 e; rw[e]; exact Ya rfl (Ya rfl (hk _ g237_ok.plain q))
  ·have q:=p236 (by omega) (by omega) (by omega); rw[e]; exact Ya rfl (Ya rfl (hk _ g236_ok.plain q))
  ·have q:=p236 (by omega) (by omega) (by omega); rw[e]; exact Ya rfl (Ya rfl (hk _ g236_ok.plain q))
  ·have q:=h238 e; rw[e]; exact Ya rfl (Ya rfl (hk _ g238_ok.plain q))
 ·have h:0≤x.op→¬x.op<9:=by simpa using h
  exact hk _ g236_ok.plain (p236 (by omega) (by omega) (by omega))
theorem c238(u:Int)(x:Ef)(hf:efFit x=true)(h1:∀u',PC 222 [.agg [iv8 u'],efV x.thn] (.bool (efsL u' x.thn)))(h2:∀u',PC 222 [.agg [iv8 u'],efV x.els] (.bool (efsL u' x.els))) :
  PC 238 [.agg [iv8 u],.agg (efC x)] (.bool (efsL (joinL u (cnL x.c)) x.thn&&efsL (joinL u (cnL x.c)) x.els)):=by
 refine Ze hP g238_ok rfl rfl ?_;unfold g238;refine Zd rfl rfl (Zd (Qb3 _ _) rfl (Yk rfl (Qj rfl rfl (Yk rfl (Qj (ld rfl (efLdC x)) rfl ?_)))));refine Qp (c254 _ (Zar hf)) rfl g254_ok.plain (cnRo _) ?_;refine Qp (c250 _ _) rfl g250_ok.plain rfl ?_;refine Yk rfl (Qj rfl rfl (Qj rfl rfl (QO (by kernel_rfl) ?_)));refine Ya rfl (Ya rfl (Ya (ld rfl (Yq x)) ?_));refine Ye (h1 _) rfl g222_ok.plain rfl ?_;rcases YBE (efsL (joinL u (cnL x.c)) x.thn) with h|h
 ·rw[h];refine Yb (Ya rfl (Yb (Ya rfl (Yb (Ya (ld rfl (Xq x)) (Yc ?_))))));refine Ye (h2 _) rfl g222_ok.plain rfl ?_;exact Ya rfl rfl
 ·rw[h];exact Xb rfl (Xb rfl (Xb rfl (Xf rfl (Ya rfl rfl))))
theorem ZbC(u:Int):∀l,efsL u l=l.all (efL u)
 |[]=>rfl
 |x::l=>by simp[efsL,ZbC u l]
theorem c222':∀(k:Nat) (l:List Ef) (u:Int),SizeOf.sizeOf l≤k→lsFit l=true→PC 222 [.agg [iv8 u],efV l] (.bool (efsL u l))
 |0,l,_,h,_=>by cases l<;>simp at h
 |k+1,l,u,hk,hf=>by
  refine Ze hP g222_ok rfl rfl ?_;unfold g222;refine Zd rfl rfl (Ya rfl (Ya rfl (Ya rfl (Ya rfl (Ya rfl (Ya rfl (Ya rfl (Ya rfl (Ya rfl (Ya rfl (Ya rfl (Ya rfl (Ya rfl (Ya rfl (Ya rfl (Ya rfl (Ya rfl (Ya rfl (Ya rfl (Zd rfl rfl (Zd rfl rfl (Ya rfl ?_))))))))))))))))))))));have hc:∀x∈l,PC 240 ([]++[.agg (efC x)]++[.rptr [iv8 u] 0,.rptr (asksR u) 0]) (.bool (!efL u x)):=by
   intro x hx;have hfx:=Z6 hf hx;refine c240 u x hfx (λh8=>?_);have e:efL u x=(efsL (joinL u (cnL x.c)) x.thn&&efsL (joinL u (cnL x.c)) x.els):=by rw[QbB,if_neg (by omega),if_pos h8]
   have hs:=List.sizeOf_lt_of_mem hx;have hs2:=ZaE x;rw[e];exact c238 u x hfx (λu'=>c222' k x.thn u' (by omega) (Y5 hfx)) (λu'=>c222' k x.els u' (by omega) (Z5 hfx))
  refine XE (c239 l (YS hf) 240 [] [.rptr [iv8 u] 0,.rptr (asksR u) 0] g240_ok.plain (λx=>!efL u x) hc (λx=>by rw[YH]; rfl) rfl) rfl g239_ok.plain rfl rfl ?_;refine Ya rfl ?_;rw[ZbC]
  congr 1
  simp only[List.any_eq_not_all_not,Bool.not_not]
theorem c222(l:List Ef)(u:Int)(hf:lsFit l=true):PC 222 [.agg [iv8 u],efV l] (.bool (efsL u l)):=c222' _ l u (Nat.le_refl _) hf
theorem c182(cs:List Cd)(hf:Zaf cs=true):PC 182 [cdV cs] (.agg [iv (cdsL cs).1,iv (cdsL cs).2]):=by
 simp only[Zaf,Bool.and_eq_true,decide_eq_true_eq] at hf;obtain⟨f0,f1⟩:=hf;rw[bigE] at f0;refine Ze hP g182_ok rfl rfl ?_;unfold g182;refine Zd rfl rfl (Ya rfl (Zd rfl rfl (Zd rfl rfl ?_)));refine Ya (v:=iv cs.length) (rd:=[]) (by simp[Zf]) ?_;refine Xo (ι:=Nat) (λi vs σ=>vs=[iv i]∧hget σ 0=.box [iv 0,iv 0]∧hget σ 1=.box [iv8 0]∧0<σ.length∧i≤cs.length∧cdsL cs=cdsL (cs.drop i)) (λi=>cs.length-i) 0 ⟨rfl,rfl,rfl,by simp,by omega,by simp⟩ ?_;rintro i vs σ again ⟨rfl,hz,ho,hz2,hi,hu⟩ hag;refine Ya rfl ?_;refine Qc (λh=>?_) (λh=>?_);rotate_left
 ·have h:i=cs.length:=by simp at h; omega
  subst h;rw[List.drop_length,cdsL] at hu;refine Ya rfl (Zd (stv hz rfl rfl rfl) (Yo _ hz2) (Xm (XQ hz2 rfl) ?_));rw[hu]
 have hi:i<cs.length:=by simpa using h
 have hdr:cs.drop i=cs[i]::cs.drop (i+1):=by rw[YLD hi]
 have hix:=λ(s:List ABlk)=>Qu s cdC false false 12 cs .i64 i hi;have hfi:=List.all_eq_true.1 f1 _ (List.getElem_mem hi);generalize cs[i]=c at hdr hix hfi;rw[hdr,cdsL] at hu;simp only[cdFit,Bool.and_eq_true,decide_eq_true_eq] at hfi;obtain⟨g0,g1,g2,g3⟩:=hfi;refine Ya (hix _) (Ya (ldr (cdLd _)) (Xz (row:=cdC c) (row':=cdC c) rfl rfl rfl ?_));have hB0:=Qh σ (ABlk.box (cdC c));have hz':hget (σ++[ABlk.box (cdC c)]) 0=.box [iv 0,iv 0]:=Qf _ hz (by simp);have ho':hget (σ++[ABlk.box (cdC c)]) 1=.box [iv8 0]:=Qf _ ho (by simp);have hz2':0<(σ++[ABlk.box (cdC c)]).length:=by simp
 generalize σ++[ABlk.box (cdC c)]=base at hB0 hz' ho' hz2' ⊢;generalize σ.length=b at hB0 ⊢;clear hz hz2 ho;refine Ya (ld ho' rfl) (Ya rfl (Ya (ld hB0 rfl) ?_));refine Ye (c222 _ 0 g1) rfl g222_ok.plain rfl ?_;refine Ya rfl ?_;apply cutF (cdL c=false)
 ·intro hR;have good:cdL c=true→VV.rd (Yh .add false [iv i,(.int .i64 1)] base) λt10_26=>again [t10_26] base:=by
   intro hc;rw[hc,if_pos rfl] at hu;refine Ya (Qn ..) ?_;rw[Xg (n:=i) (by omega)];exact hag (i+1) _ _ (by omega) ⟨rfl,hz',ho',hz2',by omega,hu⟩
  rcases YBE (!efsL 0 c.played) with a1|a1
  ·rw[a1];repeat first|refine Yb ?_|refine Yc ?_|refine Xb rfl ?_|refine Xf rfl ?_|refine Zi rfl ?_|refine Xi rfl ?_|refine Ya (ld hB0 rfl) ?_|refine Ya rfl ?_
   refine Zg (hR ?_);have a1:efsL 0 c.played=false:=by simpa using a1
   simp[cdL,a1]
  rw[a1];repeat first|refine Yb ?_|refine Yc ?_|refine Ya (ld ho' rfl) ?_|refine Ya (ld hB0 rfl) ?_|refine Ya rfl ?_
  have a1:efsL 0 c.played=true:=by simpa using a1
  refine Ye (c222 _ 0 g2) rfl g222_ok.plain rfl ?_;repeat first|refine Yb ?_|refine Yc ?_|refine Ya (ld ho' rfl) ?_|refine Ya (ld hB0 rfl) ?_|refine Ya rfl ?_
  rcases YBE (!efsL 0 c.dead) with a2|a2
  ·rw[a2];repeat first|refine Yb ?_|refine Yc ?_|refine Xb rfl ?_|refine Xf rfl ?_|refine Zi rfl ?_|refine Xi rfl ?_|refine Ya (ld hB0 rfl) ?_|refine Ya rfl ?_
   refine Zg (hR ?_);have a2:efsL 0 c.dead=false:=by simpa using a2
   simp[cdL,a2]
  rw[a2];repeat first|refine Yb ?_|refine Yc ?_|refine Ya (ld ho' rfl) ?_|refine Ya (ld hB0 rfl) ?_|refine Ya rfl ?_
  have a2:efsL 0 c.dead=true:=by simpa using a2
  refine Ye (c222 _ 0 g3) rfl g222_ok.plain rfl ?_;repeat first|refine Yb ?_|refine Yc ?_|refine Ya (ld hB0 rfl) ?_|refine Ya rfl ?_
  refine Qc (λa3=>hR ?_) (λa3=>good ?_)
  ·have a3:efsL 0 c.dawn=false:=by simpa using a3
   simp[cdL,a3]
  ·have a3:efsL 0 c.dawn=true:=by simpa using a3
   simp[cdL,a1,a2,a3]
 intro hc;rw[hc] at hu
 replace hu:cdsL cs=(140,c.pl):=hu
 refine Ya rfl (Ya (ld hB0 rfl) (Ya rfl (Zd (stv hz' rfl rfl rfl) (Yo _ hz2') (Xm (XQ hz2' rfl) ?_))));rw[hu]
theorem c259(l:List Cd)(hl:l.length≤big)(id:FuncId)(fs cs:List AVal)(hp:Zj prog id=true)(f:Cd→Bool)(hc:∀x∈l,PC id (fs++[.agg (cdC x)]++cs) (.bool (f x)))(hr:∀x,roL (fs++[.agg (cdC x)]++cs)=true) :
  PC 259 [cdV l,.func (.func id) fs cs] (iv (idxF f l 0)):=by
 rw[bigE] at hl;refine Ze hP g259_ok rfl rfl ?_;unfold g259;refine Ya (v:=iv l.length) (rd:=[]) (by simp[Zf]) ?_;refine Xo (ι:=Nat) (λi vs s=>vs=[iv i]∧i≤l.length∧idxF f l 0=idxF f (l.drop i) i) (λi=>l.length-i) 0 ⟨rfl,by omega,by simp⟩ ?_;rintro i vs s again ⟨rfl,hi,hr'⟩ hag;refine Ya rfl (Qc (λh=>?_) (λh=>?_))
 ·have h:i<l.length:=by simpa using h
  refine Ya (Qu _ cdC _ _ _ l _ i h) (Ya (ldr (cdLd _)) ?_);refine Ye (hc _ (List.getElem_mem h)) rfl hp (hr _) ?_;rw[YLD h,idxF] at hr';refine Qc (λh2=>?_) (λh2=>?_)
  ·rw[if_pos h2] at hr'; rw[hr']; rfl
  ·rw[if_neg (by rw[h2]; simp)] at hr';refine Ya (Qn ..) ?_;rw[Xg (n:=i) (by omega)];exact hag (i+1) _ _ (by omega) ⟨rfl,by omega,by rw[hr']; push_cast; rfl⟩
 ·have h:i=l.length:=by simp at h; omega
  subst h;rw[List.drop_length,idxF] at hr';rw[hr']
theorem Ycd(t:Tx):∀(l:List Cd) (n:Nat),((fndI n l t).2=true∧n≤(fndI n l t).1∧(fndI n l t).1<n+l.length∧idxF (λc=>c.name==t) l (n:Int)=((fndI n l t).1:Int))∨((fndI n l t)=(0,false)∧idxF (λc=>c.name==t) l (n:Int) = -1)
 |[],n=>.inr ⟨rfl,rfl⟩
 |c::l,n=>by
  by_cases h:c.name==t
  ·left;have e1:fndI n (c::l) t=(n,true):=if_pos h;have e2:idxF (λc:Cd=>c.name==t) (c::l) (n:Int)=n:=if_pos h;rw[e1,e2]; simp
  ·have e1:fndI n (c::l) t=fndI (n+1) l t:=if_neg h;have e2:idxF (λc:Cd=>c.name==t) (c::l) (n:Int)=idxF (λc:Cd=>c.name==t) l ((n+1:Nat):Int):=by
    have:=(if_neg h:(if (c.name==t)=true then (n:Int) else idxF (λc:Cd=>c.name==t) l ((n:Int)+1))=_)
    push_cast; exact this
   rw[e1,e2];rcases Ycd t l (n+1) with ⟨q1,q2,q3,q4⟩|q
   ·exact .inl ⟨q1,by omega,by simp; omega,q4⟩
   ·exact .inr q
theorem c244(c:Cd)(t:Tx):PC 244 [.agg (cdC c),.rptr [.str t] 0] (.bool (c.name==t)):=by
 refine Ze hP g244_ok rfl rfl ?_;unfold g244;exact Zd rfl rfl (Ya rfl (Ya (ld rfl rfl) (Ya rfl (Ya rfl rfl))))
theorem c243(l:List Cd)(hl:l.length≤big)(t:Tx)(x:ABlk)(K:AVal→List ABlk→Prop)(hK:∀cs σ,cs.all AVal.cell=true→cs.length=12→K (.tup [.agg cs,iv (fndI 0 l t).1,.bool (fndI 0 l t).2]) ([x,.box [.str t]]++σ)) :
  g243 VV [cdV l,.func (.func 244) [] [.bptr 1 0]] [x,.box [.str t]] K:=by
 have hc:=c259 l hl 244 [] [.rptr [.str t] 0] g244_ok.plain (λc=>c.name==t) (λx _=>c244 x t) (λx=>rfl);unfold g243;refine Zd rfl rfl ?_;refine XE hc rfl g259_ok.plain rfl rfl ?_;clear hc;rcases Ycd t l 0 with ⟨q1,q2,q3,q4⟩|⟨q1,q4⟩
 ·rw[Nat.zero_add] at q3;have q4:idxF (λc=>c.name==t) l 0=((fndI 0 l t).1:Int):=q4;rw[q4];rw[q1] at hK;generalize (fndI 0 l t).1=i at q2 q3 hK ⊢;refine Ya (Qx ..) ?_;rw[decide_eq_false (by omega)];refine Xh (Ya (Qu _ cdC _ _ _ l _ i q3) (Ya (ldr (cdLd _)) (Zd rfl rfl (Xm rfl ?_))));exact hK (cdC l[i]) _ rfl rfl
 ·have q4:idxF (λc=>c.name==t) l 0 = -1:=q4;rw[q4];rw[q1] at hK;refine Ya rfl ?_;refine Zg (Ya rfl (Zd rfl rfl (Xm rfl ?_)));exact hK [.str [],.bool false,iv 0,iv 0,iv 0,iv 0,iv 0,iv 0,.nils,.nils,.nils,iv 0] _ rfl rfl
theorem QcN(cs:List AVal)(h:cs.all AVal.cell=true):cellsOf (.agg cs)=some cs:=by simp[cellsOf,h]
theorem Xad{α:Type}:∀(a b:List α),a.length=b.length→splice 0 a b=some a
 |[],[],_=>rfl
 |x::a,y::b,h=>by simp only[splice,Xad a b (by simpa using h)]
theorem c224(b:Bk)(hl:b.cards.length≤big)(t:Tx):PC 224 [bkV b,.str t] (.tup [iv (fndI 0 b.cards t).1,.bool (fndI 0 b.cards t).2]):=by
 refine Ze hP g224_ok rfl rfl ?_;unfold g224;refine Zd rfl rfl (Zd rfl rfl (Ya rfl (Ya rfl (Ya rfl ?_))));refine Yt hP rfl g243_ok rfl (c243 b.cards hl t _ _ (λcs σ h1 h2=>?_));refine Ya rfl (Ya rfl (Ya rfl ?_));refine Xz (row:=cs) (row':=cs) (QcN cs h1) (by rw[h2]; rfl) (Xad _ _ (by rw[h2]; rfl)) ?_;rfl
theorem Xco{P:Program}{GL:Globs}{c d:Bool}{K:AVal→Prop}{r1:SRes}{σ:List ABlk}(h1:r1=.ok (.bool d) [] [])(hK:K (.bool (c&&d))) :
  (W P GL).gr (.bool c) true (λk=>(W P GL).rd r1 k) λt1=>(W P GL).rd (Zn [.bool c,t1,.bool false] σ) K:=by
 cases c with
 |true=>exact Yb (Ya h1 (Ya rfl hK))
 |false=>exact Xb rfl (Ya rfl hK)
theorem Zcp{P:Program}{GL:Globs}{c d:Bool}{K:AVal→Prop}{r1 r2:SRes}{f3:AVal→AVal→SRes}{f4:AVal→SRes}{σ:List ABlk}{v1 v2 v3:AVal}{q1 q2 q3 q4:List Nat}(h1:r1=.ok v1 q1 [])(h2:r2=.ok v2 q2 [])(h3:f3 v1 v2=.ok v3 q3 [])(h4:f4 v3=.ok (.bool d) q4 [])(hK:K (.bool (c&&d))) :
  (W P GL).gr (.bool c) true (λk=>(W P GL).rd r1 k) λt1=>(W P GL).gr (.bool c) true (λk=>(W P GL).rd r2 k) λt2=>(W P GL).gr (.bool c) true (λk=>(W P GL).rd (f3 t1 t2) k) λt3=>(W P GL).gr (.bool c) true (λk=>(W P GL).rd (f4 t3) k) λt4=>(W P GL).rd (Zn [.bool c,t4,.bool false] σ) K:=by
 cases c with
 |true=>exact Yb (Ya h1 (Yb (Ya h2 (Yb (Ya h3 (Yb (Ya h4 (Ya rfl hK))))))))
 |false=>exact Xb rfl (Xb rfl (Xb rfl (Xb rfl (Ya rfl hK))))
theorem Ycp{P:Program}{GL:Globs}{c d:Bool}{K:AVal→Prop}{r1 r3:SRes}{f2 f4:AVal→SRes}{f5:AVal→AVal→SRes}{σ:List ABlk}{v1 v2 v3 v4:AVal}{q1 q2 q3 q4 q5:List Nat}(h1:r1=.ok v1 q1 [])(h2:f2 v1=.ok v2 q2 [])(h3:r3=.ok v3 q3 [])(h4:f4 v3=.ok v4 q4 [])(h5:f5 v2 v4=.ok (.bool d) q5 [])(hK:K (.bool (c&&d))) :
  (W P GL).gr (.bool c) true (λk=>(W P GL).rd r1 k) λt1=>(W P GL).gr (.bool c) true (λk=>(W P GL).rd (f2 t1) k) λt2=>(W P GL).gr (.bool c) true (λk=>(W P GL).rd r3 k) λt3=>(W P GL).gr (.bool c) true (λk=>(W P GL).rd (f4 t3) k) λt4=>(W P GL).gr (.bool c) true (λk=>(W P GL).rd (f5 t2 t4) k) λt5=>(W P GL).rd (Zn [.bool c,t5,.bool false] σ) K:=by
 cases c with
 |true=>exact Yb (Ya h1 (Yb (Ya h2 (Yb (Ya h3 (Yb (Ya h4 (Yb (Ya h5 (Ya rfl hK))))))))))
 |false=>exact Xb rfl (Xb rfl (Xb rfl (Xb rfl (Xb rfl (Ya rfl hK)))))
theorem Xcp{P:Program}{GL:Globs}{c d:Bool}{K:AVal→Prop}{r1 r2:SRes}{f3:AVal→SRes}{f4:AVal→AVal→SRes}{f5:AVal→SRes}{σ:List ABlk}{v1 v2 v3 v4:AVal}{q1 q2 q3 q4 q5:List Nat}(h1:r1=.ok v1 q1 [])(h2:r2=.ok v2 q2 [])(h3:f3 v2=.ok v3 q3 [])(h4:f4 v1 v3=.ok v4 q4 [])(h5:f5 v4=.ok (.bool d) q5 [])(hK:K (.bool (c&&d))) :
  (W P GL).gr (.bool c) true (λk=>(W P GL).rd r1 k) λt1=>(W P GL).gr (.bool c) true (λk=>(W P GL).rd r2 k) λt2=>(W P GL).gr (.bool c) true (λk=>(W P GL).rd (f3 t2) k) λt3=>(W P GL).gr (.bool c) true (λk=>(W P GL).rd (f4 t1 t3) k) λt4=>(W P GL).gr (.bool c) true (λk=>(W P GL).rd (f5 t4) k) λt5=>(W P GL).rd (Zn [.bool c,t5,.bool false] σ) K:=by
 cases c with
 |true=>exact Yb (Ya h1 (Yb (Ya h2 (Yb (Ya h3 (Yb (Ya h4 (Yb (Ya h5 (Ya rfl hK))))))))))
 |false=>exact Xb rfl (Xb rfl (Xb rfl (Xb rfl (Xb rfl (Ya rfl hK)))))
theorem Qco{P:Program}{GL:Globs}{c d:Bool}{K:List ABlk→AVal→Prop}{r1:SRes}{f2:AVal→SRes}{f3:AVal→(AVal→List ABlk→Prop)→Prop}{g:List ABlk→List ABlk}{σ:List ABlk}{v1 v2:AVal}{q1 q2:List Nat}(h1:r1=.ok v1 q1 [])(h2:f2 v1=.ok v2 q2 [])(h3:∀k:AVal→List ABlk→Prop,k (.bool d) σ→f3 v2 k)(hK:K σ (.bool (c&&d))) :
  (W P GL).gr (.bool c) true (λk=>(W P GL).rd r1 k) λt1=>(W P GL).gr (.bool c) true (λk=>(W P GL).rd (f2 t1) k) λt2=>(W P GL).gw (.bool c) true (λk=>f3 t2 k) σ λt3 σ'=>(W P GL).rd (Zn [.bool c,t3,.bool false] (g σ')) (K σ'):=by
 cases c with
 |true=>exact Yb (Ya h1 (Yb (Ya h2 (Yc (h3 _ (Ya rfl hK))))))
 |false=>exact Xb rfl (Xb rfl (Xf rfl (Ya rfl hK)))
def Old(σ σ':List ABlk):Prop:=σ.length≤σ'.length∧∀c,c<σ.length→hget σ' c=hget σ c
theorem Old.trans{a b c:List ABlk}(h:Old a b)(k:Old b c):Old a c:=⟨Nat.le_trans h.1 k.1,λi hi=>by rw[k.2 i (by have:=h.1; omega),h.2 i hi]⟩
theorem Old.app(σ l:List ABlk):Old σ (σ++l):=⟨by simp,λ_ h=>Xp l h⟩
theorem Old.get{σ σ':List ABlk}(h:Old σ σ'){c:Nat}{x:ABlk}(hx:hget σ c=x)(hd:x≠.dead):hget σ' c=x:=by
 rw[h.2 c (Qi hx hd)]; exact hx
theorem Bt.past{σ σ':List ABlk}{x:ABlk}(h:Bt σ.length (σ++[x]) σ'):Old σ σ':=by
 obtain⟨h1,h2⟩:=h;simp only[List.length_append,List.length_singleton] at h1 h2;exact⟨by omega,λc hc=>by rw[h2 c (by omega) (by omega),Xp _ hc]⟩
def SeenT(m:List (Tx×Bool))(l:List Tx):Prop:=∀t,(tlook t m).getD false=l.any λd=>d==t
theorem SeenT.nil:SeenT [] []:=λt=>by simp[tlook]
theorem SeenT.put{m:List (Tx×Bool)}{l:List Tx}(h:SeenT m l)(c:Tx):SeenT (tput c true m) (l++[c]):=by
 intro t;rw[ZQ,List.any_append,←h t];by_cases h2:t==c
 ·have e:t=c:=by simpa using h2
  simp[e]
 ·have h3:(c==t)=false:=by
   rw[Bool.eq_false_iff]; intro h; apply h2; simp at h; simp[h]
  rw[if_neg h2]; simp[h3]
theorem Ycg{α:Type}(l:List α)(f:α→Bool):(!l.any f)=l.all λx=>!f x:=by
 induction l with
 |nil=>rfl
 |cons x l ih=>simp[←ih]
theorem YcJ(b:Bk)(hc:b.cards.length≤big)(l:List Tx)(hl:l.length≤big)(ok:Bool){σ:List ABlk}(h0':hget σ 0=.box [cdV b.cards,foV b.formats]){K:List AVal→List ABlk→Prop}
 (hK:∀w σ',Old σ σ'→K [w,.bool (ok&&nmsGo b.cards [] l)] σ') :
  VV.loop (λag56 v57 τ=>VV.rd (Yh .lss false [(h0 v57),iv l.length] τ) λt76_58=>VV.test t76_58 (
   VV.rd (Qa 1 [txV l,(h0 v57)] τ) λt77_59=>VV.rd (Zc false 1 [t77_59] τ) λt78_60=>VV.rd (Zc true 2 [.bptr 0 0] τ) λt80_61=>
   VV.call (.call 224) [t80_61,t78_60] τ λt82_62 τ=>VV.rd (Qb 0 [t82_62] τ) λt83_63=>VV.rd (Qb 1 [t82_62] τ) λt84_64=>
   VV.gr (h1 v57) true (λk=>VV.rd (Yg [t84_64] τ) k) λt87_65=>VV.rd (Zn [(h1 v57),t87_65,(.bool false)] τ) λt88_66=>
   VV.gr t88_66 true (λk=>VV.rd (Yg [.map σ.length] τ) k) λt90_67=>VV.gr t88_66 true (λk=>VV.rd (Yg [t78_60] τ) k) λt91_68=>
   VV.gr t88_66 true (λk=>VV.rd (Zq true false (.bool false) [t90_67,t91_68] τ) k) λt92_69=>VV.gr t88_66 true (λk=>VV.rd (Zp .not [t92_69] τ) k) λt93_70=>
   VV.rd (Zn [t88_66,t93_70,(.bool false)] τ) λt94_71=>VV.wr (Xw true [.map σ.length,t78_60,(.bool true)] τ) τ λ_ τ=>
   VV.rd (Yh .add false [(h0 v57),(.int .i64 1)] τ) λt97_72=>ag56 [t97_72,t94_71] τ) (K v57 τ)) [(.int .i64 0),.bool ok] (σ ++ [.map []]):=by
 rw[bigE] at hl;have hnew:hget (σ++[.map []]) σ.length=.map (mpE []):=Qh _ _;have hlen:σ.length<(σ++[ABlk.map []]).length:=by simp
 refine Xo (ι:=Nat) (λi vs s=>∃ok' m,vs=[iv i,.bool ok']∧i≤l.length∧hget s σ.length=.map (mpE m)∧SeenT m (l.take i)∧Bt σ.length (σ++[.map []]) s∧(ok&&nmsGo b.cards [] l)=(ok'&&nmsGo b.cards (l.take i) (l.drop i))) (λi=>l.length-i) 0 ⟨ok,[],rfl,by omega,hnew,by simpa using SeenT.nil,Bt.refl _ _,by simp⟩ ?_;rintro i vs s again ⟨ok',m,rfl,hi,hm,hse,hbt,hr⟩ hag;have h0'':hget s 0=.box [cdV b.cards,foV b.formats]:=hbt.past.get h0' (by simp);refine Ya rfl (Qc (λh=>?_) (λh=>?_))
 ·have h:i<l.length:=by simpa using h
  refine Ya (Qu _ txC _ _ _ l _ i h) (Ya (ldr (txLd _)) (Ya (ld h0'' rfl) ?_));refine Ye (c224 b hc _) rfl g224_ok.plain rfl ?_;refine Ya rfl (Ya rfl (Xco rfl ?_));refine Zcp rfl rfl (Ya3 hm _) rfl ?_;refine Zd (Qbb hm _ _) (Yo _ (Qi hm (by simp))) (Ya (Qn ..) ?_);rw[Xg (n:=i) (by omega)];have hml:=Qi hm (by simp);refine hag (i+1) _ _ (by omega) ⟨_,_,rfl,by omega,Qk _ hml,by rw[QL _ _ h]; exact hse.put _,hbt.trans ⟨by simp,λc hc hne=>Yj _ hc hne⟩,?_⟩;rw[hr,YLD h,nmsGo,QL _ _ h,hse,Ycg];simp only[Bool.and_assoc]
 ·have h:i=l.length:=by simp at h; omega
  subst h;rw[List.drop_length,nmsGo,Bool.and_true] at hr;have:=hK (iv (l.length:Int)) s hbt.past;rw[hr] at this; exact this
def SeenF(m:List (Tx×Bool))(l:List Fo):Prop:=∀t,(tlook t m).getD false=l.any λd=>d.name==t
theorem SeenF.put{m:List (Tx×Bool)}{l:List Fo}(h:SeenF m l)(c:Fo):SeenF (tput c.name true m) (l++[c]):=by
 intro t;rw[ZQ,List.any_append,←h t];by_cases h2:t==c.name
 ·have e:t=c.name:=by simpa using h2
  simp[e]
 ·have h3:(c.name==t)=false:=by
   rw[Bool.eq_false_iff]; intro h; apply h2; simp at h; simp[h]
  rw[if_neg h2]; simp[h3]
theorem c184(b:Bk)(hf:bkFit b=true):PC 184 [bkV b] (.agg [iv (fmtGo b [] b.formats).1,iv (fmtGo b [] b.formats).2]):=by
 simp only[bkFit,Zaf,Bool.and_eq_true,decide_eq_true_eq] at hf;obtain⟨⟨fc,_⟩,fl,fa⟩:=hf;have fl':=fl;rw[bigE] at fl';refine Ze hP g184_ok rfl rfl ?_;unfold g184;refine Zd rfl rfl (Zd rfl rfl (Zd rfl rfl (Ya rfl (Ya rfl ?_))));refine Ya (v:=iv b.formats.length) (rd:=[]) (by simp[Zf]) ?_;refine Xo (ι:=Nat) (λi vs σ=>∃m,vs=[iv i]∧i≤b.formats.length∧hget σ 0=.box [cdV b.cards,foV b.formats]∧hget σ 1=.box [iv 0,iv 0]∧hget σ 2=.map (mpE m)∧SeenF m (b.formats.take i)∧fmtGo b [] b.formats=fmtGo b (b.formats.take i) (b.formats.drop i)) (λi=>b.formats.length-i) 0 ⟨[],rfl,by omega,rfl,rfl,rfl,λt=>by simp[tlook],by simp⟩ ?_;rintro i vs σ again ⟨m,rfl,hi,hb0,hb1,hb2,hse,hr⟩ hag;refine Ya rfl (Qc (λh=>?_) (λh=>?_));rotate_left
 ·have h:i=b.formats.length:=by simp at h; omega
  subst h;rw[List.drop_length,fmtGo] at hr;refine Ya rfl (Zd (stv hb1 rfl rfl rfl) (Yo _ (Qi hb1 (by simp))) (Xm (XQ (Qi hb1 (by simp)) rfl) ?_));rw[hr]
 have h:i<b.formats.length:=by simpa using h
 have hix:=λ(s:List ABlk)=>Qu s foC false false 7 b.formats .i64 i h;have hfo:=List.all_eq_true.1 fa _ (List.getElem_mem h);have htk:=QL _ _ h;rw[YLD h,fmtGo] at hr;generalize b.formats[i]=f at hix hfo htk hr;simp only[foFit,Bool.and_eq_true,decide_eq_true_eq] at hfo;obtain⟨fo1,fo2,fo3⟩:=hfo;refine Ya (hix _) (Ya (ldr (foLd f)) (Xz (row:=foC f) (row':=foC f) rfl rfl rfl ?_));have hB:=Qh σ (ABlk.box (foC f));have hb0':hget (σ++[ABlk.box (foC f)]) 0=.box [cdV b.cards,foV b.formats]:=Qf _ hb0 (by simp);have hb1':hget (σ++[ABlk.box (foC f)]) 1=.box [iv 0,iv 0]:=Qf _ hb1 (by simp);have hb2':hget (σ++[ABlk.box (foC f)]) 2=.map (mpE m):=Qf _ hb2 (by simp);generalize σ++[ABlk.box (foC f)]=τ at hB hb0' hb1' hb2' ⊢;generalize σ.length=c at hB ⊢;clear hb0 hb1 hb2;refine Ya (Qx ..) ?_;refine Qco (g:=λs=>s) (σ:=τ) (d:=nameOk f.name) rfl (ld hB rfl) (λk hk=>Ye (c223 _ fo1) rfl g223_ok.plain rfl hk) ?_;refine Xcp rfl rfl (ld hB rfl) (Ya3 hb2' _) rfl ?_;refine Xap rfl (ld hB rfl) (Qaq ..) ?_;refine Ycp rfl (ld hB rfl) rfl (ld hB rfl) (Zb4 ..) ?_;refine Xap rfl (ld hB rfl) (Zb4 ..) ?_;refine Xap rfl (ld hB rfl) (Qaq ..) ?_;refine Xap rfl (ld hB rfl) (Zb4 ..) ?_;refine Ya rfl (Ya (ld hB rfl) (Ya rfl (Ya (ld hB rfl) (Ya rfl ?_))));refine QI 3 (Ym (Ya rfl (Zg (Ya rfl (Zd rfl (Qs _ _) ?_)))));refine Ya (v:=iv f.banned.length) (rd:=[]) (by simp[Zf]) ?_;refine YcJ b fc f.banned fo2 _ hb0' (λw τ2 o2=>?_);refine Ya rfl (Ym (Ya rfl (Zg (Ya rfl (Zd rfl (Qs _ _) ?_)))));refine Ya (v:=iv f.single.length) (rd:=[]) (by simp[Zf]) ?_;refine YcJ b fc f.single fo3 _ (o2.get hb0' (by simp)) (λw τ3 o3=>?_);have o:=o2.trans o3;refine Ya rfl (Ym (Ya rfl (Xh ?_)));have hok:((((((((((decide ((i:Int)<240)&&nameOk f.name) && !(tlook f.name m).getD false)&&decide (0≤f.least))&&decide (f.least≤f.most))&&decide (f.most≤60))&&decide (0≤f.copies))&&decide (f.copies≤999))&&nmsGo b.cards [] f.banned)&&nmsGo b.cards [] f.single))=fmtOk b (b.formats.take i) f:=by
  have hti:(b.formats.take i).length=i:=by rw[List.length_take]; omega
  have e:decide ((i:Int)<240)=decide (i<240):=by congr 1; simp; omega
  rw[fmtOk,hti,hse,e];generalize (List.take i b.formats).any (λg=>g.name==f.name)=x1;generalize decide (i<240)=x2;generalize nameOk f.name=x3;cases x1<;>cases x2<;>cases x3<;>simp[Bool.and_assoc]
 have hb1'':=o.get hb1' (by simp);have hb2'':=o.get hb2' (by simp);have hB'':=o.get hB (by simp);have hb0'':=o.get hb0' (by simp);refine Ya (v:=.bool (!fmtOk b (b.formats.take i) f)) (rd:=[]) (by rw[←hok]; rfl) ?_;refine Qc (λh2=>?_) (λh2=>?_)
 ·have h2:fmtOk b (b.formats.take i) f=false:=by simpa using h2
  rw[h2,if_neg (by simp)] at hr;refine Ya rfl (Ya (ld hB'' rfl) (Ya rfl (Zd (stv hb1'' rfl rfl rfl) (Yo _ (Qi hb1'' (by simp))) (Xm (XQ (Qi hb1'' (by simp)) rfl) ?_))));rw[hr]
 ·have h2:fmtOk b (b.formats.take i) f=true:=by simpa using h2
  rw[h2,if_pos rfl] at hr;refine Ya rfl (Ya (ld hB'' rfl) (Zd (Qbb hb2'' _ _) (Yo _ (Qi hb2'' (by simp))) (Ya (Qn ..) ?_)));rw[Xg (n:=i) (by omega)];refine hag (i+1) _ _ (by omega) ⟨_,rfl,by omega,?_,?_,Qk _ (Qi hb2'' (by simp)),by rw[htk]; exact hse.put f,by rw[htk]; exact hr⟩
  ·exact Xj hb0'' (by simp) (by omega)
  ·exact Xj hb1'' (by simp) (by omega)
def Zt(l:List Cd):Prop:=∀c∈l,(cdP c).length≤500000000
theorem c180'(cs:List Cd)(hf:Zaf cs=true)(hs:Zt cs):PC 180 [cdV cs] (.agg [iv (Q2 cs).1,iv (Q2 cs).2]):=by
 refine c180 cs hf (λm hm c hc=>?_);have hfc:cdFit c=true:=by
  simp only[Zaf,Bool.and_eq_true] at hf;exact List.all_eq_true.1 hf.2 c hc
 have hfc':=hfc;simp only[cdFit,Bool.and_eq_true,decide_eq_true_eq] at hfc';obtain⟨q0,q1,q2,q3⟩:=hfc';exact c221 m cs hm c hfc (c223 _ q0) (c124 c q1 q2 q3 (hs c hc))
theorem c143(b:Bk)(hf:bkFit b=true)(hs:Zt b.cards):PC 143 [bkV b] (.agg [iv (bkR b).1,iv (bkR b).2]):=by
 have hf':=hf;simp only[bkFit,Bool.and_eq_true] at hf';have hcf:=hf'.1;have p179:PC 179 [.rptr [cdV b.cards,foV b.formats] 0] (.agg [iv (Q2 b.cards).1,iv (Q2 b.cards).2]):=by
  refine Ze hP g179_ok rfl rfl ?_;unfold g179;refine Zd rfl rfl (Ya rfl (Ya rfl ?_));refine Ye (c180' _ hcf hs) rfl g180_ok.plain rfl ?_;exact Zd rfl rfl (Xm rfl rfl)
 have p181:PC 181 [.rptr [cdV b.cards,foV b.formats] 0] (.agg [iv (cdsL b.cards).1,iv (cdsL b.cards).2]):=by
  refine Ze hP g181_ok rfl rfl ?_;unfold g181;refine Zd rfl rfl (Ya rfl (Ya rfl ?_));refine Ye (c182 _ hcf) rfl g182_ok.plain rfl ?_;exact Zd rfl rfl (Xm rfl rfl)
 have p183:PC 183 [.rptr [cdV b.cards,foV b.formats] 0] (.agg [iv (fmtGo b [] b.formats).1,iv (fmtGo b [] b.formats).2]):=by
  refine Ze hP g183_ok rfl rfl ?_;unfold g183;refine Zd rfl rfl (Ya rfl ?_);refine Ye (c184 b hf) rfl g184_ok.plain rfl ?_;exact Zd rfl rfl (Xm rfl rfl)
 refine Ze hP g143_ok rfl rfl ?_;unfold g143;refine Zd rfl rfl (Zd rfl rfl (Ya rfl (Ya rfl (Ya rfl (Ya rfl ?_)))));refine QI 4 (Ym (Ya rfl (Zg (Ya rfl ?_))));refine XE p179 rfl g179_ok.plain rfl rfl (Zd rfl rfl (Zd rfl rfl (Ya rfl (Ya rfl (Ya (YT ..) (Qc (λh=>?_) (λh=>Ya rfl ?_)))))))
 ·refine Ya rfl (Zd rfl rfl (Xm rfl ?_));rw[bkR,if_pos (by simpa using h)]
 refine Ym (Ya rfl (Zg (Ya rfl ?_)));refine XE p181 rfl g181_ok.plain rfl rfl (Zd rfl rfl (Zd rfl rfl (Ya rfl (Ya rfl (Ya (YT ..) (Qc (λh2=>?_) (λh2=>Ya rfl ?_)))))))
 ·refine Ya rfl (Zd rfl rfl (Xm rfl ?_));rw[bkR,if_neg (by simpa using h),if_pos (by simpa using h2)]
 refine Ym (Ya rfl (Zg (Ya rfl ?_)));refine XE p183 rfl g183_ok.plain rfl rfl (Zd rfl rfl (Zd rfl rfl (Ya rfl (Ya rfl (Ya (YT ..) (Qc (λh3=>?_) (λh3=>Ya rfl ?_)))))))
 ·refine Ya rfl (Zd rfl rfl (Xm rfl ?_));rw[bkR,if_neg (by simpa using h),if_neg (by simpa using h2)]
 refine Ym (Ya rfl (Xh (Ya rfl (Zd rfl rfl (Xm rfl ?_)))));rw[bkR,if_neg (by simpa using h),if_neg (by simpa using h2)];have h3:(fmtGo b [] b.formats).1=0:=by simpa using h3
 have key:∀(l pre:List Fo),(fmtGo b pre l).1=0→(fmtGo b pre l).2=0:=by
  intro l
  induction l with
  |nil=>intro pre _; rfl
  |cons f l ih=>
   intro pre;rw[fmtGo];split
   ·exact ih _
   ·intro h; simp at h
 rw[h3,key _ _ h3]
end Go.Ah.Tz
end
section
namespace Go.Ah.Tz
open Go.Proofs.Tryz (prog)
theorem NCall.case1{P:Program}{GL:Globs}{f:FuncId}{e:Bool}{sz:Nat}{v:AVal}{bs:List ABlk}(h1:NCall P GL f [.nils] v bs)(h2:NCall P GL f [.rsl e true sz []] v bs):NCall P GL f [.rsl e false sz []] v bs:=by
 intro w M vs hM hg hx
 match vs,hx with
 |[u],⟨hu,_⟩=>
  have hu':Den M noOwn (.rsl e false sz []) u:=hu;cases hu' with
  |rsl _ _ _ _ _ a cap blk off f q1 q2 q3 q4 q5 q6 q7 q8=>
   cases a with
   |none=>
    have:=q4 rfl;subst this;exact h1 w M _ hM hg ⟨.nils _,trivial⟩
   |some p=>exact h2 w M _ hM hg ⟨.rsl _ e true sz [] (some p) cap blk off f q1 (λ_=>rfl) q3 q4 q5 q6 q7 q8,trivial⟩
attribute [local irreducible] Ans.rd Ans.pu Ans.wr Ans.dr Ans.gr Ans.gw Ans.gl Ans.gd Ans.opt joinK W
theorem c96(l:List Int)(hl:l.length≤1000000000):NCall prog GL0 96 [rowV l] (.sl 0 0 l.length false) [.rows 1 (l.map cel)]:=by
 cases l with
 |nil=>
  refine NCall.case1 ?_ ?_
  ·refine Zw hP g96_ok rfl ?_;unfold g96;exact Ya rfl (Zg (Tidy.ghost 1 (.inl rfl)))
  ·refine Zw hP g96_ok rfl ?_;unfold g96;exact Ya rfl (Xh (Ya rfl (Zd rfl rfl (Tidy.refl _ _))))
 |cons x l=>
  refine Zw hP g96_ok rfl ?_;unfold g96;refine Ya rfl (Xh (Ya rfl ?_));refine Zd (v:=.sl 0 0 (x :: l).length false) (rd:=[]) (up:=[(0,.rows 1 ((x :: l).map cel))]) ?_ rfl (Tidy.refl _ _);show (match Qy 1 [] (rowV (x :: l)) with
   |some (ys,rd)=>bif Ys ys&&Nat.ble ((2*(([]:List (List AVal)).length+ys.length)+192)*8) (2 ^ 48) then SRes.ok (.sl 0 0 (([]:List (List AVal)).length+ys.length) false) rd ([]++[(0,ABlk.rows 1 ([]++ys))]) else SRes.stop
   | none=>.stop)=_
  have h1:Qy 1 [] (rowV (x::l))=some ((x::l).map cel,[]):=rfl;have h2:∀q:List Int,Ys (q.map cel)=true:=by
   intro q; induction q with
   |nil=>rfl
   |cons y q ih=>simp only[List.map_cons,Ys,ih,Bool.and_true]; rfl
  have h3:Nat.ble ((2*(([]:List (List AVal)).length+((x::l).map cel).length)+192)*8) (2 ^ 48)=true:=Nat.ble_eq_true_of_le (by simp only[List.length_map,List.length_nil]; omega);simp only[h1,h2,h3,Bool.and_self,cond_true];simp
theorem w96{l:List Int}(hl:l.length≤1000000000){σ:List ABlk}{K:AVal→List ABlk→Prop}(hK:K (.sl σ.length 0 l.length false) (σ++[.rows 1 (l.map cel)])):VV.call (.call 96) [rowV l] σ K:=by
 refine Zak (c96 l hl) rfl g96_ok.plain rfl ?_;simp only[Zu,List.map_cons,List.map_nil,YO,AVal.ren,Zy,Nat.zero_add];exact hK
theorem d96{l:List Int}(hl:l.length≤1000000000){σ:List ABlk}{K:AVal→List Nat×List Nat→List ABlk→Prop}(hK:K (.sl σ.length 0 l.length false) ([],[σ.length]) (σ++[.rows 1 (l.map cel)])):VV.dcall (.call 96) [rowV l] σ K:=by
 refine Xak (c96 l hl) rfl g96_ok.plain rfl ?_;simp only[Zu,List.map_cons,List.map_nil,YO,AVal.ren,Zy,Nat.zero_add,X0];exact hK
theorem c112(l:List Th)(hl:l.length≤1000000000):NCall prog GL0 112 [thV l] (.sl 0 0 l.length false) [.rows 4 (l.map thC)]:=by
 cases l with
 |nil=>
  refine NCall.case1 ?_ ?_
  ·refine Zw hP g112_ok rfl ?_;unfold g112;exact Ya rfl (Zg (Tidy.ghost 4 (.inl rfl)))
  ·refine Zw hP g112_ok rfl ?_;unfold g112;exact Ya rfl (Xh (Ya rfl (Zd rfl rfl (Tidy.refl _ _))))
 |cons x l=>
  refine Zw hP g112_ok rfl ?_;unfold g112;refine Ya rfl (Xh (Ya rfl ?_));refine Zd (v:=.sl 0 0 (x :: l).length false) (rd:=[]) (up:=[(0,.rows 4 ((x :: l).map thC))]) ?_ rfl (Tidy.refl _ _);show (match Qy 4 [] (thV (x :: l)) with
   |some (ys,rd)=>bif Ys ys&&Nat.ble ((2*(([]:List (List AVal)).length+ys.length)+192)*32) (2 ^ 48) then SRes.ok (.sl 0 0 (([]:List (List AVal)).length+ys.length) false) rd ([]++[(0,ABlk.rows 4 ([]++ys))]) else SRes.stop
   | none=>.stop)=_
  have h1:Qy 4 [] (thV (x::l))=some ((x::l).map thC,[]):=rfl;have h2:∀q:List Th,Ys (q.map thC)=true:=by
   intro q; induction q with
   |nil=>rfl
   |cons y q ih=>simp only[List.map_cons,Ys,ih,Bool.and_true]; rfl
  have h3:Nat.ble ((2*(([]:List (List AVal)).length+((x::l).map thC).length)+192)*32) (2 ^ 48)=true:=Nat.ble_eq_true_of_le (by simp only[List.length_map,List.length_nil]; omega);simp only[h1,h2,h3,Bool.and_self,cond_true];simp
theorem d112{l:List Th}(hl:l.length≤1000000000){σ:List ABlk}{K:AVal→List Nat×List Nat→List ABlk→Prop}(hK:K (.sl σ.length 0 l.length false) ([],[σ.length]) (σ++[.rows 4 (l.map thC)])):VV.dcall (.call 112) [thV l] σ K:=by
 refine Xak (c112 l hl) rfl g112_ok.plain rfl ?_;simp only[Zu,List.map_cons,List.map_nil,Yau,AVal.ren,Zy,Nat.zero_add,X0];exact hK
theorem c59(s:St)(hs:StLe 1000000000 s):NCall prog GL0 59 [stV s] (.agg (stO s 0)) (stB s):=by
 refine Zw hP g59_ok rfl ?_;unfold g59;have w1:IntKind.i64.wrap (0+1)=1:=by decide
 have w2:IntKind.i64.wrap (1+1)=2:=by decide
 repeat first|refine Ya rfl ?_|refine Zd rfl rfl ?_|refine Yk rfl ?_|refine Qj rfl rfl ?_
 refine w96 hs.attack ?_;simp only[List.length_cons,List.length_nil,List.nil_append,List.cons_append,Nat.zero_add,Nat.reduceAdd];repeat first|refine Ya rfl ?_|refine Zd rfl rfl ?_|refine Yk rfl ?_|refine Qj rfl rfl ?_
 refine QI 3 (Ym ?_);refine Ya rfl (Zg ?_);repeat first|refine Ya rfl ?_|refine Zd rfl rfl ?_|refine Yk rfl ?_|refine Qj rfl rfl ?_
 refine d96 hs.s0.deck ?_;simp only[List.length_cons,List.length_nil,List.nil_append,List.cons_append,Nat.zero_add,Nat.reduceAdd];repeat first|refine Ya rfl ?_|refine Zd rfl rfl ?_|refine Yk rfl ?_|refine Qj rfl rfl ?_
 refine d96 hs.s0.hand ?_;simp only[List.length_cons,List.length_nil,List.nil_append,List.cons_append,Nat.zero_add,Nat.reduceAdd];repeat first|refine Ya rfl ?_|refine Zd rfl rfl ?_|refine Yk rfl ?_|refine Qj rfl rfl ?_
 refine d96 hs.s0.grave ?_;simp only[List.length_cons,List.length_nil,List.nil_append,List.cons_append,Nat.zero_add,Nat.reduceAdd];repeat first|refine Ya rfl ?_|refine Zd rfl rfl ?_|refine Yk rfl ?_|refine Qj rfl rfl ?_
 refine d96 hs.s0.told ?_;simp only[List.length_cons,List.length_nil,List.nil_append,List.cons_append,Nat.zero_add,Nat.reduceAdd];repeat first|refine Ya rfl ?_|refine Zd rfl rfl ?_|refine Yk rfl ?_|refine Qj rfl rfl ?_
 refine d112 hs.s0.units ?_;simp only[List.length_cons,List.length_nil,List.nil_append,List.cons_append,Nat.zero_add,Nat.reduceAdd];repeat first|refine Ya rfl ?_|refine Zd rfl rfl ?_|refine Yk rfl ?_|refine Qj rfl rfl ?_
 refine QO (by kernel_rfl) (Ya rfl ?_);rw[w1];refine Ym ?_;refine Ya rfl (Zg ?_);repeat first|refine Ya rfl ?_|refine Zd rfl rfl ?_|refine Yk rfl ?_|refine Qj rfl rfl ?_
 refine d96 hs.s1.deck ?_;simp only[List.length_cons,List.length_nil,List.nil_append,List.cons_append,Nat.zero_add,Nat.reduceAdd];repeat first|refine Ya rfl ?_|refine Zd rfl rfl ?_|refine Yk rfl ?_|refine Qj rfl rfl ?_
 refine d96 hs.s1.hand ?_;simp only[List.length_cons,List.length_nil,List.nil_append,List.cons_append,Nat.zero_add,Nat.reduceAdd];repeat first|refine Ya rfl ?_|refine Zd rfl rfl ?_|refine Yk rfl ?_|refine Qj rfl rfl ?_
 refine d96 hs.s1.grave ?_;simp only[List.length_cons,List.length_nil,List.nil_append,List.cons_append,Nat.zero_add,Nat.reduceAdd];repeat first|refine Ya rfl ?_|refine Zd rfl rfl ?_|refine Yk rfl ?_|refine Qj rfl rfl ?_
 refine d96 hs.s1.told ?_;simp only[List.length_cons,List.length_nil,List.nil_append,List.cons_append,Nat.zero_add,Nat.reduceAdd];repeat first|refine Ya rfl ?_|refine Zd rfl rfl ?_|refine Yk rfl ?_|refine Qj rfl rfl ?_
 refine d112 hs.s1.units ?_;simp only[List.length_cons,List.length_nil,List.nil_append,List.cons_append,Nat.zero_add,Nat.reduceAdd];repeat first|refine Ya rfl ?_|refine Zd rfl rfl ?_|refine Yk rfl ?_|refine Qj rfl rfl ?_
 refine QO (by kernel_rfl) (Ya rfl ?_);rw[w2];refine Ym ?_;refine Ya rfl (Xh ?_);repeat first|refine Ya rfl ?_|refine Zd rfl rfl ?_|refine Yk rfl ?_|refine Qj rfl rfl ?_
 refine Xm rfl ?_;refine Tidy.gc [2,3,4,5,7,6,8,9,10,12,11] (by decide) (by simp) ?_ rfl;simp only[gcH,List.map_cons,List.map_nil,hget,YO,Yau]
end Go.Ah.Tz
end
section
namespace Go.Ah.Tz
open Go.Proofs.Tryz (prog)
def ilook{α:Type}(t:Int):List (Int×α)→Option α
 |[]=>none
 |p::l=>if t==p.1 then some p.2 else ilook t l
def mpG{α:Type}(f:α→AVal)(l:List (Int×α)):List (AVal×AVal):=l.map λp=>(iv p.1,f p.2)
theorem Za9{α:Type}(f:α→AVal)(t:Int):∀l:List (Int×α),alook (iv t) (mpG f l)=some ((ilook t l).map f)
 |[]=>rfl
 |p::l=>by
  simp only[mpG,List.map_cons,alook,keyEq,ilook,ikEq,cond_true];cases h:t==p.1 with
  |true=>rfl
  |false=>exact Za9 f t l
theorem Zbz{α:Type}(f:α→AVal)(t:Int)(v:α):∀l:List (Int×α),ilook t l=none→aput (iv t) (f v) (mpG f l)=some (mpG f (l++[(t,v)]))
 |[],_=>rfl
 |p::l,h=>by
  rw[ilook] at h;split at h
  ·cases h
  ·rename_i h2;have h2:(t==p.1)=false:=by simpa using h2
   have:=Zbz f t v l h;simp only[mpG] at this;simp only[mpG,List.map_cons,List.cons_append,aput,keyEq,ikEq,cond_true,h2,this]
theorem Yax{α:Type}(t:Int):∀ (a b:List (Int × α)),ilook t (a ++ b)=(match ilook t a with
 |some v=>some v
 | none=>ilook t b)
 |[],b=>rfl
 |p::a,b=>by
  simp only[List.cons_append,ilook];split
  ·rfl
  ·exact Yax t a b
theorem Zac{α:Type}(t:Int):∀l:List (Int×α),(ilook t l).isSome=(l.map (·.1)).contains t
 |[]=>rfl
 |p::l=>by
  simp only[ilook,List.map_cons,List.contains_cons];cases h:t==p.1 with
  |true=>simp
  |false=>simp only[Bool.false_eq_true,if_false,Bool.false_or]; exact Zac t l
theorem Za3{α:Type}(f:α→AVal)(z:AVal)(ok:Bool){σ:List ABlk}{b:Nat}{l:List (Int×α)}(h:hget σ b=.map (mpG f l))(t:Int):Zq false ok z [.map b,iv t] σ=.ok (lookV ok z ((ilook t l).map f)) [b] []:=by
 simp only[Zq,Z1,mapOf,h,Za9,cond_true]
theorem Qb4{α:Type}(f:α→AVal){σ:List ABlk}{b:Nat}{l:List (Int×α)}(h:hget σ b=.map (mpG f l))(t:Int)(v:α)(hn:ilook t l=none):Xw false [.map b,iv t,f v] σ=.ok .junk [] [(b,.map (mpG f (l++[(t,v)])))]:=by
 simp only[Xw,Z1,h,Zbz f t v l hn,cond_true]
structure SdAt (row:List AVal) (j:Nat) (x:Sd):Prop where
 h0:partA false (j+0) 1 row=some (iv x.life)
 h1:partA false (j+1) 1 row=some (iv x.mana)
 h2:partA false (j+2) 1 row=some (iv x.most)
 h3:partA false (j+3) 1 row=some (rowV x.deck)
 h4:partA false (j+4) 1 row=some (rowV x.hand)
 h5:partA false (j+5) 1 row=some (rowV x.grave)
 h6:partA false (j+6) 1 row=some (thV x.units)
 h7:partA false (j+7) 1 row=some (rowV x.told)
theorem sdAt0(s:St):SdAt (stC s) 7 s.s0:=⟨rfl,rfl,rfl,rfl,rfl,rfl,rfl,rfl⟩
theorem sdAt1(s:St):SdAt (stC s) 15 s.s1:=⟨rfl,rfl,rfl,rfl,rfl,rfl,rfl,rfl⟩
attribute [local irreducible] Ans.rd Ans.pu Ans.wr Ans.dr Ans.gr Ans.gw Ans.gl Ans.gd Ans.opt joinK W
set_option maxHeartbeats 2000000
theorem c120(l:List Int)(hl:l.length≤big)(id:FuncId)(fs cs:List AVal)(hp:Zj prog id=true)(f:Int→Bool)(hc:∀x∈l,PC id (fs++[iv x]++cs) (.bool (f x)))(hr:∀x,roL (fs++[iv x]++cs)=true) :
  PC 120 [rowV l,.func (.func id) fs cs] (iv (idxF f l 0)):=by
 rw[bigE] at hl;refine Ze hP g120_ok rfl rfl ?_;unfold g120;refine Ya (v:=iv l.length) (rd:=[]) (by simp[Zf]) ?_;refine Xo (ι:=Nat) (λi vs s=>vs=[iv i]∧i≤l.length∧idxF f l 0=idxF f (l.drop i) i) (λi=>l.length-i) 0 ⟨rfl,by omega,by simp⟩ ?_;rintro i vs s again ⟨rfl,hi,hr'⟩ hag;refine Ya rfl (Qc (λh=>?_) (λh=>?_))
 ·have h:i<l.length:=by simpa using h
  refine Ya (Qu _ cel _ _ _ l _ i h) (Ya (ldr rfl) ?_);refine Ye (hc _ (List.getElem_mem h)) rfl hp (hr _) ?_;rw[YLD h,idxF] at hr';refine Qc (λh2=>?_) (λh2=>?_)
  ·rw[if_pos h2] at hr'; rw[hr']; rfl
  ·rw[if_neg (by rw[h2]; simp)] at hr';refine Ya (Qn ..) ?_;rw[Xg (n:=i) (by omega)];exact hag (i+1) _ _ (by omega) ⟨rfl,by omega,by rw[hr']; push_cast; rfl⟩
 ·have h:i=l.length:=by simp at h; omega
  subst h;rw[List.drop_length,idxF] at hr';rw[hr']
theorem c185(l:List Int)(hl:l.length≤big)(id:FuncId)(fs cs:List AVal)(hp:Zj prog id=true)(f:Int→Bool)(hc:∀x∈l,PC id (fs++[iv x]++cs) (.bool (f x)))(hr:∀x,roL (fs++[iv x]++cs)=true)(hr2:roL [rowV l,.func (.func id) fs cs]=true) :
  PC 185 [rowV l,.func (.func id) fs cs] (.bool (l.any f)):=by
 refine Ze hP g185_ok rfl rfl ?_;unfold g185;refine Ye (c120 l hl id fs cs hp f hc hr) rfl g120_ok.plain hr2 ?_;refine Ya (Qaq ..) ?_;rw[Ya4 f l 0 (by omega)]
theorem c186(b:Bk)(x:Int):PC 186 [iv x,.rptr [.rptr [cdV b.cards,foV b.formats] 0] 0] (.bool (decide (x<0)||decide ((b.cards.length:Int)≤x))):=by
 refine Ze hP g186_ok rfl rfl ?_;unfold g186;refine Ya (Qx ..) ?_;refine QcK (λ_=>rfl) (λ_=>ldr rfl) (λ_=>rfl) (λ_=>rfl) (λ_=>ldr rfl) (v6:=iv b.cards.length) (q6:=[]) (λ_=>by simp[Zf]) (λ_=>Qaq ..) rfl
theorem QbK(n:Nat)(l:List Int)(most:Int):(!(decide ((l.length:Int)>most)||l.any λx=>decide (x<0)||decide ((n:Int)≤x)))=ZA n l most:=by
 rw[ZA,Bool.not_or,Ycg]
 congr 1
 ·rw[Bool.eq_iff_iff]; simp
 ·congr 1; funext x
  rw[Bool.eq_iff_iff]; simp
end Go.Ah.Tz
end
section
namespace Go.Ah.Tz
open Go.Proofs.Tryz (prog)
theorem YcA(f:Int→AVal)(z:AVal)(o:Option Int):lookV true z (o.map f)=.tup [(o.map f).getD z,.bool o.isSome]:=by cases o<;>rfl
theorem QbV{σ:List ABlk}{b:Nat}{row:List AVal}(h:hget σ b=.box [.rptr row 0])(l:List Int)(id:FuncId):Xt σ 1000 [rowV l,.func (.func id) [] [.bptr b 0]]=some ([rowV l,.func (.func id) [] [.rptr [.rptr row 0] 0]],[b]):=by
 show Xt σ (997+1+1+1) _=_;simp[Xt,h,AVal.ro]
attribute [local irreducible] Ans.rd Ans.pu Ans.wr Ans.dr Ans.gr Ans.gw Ans.gl Ans.gd Ans.opt joinK W
set_option maxHeartbeats 4000000
@[reducible] def bkC(b:Bk):List AVal:=[cdV b.cards,foV b.formats]
theorem YbF(b:Bk)(l:List Int)(hl:l.length≤big)(most:Int){σ:List ABlk}{b4:Nat}(hb:hget σ b4=.box [.rptr (bkC b) 0]){R K:List ABlk→Prop}(hR:ZA b.cards.length l most=false→∀σ',Old σ σ'→R σ')(hK:ZA b.cards.length l most=true→∀σ',Old σ σ'→K σ') :
  VV.wr (Xc [.nils,(.int .i64 0)] [] σ) σ λt11_62 σ=>VV.wr (Zb 2 [t11_62,.agg [rowV l,iv most]] σ) σ λ_ σ=>
  VV.rd (Za 0 [t11_62] σ) λt88_63=>VV.rd (Zc false 1 [t88_63] σ) λt89_64=>VV.rd (Qd [t89_64] σ) λt90_65=>
  VV.rd (Za 1 [t11_62] σ) λt91_66=>VV.rd (Zc false 1 [t91_66] σ) λt92_67=>VV.rd (Yh .gtr false [t90_65,t92_67] σ) λt93_68=>
  VV.gr t93_68 false (λk=>VV.rd (Za 0 [t11_62] σ) k) λt95_69=>VV.gr t93_68 false (λk=>VV.rd (Zc false 1 [t95_69] σ) k) λt96_70=>
  VV.gr t93_68 false (λk=>VV.rd (Zo (.func 186) 0 [.bptr b4 0] σ) k) λt97_71=>VV.gw t93_68 false (λk=>VV.call (.call 185) [t96_70,t97_71] σ k) σ λt98_72 σ=>
  VV.rd (Zn [t93_68,(.bool true),t98_72] σ) λt99_73=>VV.test t99_73 (R σ) (K σ):=by
 refine Xz (row:=[rowV l,iv most]) rfl rfl rfl ?_;have hB:=Qh σ (ABlk.box [rowV l,iv most]);have hb':hget (σ++[ABlk.box [rowV l,iv most]]) b4=.box [.rptr (bkC b) 0]:=Qf _ hb (by simp);have ho:=Old.app σ [ABlk.box [rowV l,iv most]];generalize σ++[ABlk.box [rowV l,iv most]]=τ at hB hb' ho ⊢;generalize σ.length=c at hB ⊢;refine Ya rfl (Ya (ld hB rfl) (Ya (v:=iv l.length) (rd:=[]) (by simp[Zf]) (Ya rfl (Ya (ld hB rfl) (Ya (Q4 ..) ?_)))));refine Ycq (d:=l.any λx=>decide (x<0)||decide ((b.cards.length:Int)≤x)) (λ_=>rfl) (λ_=>ld hB rfl) (λ_=>rfl) (λ_ k hk=>?_) ?_
 ·exact XE (c185 l hl 186 [] [.rptr [.rptr (bkC b) 0] 0] g186_ok.plain (λx=>decide (x<0)||decide ((b.cards.length:Int)≤x)) (λx _=>c186 b x) (λx=>rfl) rfl) rfl g185_ok.plain (QbV hb' l 186) rfl hk
 have he:=QbK b.cards.length l most;refine Qc (λh=>hR ?_ _ ho) (λh=>hK ?_ _ ho)
 ·rw[←he,h]; rfl
 ·rw[←he,h]; rfl
theorem QcV(b:Bk)(next:Int)(u:Th)(met:Bool) :
  (!((((((((met||decide (u.card<0))||decide ((b.cards.length:Int)≤u.card)) || !((b.cards[u.card.toNat]?).getD default).unit)||decide (u.harm<0))||decide (1000000<u.harm))||decide (u.id<1))||decide (next≤u.id))))=(XH b next u && !met):=by
 rw[XH];cases met with
 |true=>simp
 |false=>
  by_cases h1:u.card<0
  ·have:¬0≤u.card:=by omega
   simp[h1,this]
  by_cases h2:(b.cards.length:Int)≤u.card
  ·have:¬u.card<b.cards.length:=by omega
   simp[h2,this]
  have e1:0≤u.card:=by omega
  have e2:u.card<b.cards.length:=by omega
  have e3:u.card.toNat<b.cards.length:=by omega
  simp only[h1,h2,e1,e2,decide_true,decide_false,Bool.or_false,Bool.true_and,Bool.not_false,Bool.and_true,Bool.false_or];rw[List.getElem?_eq_getElem e3];simp only[Option.map_some,Option.getD_some];generalize b.cards[u.card.toNat].unit=q;rw[Bool.eq_iff_iff];cases q<;>simp<;>omega
theorem c144(b:Bk)(s:St)(side:Int)(j:Nat)(x:Sd)(hx:SdAt (stC s) j x)(hj:∀σ,Yf 2 8 [.rptr (stC s) (0+7),iv side] σ=.ok (.rptr (stC s) j) [] [])(hs:SdLe 1000000000 x)(ids:List (Int×Int)){m:Nat}{σ:List ABlk}(hm:hget σ m=.map (mpG iv ids)){K:AVal→List ABlk→Prop}
 (hF:(YF b.cards.length x&&YA b s.next (ids.map (·.1)) x.units)=false→∀σ',K (.bool false) σ')
 (hT:(YF b.cards.length x&&YA b s.next (ids.map (·.1)) x.units)=true→∀σ',Bt m σ σ'→hget σ' m=.map (mpG iv (ids++x.units.map λu=>(u.id,side)))→K (.bool true) σ') :
  g144 VV [.rptr (bkC b) 0,.rptr (stC s) 0,iv side,.map m] σ K:=by
 unfold g144;refine Zd rfl (Qs _ _) ?_;have hB:=Qh σ (ABlk.box [.rptr (bkC b) 0]);have hm':hget (σ++[ABlk.box [.rptr (bkC b) 0]]) m=.map (mpG iv ids):=Qf _ hm (by simp);have ho:=Old.app σ [ABlk.box [.rptr (bkC b) 0]];have hml:=Qi hm (by simp);have hne:m≠σ.length:=by omega
 generalize σ++[ABlk.box [.rptr (bkC b) 0]]=τ at hB hm' ho ⊢;generalize σ.length=c at hB hne ⊢;refine Ya rfl (Ya rfl (Ya (hj _) (Ya rfl (Ya rfl (Ya (ldr hx.h0) ?_)))));refine Ye (c57 _) rfl g57_ok.plain rfl (Ya rfl ?_);refine Qcp (λ_=>rfl) (λ_=>rfl) (λ_=>rfl) (λ_=>ldr hx.h1) (λ_=>Qx ..) ?_;refine Qbl (λ_=>rfl) (λ_=>rfl) (λ_=>rfl) (λ_=>ldr hx.h1) (λ_ k hk=>Ye (c57 _) rfl g57_ok.plain rfl hk) (λ_=>rfl) ?_;refine Qcp (λ_=>rfl) (λ_=>rfl) (λ_=>rfl) (λ_=>ldr hx.h2) (λ_=>Qx ..) ?_;refine Qcp (λ_=>rfl) (λ_=>rfl) (λ_=>rfl) (λ_=>ldr hx.h2) (λ_=>Q4 ..) ?_;refine XcK (λ_=>rfl) (λ_=>rfl) (λ_=>rfl) (λ_=>ldr hx.h6) (v5:=iv x.units.length) (q5:=[]) (λ_=>by simp[Zf]) (λ_=>Q4 ..) ?_;refine Qc (λh=>hF ?_ _) (λh=>?_)
 ·have:YF b.cards.length x=false:=by
   rw[Bool.eq_false_iff]; intro hh;simp only[YF,Bool.and_eq_true,decide_eq_true_eq] at hh;obtain⟨p1,p2,p3,p4,p5,_,_,_,_,p6⟩:=hh;simp only[p1,p3,Bool.not_true,Bool.false_or,Bool.or_false,Bool.or_eq_true,decide_eq_true_eq] at h;omega
  rw[this]; rfl
 simp only[Bool.or_eq_false_iff,Bool.not_eq_false',decide_eq_false_iff_not] at h;obtain⟨⟨⟨⟨⟨p1,p2⟩,p3⟩,p4⟩,p5⟩,p6⟩:=h;have hh:YF b.cards.length x=(ZA b.cards.length x.deck 60&&(ZA b.cards.length x.hand 10&&(ZA b.cards.length x.grave 1000000&&ZA b.cards.length x.told 1000000))):=by
  have q2:decide (0≤x.mana)=true:=by simp; omega
  have q4:decide (0≤x.most)=true:=by simp; omega
  have q5:decide (x.most≤10)=true:=by simp; omega
  have q6:decide (x.units.length≤7)=true:=by simp; omega
  rw[YF,p1,p3,q2,q4,q5,q6]; simp
 rw[hh] at hF hT;clear hh p1 p2 p3 p4 p5 p6;refine Ya rfl (Ya rfl (Ya (ldr hx.h3) (Ya rfl (Ya rfl (Ya rfl (Ya (ldr hx.h4) (Ya rfl (Ya rfl (Ya rfl (Ya (ldr hx.h5) (Ya rfl (Ya rfl (Ya rfl (Ya (ldr hx.h7) (Ya rfl (Ya rfl ?_))))))))))))))));have d1:=hs.deck;have d2:=hs.hand;have d3:=hs.grave;have d4:=hs.told;have d5:=hs.units;refine QI 5 (Ym (Ya rfl (Zg (Ya rfl ?_))));refine YbF b x.deck (by rw[bigE]; omega) 60 hB (λh _ _=>hF (by rw[h]; rfl) _) (λa1 σ1 o1=>Ya rfl (Ym (Ya rfl (Zg (Ya rfl ?_)))));refine YbF b x.hand (by rw[bigE]; omega) 10 (o1.get hB (by simp)) (λh _ _=>hF (by rw[a1,h]; rfl) _) (λa2 σ2 o2=>Ya rfl (Ym (Ya rfl (Zg (Ya rfl ?_)))))
 replace o2:=o1.trans o2
 refine YbF b x.grave (by rw[bigE]; omega) 1000000 (o2.get hB (by simp)) (λh _ _=>hF (by rw[a1,a2,h]; rfl) _) (λa3 σ3 o3=>Ya rfl (Ym (Ya rfl (Zg (Ya rfl ?_)))))
 replace o3:=o2.trans o3
 refine YbF b x.told (by rw[bigE]; omega) 1000000 (o3.get hB (by simp)) (λh _ _=>hF (by rw[a1,a2,a3,h]; rfl) _) (λa4 σ4 o4=>Ya rfl (Ym (Ya rfl (Xh ?_))))
 replace o4:=o3.trans o4
 rw[a1,a2,a3,a4] at hF hT;simp only[Bool.and_self,Bool.true_and] at hF hT;have hB4:=o4.get hB (by simp);have hm4:=o4.get hm' (by simp);have oo:=ho.trans o4;clear o1 o2 o3 o4 ho hB hm' hm;refine Ya rfl (Ya rfl (Ya (ldr hx.h6) (Ya (v:=iv x.units.length) (rd:=[]) (by simp[Zf]) ?_)));refine Xo (ι:=Nat) (λi vs τ=>vs=[iv i]∧i≤x.units.length∧hget τ c=.box [.rptr (bkC b) 0]∧hget τ m=.map (mpG iv (ids++(x.units.take i).map λu=>(u.id,side)))∧Bt m σ τ∧YA b s.next (ids.map (·.1)) x.units=YA b s.next ((ids++(x.units.take i).map λu=>(u.id,side)).map (·.1)) (x.units.drop i)) (λi=>x.units.length-i) 0
  ⟨rfl,by omega,hB4,by simpa using hm4,⟨oo.1,λc hc _=>oo.2 c hc⟩,by simp⟩ ?_
 clear hB4 hm4 oo;rintro i vs τ1 again ⟨rfl,hi,hB,hm,hbt,hr⟩ hag;refine Ya rfl (Qc (λh=>?_) (λh=>?_));rotate_left
 ·have h:i=x.units.length:=by simp at h; omega
  subst h;rw[List.drop_length,YA] at hr;rw[List.take_length] at hm;exact hT hr _ hbt hm
 have h:i<x.units.length:=by simpa using h
 have hix:=λ(s:List ABlk)=>Qu s thC false false 4 x.units .i64 i h;have htk:=QL _ _ h;rw[YLD h,YA] at hr;generalize x.units[i]=u at hix htk hr;generalize hq:ids++(x.units.take i).map (λu=>(u.id,side))=cur at hm hr;have hcur:ids++(x.units.take (i+1)).map (λu=>(u.id,side))=cur++[(u.id,side)]:=by rw[htk,List.map_append,←List.append_assoc,hq]; rfl
 refine Ya (hix _) (Ya (ldr rfl) (Xz (row:=thC u) (row':=thC u) rfl rfl rfl ?_));have hU:=Qh τ1 (ABlk.box (thC u));have hB':hget (τ1++[ABlk.box (thC u)]) c=.box [.rptr (bkC b) 0]:=Qf _ hB (by simp);have hm':hget (τ1++[ABlk.box (thC u)]) m=.map (mpG iv cur):=Qf _ hm (by simp);have hml':=Qi hm' (by simp);have hbt':Bt m σ (τ1++[ABlk.box (thC u)]):=hbt.trans (Bt.gr m (Old.app _ _).1 (Old.app _ _).2);generalize τ1++[ABlk.box (thC u)]=τ2 at hU hB' hm' hml' hbt' ⊢;generalize τ1.length=d at hU ⊢;refine Ya rfl (Ya (ld hU rfl) (Ya (Za3 iv _ _ hm' _) ?_));rw[YcA];refine Ya rfl (Ya rfl ?_);refine QaQ (λ_=>rfl) (λ_=>ld hU rfl) (λ_=>Qx ..) ?_;refine Yc6 (λ_=>rfl) (λ_=>ld hU rfl) (λ_=>ld hB' rfl) (λ_=>rfl) (λ_=>rfl) (λ_=>ldr rfl) (v7:=iv b.cards.length) (q7:=[]) (λ_=>by simp[Zf]) (λ_=>Qaq ..) ?_;refine YcT (d:=!((b.cards[u.card.toNat]?).getD default).unit) (λ_=>ld hB' rfl) (λ_=>rfl) (λ_=>rfl) (λ_=>ldr rfl) (λ_=>rfl) (λ_=>ld hU rfl) (v7:=.rptr (cdC ((b.cards[u.card.toNat]?).getD default)) 0) (q7:=[]) (λhc=>?_) (λ_=>rfl) (λ_=>ldr (cdLd1 _)) (λ_=>rfl) ?_
 ·simp only[Bool.or_eq_false_iff,decide_eq_false_iff_not] at hc;have e3:u.card.toNat<b.cards.length:=by omega
  rw[List.getElem?_eq_getElem e3];exact Ycw _ cdC _ _ _ b.cards _ u.card (by omega) e3
 refine QaQ (λ_=>rfl) (λ_=>ld hU rfl) (λ_=>Qx ..) ?_;refine QaQ (λ_=>rfl) (λ_=>ld hU rfl) (λ_=>Q4 ..) ?_;refine QaQ (λ_=>rfl) (λ_=>ld hU rfl) (λ_=>Qx ..) ?_;refine QcK (λ_=>rfl) (λ_=>ld hU rfl) (λ_=>rfl) (λ_=>rfl) (λ_=>rfl) (v6:=iv s.next) (q6:=[]) (λ_=>ldr rfl) (λ_=>Qaq ..) ?_;have hue:=QcV b s.next u (ilook u.id cur).isSome;have hk:=Zac u.id cur;refine Qc (λh2=>hF ?_ _) (λh2=>?_)
 ·rw[h2] at hue;rw[hr,←hk];have hue:(XH b s.next u && !(ilook u.id cur).isSome)=false:=hue.symm;cases h5:XH b s.next u with
  |false=>rfl
  |true=>
   rw[h5] at hue;have:(ilook u.id cur).isSome=true:=by simpa using hue
   rw[this]; rfl
 ·rw[h2] at hue;have hue:(XH b s.next u && !(ilook u.id cur).isSome)=true:=hue.symm;simp only[Bool.and_eq_true,Bool.not_eq_true'] at hue;have hnone:ilook u.id cur=none:=by
   have:=hue.2;cases h5:ilook u.id cur with
   |none=>rfl
   |some v=>rw[h5] at this; cases this
  rw[hue.1,←hk,hue.2,Bool.not_false,Bool.true_and,Bool.true_and] at hr;refine Ya rfl (Ya (ld hU rfl) (Zd (Qb4 iv hm' _ side hnone) (Yo _ hml') (Ya (Qn ..) ?_)));rw[Xg (n:=i) (by omega)];refine hag (i+1) _ _ (by omega) ⟨rfl,by omega,Xj hB' (by simp) (λe=>hne e),?_,hbt'.trans ⟨by simp,λc hc hne=>Yj _ hc hne⟩,?_⟩
  ·rw[hcur]; exact Qk _ hml'
  ·rw[hcur,hr,List.map_append]; rfl
end Go.Ah.Tz
end
section
namespace Go.Ah.Tz
open Go.Proofs.Tryz (prog)
theorem Za5(k:Int)(a:Int):∀l:List Th,ilook a (l.map λu=>(u.id,k))=(fnd l a).map λ_=>k
 |[]=>rfl
 |u::l=>by
  have:=Za5 k a l;simp only[List.map_cons,ilook,fnd,List.findIdx?_cons];by_cases h:u.id=a
  ·have h2:(a==u.id)=true:=by simp[h]
   simp[h]
  ·have h2:(a==u.id)=false:=by simp; exact λe=>h e.symm
   simp only[h2,Bool.false_eq_true,if_false,decide_eq_false h,this,fnd,Option.map_map];rfl
theorem Xce(s:St)(a:Int):ilook a (s.s0.units.map (λu=>(u.id,(0:Int)))++s.s1.units.map (λu=>(u.id,(1:Int))))=if (unitR s a).2.2=true then some (unitR s a).1 else none:=by
 rw[Yax,Za5,Za5,unitR];cases fnd s.s0.units a with
 |some k=>rfl
 |none=>cases fnd s.s1.units a<;>rfl
attribute [local irreducible] Ans.rd Ans.pu Ans.wr Ans.dr Ans.gr Ans.gw Ans.gl Ans.gd Ans.opt joinK W
set_option maxHeartbeats 4000000
theorem bkLd(b:Bk):partA true 0 2 (bkC b)=some (bkV b):=rfl
theorem Xu{e:Int}{b:Bk}{s:St}{bare:Bool}(h:mayR e b s bare=true):e=0∧1≤s.turn∧s.turn≤4096∧0≤s.mover∧s.mover≤1∧0≤s.phase∧s.phase≤2∧0≤s.result∧s.result≤3∧((s.result==0)==(s.phase != 2))=true∧1≤s.next∧s.next≤1000000∧s.attack.length≤7:=by
 simp only[mayR,Bool.and_eq_true,decide_eq_true_eq] at h;obtain⟨h1,h2,h3,h4,h5,h6,h7,h8,h9,h10,h11,h12,h13,h14⟩:=h;refine⟨h1,h2,h3,h4,h5,h6,h7,h8,h9,h10,h11,h12,?_⟩;by_cases hp:s.phase≠1
 ·rw[if_pos hp] at h14; simp at h14; simp[h14]
 ·rw[if_neg hp] at h14; simp at h14; exact h14.2.2.1
theorem Yce(o:Option Int):lookV true (iv 0) (o.map iv)=.tup [iv (o.getD 0),.bool o.isSome]:=by cases o<;>rfl
theorem Zce(o:Option Bool):lookV false (.bool false) (o.map AVal.bool)=.bool (o.getD false):=by cases o<;>rfl
theorem ZbF(t:Int):∀l:List Int,(ilook t (l.map λa=>(a,true))).getD false=l.contains t
 |[]=>rfl
 |a::l=>by
  simp only[List.map_cons,ilook,List.contains_cons];cases h:t==a with
  |true=>rfl
  |false=>simp only[Bool.false_eq_true,if_false,Bool.false_or]; exact ZbF t l
theorem c111(b:Bk)(hf:bkFit b=true)(hsm:Zt b.cards)(s:St)(hs:StLe 1000000000 s)(bare:Bool):PC 111 [.rptr (bkC b) 0,.rptr (stC s) 0,.bool bare] (.bool (mayR (bkR b).1 b s bare)):=by
 have h143:=c143 b hf hsm;generalize (bkR b).1=e at h143 ⊢;generalize (bkR b).2=ep at h143;have hat:=hs.attack;refine Ze hP g111_ok rfl rfl ?_;unfold g111;refine Ya rfl (Ya rfl (Ya (ldr rfl) (Ya (Qx ..) ?_)));refine Xn λk4 hk4=>?_;have kbad:(mayR e b s bare=true→False)→k4 [.bool true] []:=by
  intro h; rw[hk4]; refine Zg ?_;rw[Bool.eq_false_iff.2 (λhm=>h hm)]
 apply cutF (R:=k4 [.bool false] []) (1≤s.turn∧s.turn≤4096∧0≤s.mover∧s.mover≤1∧0≤s.phase∧s.phase≤2∧0≤s.result∧s.result≤3∧((s.result==0)==(s.phase != 2))=true∧1≤s.next∧s.next≤1000000∧s.attack.length≤7∧e=0)
 ·intro hR;clear hk4;refine Qc (λh=>by rw[h]; exact kbad (λhm=>by have:=Xu hm; simp at h; omega)) (λb1=>Ya rfl (Ya rfl (Ya (ldr rfl) (Ya (Q4 ..) ?_))));refine Qc (λh=>by rw[h]; exact kbad (λhm=>by have:=Xu hm; simp at h; omega)) (λb2=>Ya rfl (Ya rfl (Ya (ldr rfl) (Ya (Qx ..) ?_))));refine Qc (λh=>by rw[h]; exact kbad (λhm=>by have:=Xu hm; simp at h; omega)) (λb3=>Ya rfl (Ya rfl (Ya (ldr rfl) (Ya (Q4 ..) ?_))));refine Qc (λh=>by rw[h]; exact kbad (λhm=>by have:=Xu hm; simp at h; omega)) (λb4=>Ya rfl (Ya rfl (Ya (ldr rfl) (Ya (Qx ..) ?_))));refine Qc (λh=>by rw[h]; exact kbad (λhm=>by have:=Xu hm; simp at h; omega)) (λb5=>Ya rfl (Ya rfl (Ya (ldr rfl) (Ya (Q4 ..) ?_))));refine Qc (λh=>by rw[h]; exact kbad (λhm=>by have:=Xu hm; simp at h; omega)) (λb6=>Ya rfl (Ya rfl (Ya (ldr rfl) (Ya (Qx ..) ?_))));refine Qc (λh=>by rw[h]; exact kbad (λhm=>by have:=Xu hm; simp at h; omega)) (λb7=>Ya rfl (Ya rfl (Ya (ldr rfl) (Ya (Q4 ..) ?_))));refine Qc (λh=>by rw[h]; exact kbad (λhm=>by have:=Xu hm; simp at h; omega)) (λb8=>Ya rfl (Ya rfl (Ya (ldr rfl) (Ya (Yi ..) (Ya rfl (Ya rfl (Ya (ldr rfl) (Ya (YT ..) (Ya (Xc1 ..) ?_)))))))));have hx:(!(decide (s.result=0)==decide (s.phase≠2))) = !((s.result==0)==(s.phase != 2)):=by
   congr 1
   have e1:decide (s.result=0)=(s.result==0):=by rw[Bool.eq_iff_iff]; simp
   have e2:decide (s.phase≠2)=(s.phase != 2):=by rw[Bool.eq_iff_iff]; simp
   rw[e1,e2]
  rw[hx];refine Qc (λh=>by rw[h]; exact kbad (λhm=>by have:=(Xu hm).2.2.2.2.2.2.2.2.2.1; rw[this] at h; cases h)) (λb9=>Ya rfl (Ya rfl (Ya (ldr rfl) (Ya (Qx ..) ?_))));refine Qc (λh=>by rw[h]; exact kbad (λhm=>by have:=Xu hm; simp at h; omega)) (λb10=>Ya rfl (Ya rfl (Ya (ldr rfl) (Ya (Q4 ..) ?_))));refine Qc (λh=>by rw[h]; exact kbad (λhm=>by have:=Xu hm; simp at h; omega)) (λb11=>Ya rfl (Ya rfl (Ya (ldr rfl) (Ya (v:=iv s.attack.length) (rd:=[]) (by simp[Zf]) (Ya (Q4 ..) ?_)))));refine Qc (λh=>by rw[h]; exact kbad (λhm=>by have:=Xu hm; simp at h; omega)) (λb12=>Ya rfl (Ya (ldr (bkLd b)) ?_));refine Ye h143 rfl g143_ok.plain rfl (Ya rfl (Ya (YT ..) ?_));by_cases he:e=0
  ·rw[show decide (e≠0)=false by simp[he]];simp at b1 b2 b3 b4 b5 b6 b7 b8 b10 b11 b12;exact hR ⟨by omega,by omega,by omega,by omega,by omega,by omega,by omega,by omega,by simpa using b9,by omega,by omega,by omega,he⟩
  ·rw[show decide (e≠0)=true by simp[he]];exact kbad (λhm=>he (Xu hm).1)
 rintro⟨p1,p2,p3,p4,p5,p6,p7,p8,p9,p10,p11,p12,p13⟩;rw[hk4]; clear hk4 kbad k4;have hmay:mayR e b s bare=(YM b s&&(if s.phase≠1 then decide (s.attack.length=0) else !(decide (s.attack.length=0) && !bare)&&(s.struck&&attOk s [] s.attack))):=by
  rw[mayR,decide_eq_true p13,decide_eq_true p1,decide_eq_true p2,decide_eq_true p3,decide_eq_true p4,decide_eq_true p5,decide_eq_true p6,decide_eq_true p7,decide_eq_true p8,p9,decide_eq_true p10,decide_eq_true p11,decide_eq_true p12];rfl
 rw[hmay]; clear hmay h143 p1 p2 p3 p4 p5 p6 p7 p8 p9 p10 p11 p13;have w1:IntKind.i64.wrap (0+1)=1:=by decide
 have w2:IntKind.i64.wrap (1+1)=2:=by decide
 refine Xh (Zd rfl rfl (QI 3 (Ym (Ya rfl (Zg ?_)))));refine Yt hP rfl g144_ok rfl (c144 b s 0 7 s.s0 (sdAt0 s) (λ_=>rfl) hs.s0 [] (by rfl) (λh σ1=>?_) (λh σ1 t1 m1=>?_))
 ·refine Ya rfl (Zg ?_);have h:(YF b.cards.length s.s0&&YA b s.next [] s.s0.units)=false:=h;have:YM b s=false:=by
   rw[YM,←Bool.and_assoc,h]; rfl
  rw[this]; rfl
 refine Ya rfl (Xh (Ya rfl ?_));rw[w1];refine Ym (Ya rfl (Zg ?_));refine Yt hP rfl g144_ok rfl (c144 b s 1 15 s.s1 (sdAt1 s) (λ_=>rfl) hs.s1 _ m1 (λh2 σ2=>?_) (λh2 σ2 t2 m2=>?_))
 ·refine Ya rfl (Zg ?_);have e0:(([]++s.s0.units.map λu=>(u.id,(0:Int))):List (Int×Int)).map (·.1)=s.s0.units.map Th.id:=by simp[Function.comp_def]
  rw[e0] at h2;have:YM b s=false:=by
   rw[YM,h2]; simp
  rw[this]; rfl
 have hso:YM b s=true:=by
  have e0:(([]++s.s0.units.map λu=>(u.id,(0:Int))):List (Int×Int)).map (·.1)=s.s0.units.map Th.id:=by simp[Function.comp_def]
  rw[e0] at h2;have h:(YF b.cards.length s.s0&&YA b s.next [] s.s0.units)=true:=h;rw[YM,←Bool.and_assoc,h,h2]; rfl
 rw[hso,Bool.true_and];clear hso h h2 m1 t1 t2;refine Ya rfl (Xh (Ya rfl ?_));rw[w2];refine Ym (Ya rfl (Xh (Ya rfl (Ya rfl (Ya (ldr rfl) (Ya (YT ..) ?_))))));refine Qc (λhp=>?_) (λhp=>?_)
 ·have hp:s.phase≠1:=by simpa using hp
  rw[if_pos hp];refine Ya rfl (Ya rfl (Ya (ldr rfl) (Ya (v:=iv s.attack.length) (rd:=[]) (by simp[Zf]) (Ya (Yi ..) ?_))))
  congr 1
  rw[Bool.eq_iff_iff]; simp
 have hp:¬s.phase≠1:=by simpa using hp
 rw[if_neg hp];refine Zd rfl (Qs _ _) (Ya rfl (Ya rfl (Ya (ldr rfl) (Ya (v:=iv s.attack.length) (rd:=[]) (by simp[Zf]) ?_))));have hnew:hget (σ2++[ABlk.map []]) σ2.length=.map (mpG AVal.bool (([]:List Int).map λa=>(a,true))):=Qh _ _;have hold:=Qf [ABlk.map []] m2 (by simp);have hne:σ2.length≠0:=by have:=Qi m2 (by simp); omega
 generalize σ2++[ABlk.map []]=τ at hnew hold ⊢;generalize σ2.length=mb at hnew hne ⊢;refine Xo (ι:=Nat) (λi vs τ=>vs=[iv i]∧i≤s.attack.length∧hget τ 0=.map (mpG iv (([]++s.s0.units.map λu=>(u.id,(0:Int)))++s.s1.units.map λu=>(u.id,(1:Int))))∧hget τ mb=.map (mpG AVal.bool ((s.attack.take i).map λa=>(a,true)))∧attOk s [] s.attack=attOk s (s.attack.take i) (s.attack.drop i)) (λi=>s.attack.length-i) 0
  ⟨rfl,by omega,hold,by simpa using hnew,by simp⟩ ?_
 clear hnew hold m2;rintro i vs τ1 again ⟨rfl,hi,hm0,hmb,hr⟩ hag;refine Ya rfl (Qc (λh=>?_) (λh=>?_));rotate_left
 ·have h:i=s.attack.length:=by simp at h; omega
  subst h;rw[List.drop_length,attOk] at hr;rw[hr,Bool.and_true];refine Ya rfl (Ya rfl (Ya (ldr rfl) ?_));cases hst:s.struck with
  |false=>
   refine Xb rfl (Xb rfl (Zi rfl (Zi rfl (Zi rfl (Zi rfl (Zi rfl (Zi rfl (Xb rfl (Ya rfl ?_)))))))));simp
  |true=>
   refine Yb (Ya rfl (Yb (Ya rfl ?_)));cases bare with
   |true=>
    refine Xb rfl (Xb rfl (Xb rfl (Xb rfl (Xb rfl (Xb rfl (Yb (Ya rfl (Ya rfl ?_))))))));simp
   |false=>
    refine Yb (Ya rfl (Yb (Ya rfl (Yb (Ya rfl (Yb (Ya (ldr rfl) (Yb (Ya (v:=iv s.attack.length) (rd:=[]) (by simp[Zf]) (Yb (Ya (Q4 ..) (Yb (Ya rfl (Ya rfl ?_))))))))))))));show AVal.bool _=_
    congr 1
    rw[Bool.eq_iff_iff];simp[List.length_pos_iff]
 have h:i<s.attack.length:=by simpa using h
 have htk:=QL _ _ h;rw[YLD h,attOk] at hr;refine Ya (Qu _ cel _ _ _ s.attack _ i h) (Ya (ldr rfl) (Ya (Za3 iv _ _ hm0 _) ?_));rw[Yce,List.nil_append,Xce];generalize s.attack[i]=a at htk hr ⊢;generalize ho:(if (unitR s a).2.2=true then some (unitR s a).1 else none)=o;have ho1:o.isSome=(unitR s a).2.2:=by rw[←ho]; cases (unitR s a).2.2<;>rfl
 have ho2:(unitR s a).2.2=true→o.getD 0=(unitR s a).1:=by intro q; rw[←ho,if_pos q]; rfl
 refine Ya rfl (Ya rfl (Ya rfl ?_));refine XcK (λ_=>rfl) (λ_=>rfl) (λ_=>rfl) (λ_=>rfl) (λ_=>ldr rfl) (λ_=>YT ..) ?_;refine QaQ (d:=(ilook a ((s.attack.take i).map λa=>(a,true))).getD false) (λ_=>rfl) (λ_=>rfl) (λ_=>by rw[Za3 AVal.bool _ _ hmb,Zce]) ?_;have hmet:=ZbF a (s.attack.take i);refine Qc (λh2=>?_) (λh2=>?_)
 ·have:attOk s [] s.attack=false:=by
   rw[hr,Bool.eq_false_iff]; intro q;simp only[Bool.and_eq_true,decide_eq_true_eq,Bool.not_eq_true'] at q;obtain⟨⟨q1,q2⟩,q3,q4⟩:=q;rw[ho1,ho2 q1,q1,q2,hmet,q3] at h2;simp at h2
  rw[this]; simp
 ·simp only[Bool.or_eq_false_iff,Bool.not_eq_false',decide_eq_false_iff_not,Decidable.not_not] at h2;obtain⟨⟨q1,q2⟩,q3⟩:=h2;rw[ho1] at q1;rw[ho2 q1] at q2;have hnone:ilook a ((s.attack.take i).map λa=>(a,true))=none:=by
   have:=Zac a ((s.attack.take i).map λa=>(a,true));simp only[List.map_map,Function.comp_def,List.map_id'] at this;rw[←hmet,q3] at this;cases h5:ilook a ((s.attack.take i).map λa=>(a,true)) with
   |none=>rfl
   |some v=>rw[h5] at this; cases this
  rw[hmet] at q3;rw[q1,q2,q3] at hr;have hml:=Qi hmb (by simp);refine Zd (Qb4 AVal.bool hmb a true hnone) (Yo _ hml) (Ya (Qn ..) ?_);rw[Xg (n:=i) (by omega)];refine hag (i+1) _ _ (by omega) ⟨rfl,by omega,Xj hm0 (by simp) (λe=>hne e),?_,?_⟩
  ·rw[htk,List.map_append]; exact Qk _ hml
  ·rw[htk,hr]; simp
end Go.Ah.Tz
end
section
namespace Go.Ah.Tz
open Go.Proofs.Tryz (prog)
def RI(σ:List ABlk)(rd:List Nat)(v:AVal)(l:List Int):Prop:=Bor (hp σ) rd v (rowV l)
def RT(σ:List ABlk)(rd:List Nat)(v:AVal)(l:List Th):Prop:=Bor (hp σ) rd v (thV l)
theorem YcY:∀ {l:List Int},∀r∈l.map cel,roL r=true:=by
 intro l r hr;obtain⟨x,_,rfl⟩:=List.mem_map.1 hr; rfl
theorem th_ro:∀ {l:List Th},∀r∈l.map thC,roL r=true:=by
 intro l r hr;obtain⟨x,_,rfl⟩:=List.mem_map.1 hr; rfl
theorem RI.own{σ:List ABlk}{rd:List Nat}{b:Nat}{ex:Bool}{l:List Int}{n:Nat}(hb:hget σ b=.rows 1 (l.map cel))(hin:b∈rd)(hn:n=l.length):RI σ rd (.sl b 0 n ex) l:=
 Bor.own hb hin (by simp[hn]) (Yam _ _ (by simp[hn])) YcY
theorem RI.ro{σ:List ABlk}{rd:List Nat}(l:List Int):RI σ rd (rowV l) l:=Bor.ro rfl
theorem RI.nils{σ:List ABlk}{rd:List Nat}:RI σ rd .nils []:=Bor.weak (Bor.ro rfl) (λM u d=>d.nils_rsl 1)
theorem RT.nils{σ:List ABlk}{rd:List Nat}:RT σ rd .nils []:=Bor.weak (Bor.ro rfl) (λM u d=>d.nils_rsl 4)
theorem RT.own{σ:List ABlk}{rd:List Nat}{b:Nat}{ex:Bool}{l:List Th}{n:Nat}(hb:hget σ b=.rows 4 (l.map thC))(hin:b∈rd)(hn:n=l.length):RT σ rd (.sl b 0 n ex) l:=
 Bor.own hb hin (by simp[hn]) (Yam _ _ (by simp[hn])) th_ro
@[reducible] def stQ(s:St)(a d0 h0 g0 u0 t0 d1 h1 g1 u1 t1:AVal):List AVal:=[iv s.turn,iv s.mover,iv8 s.phase,.bool s.struck,iv8 s.result,a,iv s.next,
 iv s.s0.life,iv s.s0.mana,iv s.s0.most,d0,h0,g0,u0,t0,iv s.s1.life,iv s.s1.mana,iv s.s1.most,d1,h1,g1,u1,t1]
def SB(σ:List ABlk)(rd:List Nat)(cs:List AVal)(s:St):Prop:=BorL (hp σ) rd cs (stC s)
theorem SB.mk{σ:List ABlk}{rd:List Nat}{s:St}{a d0 h0 g0 u0 t0 d1 h1 g1 u1 t1:AVal}(x1:RI σ rd a s.attack)(x2:RI σ rd d0 s.s0.deck)(x3:RI σ rd h0 s.s0.hand)(x4:RI σ rd g0 s.s0.grave)(x5:RT σ rd u0 s.s0.units)(x6:RI σ rd t0 s.s0.told)
 (y2:RI σ rd d1 s.s1.deck)(y3:RI σ rd h1 s.s1.hand)(y4:RI σ rd g1 s.s1.grave)(y5:RT σ rd u1 s.s1.units)(y6:RI σ rd t1 s.s1.told):SB σ rd (stQ s a d0 h0 g0 u0 t0 d1 h1 g1 u1 t1) s:=
 .cons (Bor.ro rfl) <| .cons (Bor.ro rfl) <| .cons (Bor.ro rfl) <| .cons (Bor.ro rfl) <| .cons (Bor.ro rfl) <| .cons x1 <| .cons (Bor.ro rfl) <| .cons (Bor.ro rfl) <| .cons (Bor.ro rfl) <| .cons (Bor.ro rfl) <| .cons x2 <| .cons x3 <| .cons x4 <| .cons x5 <| .cons x6 <|
 .cons (Bor.ro rfl) <| .cons (Bor.ro rfl) <| .cons (Bor.ro rfl) <| .cons y2 <| .cons y3 <| .cons y4 <| .cons y5 <| .cons y6 .nil
theorem SB.ro{σ:List ABlk}{rd:List Nat}(s:St):SB σ rd (stC s) s:=BorL.ro rfl
theorem SB.agg{σ:List ABlk}{rd:List Nat}{cs:List AVal}{s:St}(h:SB σ rd cs s):Bor (hp σ) rd (.agg cs) (stV s):=Bor.agg h
def zSd:Sd:=⟨0,0,0,[],[],[],[],[]⟩
def zSt:St:=⟨0,0,0,false,0,[],0,zSd,zSd⟩
theorem SB.zero{σ:List ABlk}{rd:List Nat}:SB σ rd (stQ zSt .nils .nils .nils .nils .nils .nils .nils .nils .nils .nils .nils) zSt:=SB.mk .nils .nils .nils .nils .nils .nils .nils .nils .nils .nils .nils
structure Ev where
 kind:Int
 side:Int
 card:Int
 id:Int
 other:Int
 n:Int
 cards:List Int
 deriving DecidableEq,Inhabited
@[reducible] def evC(e:Ev):List AVal:=[iv8 e.kind,iv e.side,iv e.card,iv e.id,iv e.other,iv e.n,rowV e.cards]
@[reducible] def evV(e:Ev):AVal:=.agg (evC e)
def zEv:Ev:=⟨0,0,0,0,0,0,[]⟩
theorem evB{σ:List ABlk}{rd:List Nat}{e:Ev}{v:AVal}(h:RI σ rd v e.cards):Bor (hp σ) rd (.agg [iv8 e.kind,iv e.side,iv e.card,iv e.id,iv e.other,iv e.n,v]) (evV e):=
 Bor.agg (.cons (Bor.ro rfl) <| .cons (Bor.ro rfl) <| .cons (Bor.ro rfl) <| .cons (Bor.ro rfl) <| .cons (Bor.ro rfl) <| .cons (Bor.ro rfl) <| .cons h .nil)
attribute [local irreducible] Ans.rd Ans.pu Ans.wr Ans.dr Ans.gr Ans.gw Ans.gl Ans.gd Ans.opt joinK W
set_option maxHeartbeats 1000000
theorem c56(b:Bk)(hf:bkFit b=true)(hsm:Zt b.cards)(s:St)(hs:StLe 1000000000 s){σ:List ABlk}{bb sb:Nat}(h1:hget σ bb=.box (bkC b))(h2:hget σ sb=.box (stC s)){K:AVal→List ABlk→Prop}
 (hF:mayR (bkR b).1 b s true=false→K .nilp σ)(hT:mayR (bkR b).1 b s true=true→K (.bptr (σ++stB s).length 0) (σ++stB s++[.box (.bptr bb 0::stO s σ.length)])):g56 VV [.bptr bb 0,.bptr sb 0] σ K:=by
 unfold g56;have hb1:hp σ bb=some (.box (bkC b)):=ZF h1 (by simp);have hb2:hp σ sb=some (.box (stC s)):=ZF h2 (by simp);refine YN (rd:=[bb,sb]) (c111 b hf hsm s hs true) rfl g111_ok.plain (.cons (Bor.box hb1 (by simp) (BorL.ro rfl)) <| .cons (Bor.box hb2 (by simp) (BorL.ro rfl)) <| .cons (Bor.ro rfl) .nil) rfl ?_;refine Ya rfl (Qc (λh=>?_) (λh=>?_))
 ·exact hF (by simpa using h)
 refine Ya rfl (Ya (ld h2 rfl) ?_);refine Zak (c59 s hs) rfl g59_ok.plain rfl ?_;have e1:(AVal.agg (stO s 0)).ren (Zy σ.length)=.agg (stO s σ.length):=by
  simp[AVal.ren,renL,Zy,Nat.add_comm]; omega
 have e2:Zu σ.length (stB s)=stB s:=by
  simp only[Zu,stB,sdB,List.map_cons,List.map_append,List.map_nil,YO,Yau]
 rw[e1,e2];refine Ya rfl (Zd rfl (Qs _ _) ?_);exact hT (by simpa using h)
end Go.Ah.Tz
end
section
namespace Go.Ah.Tz
open Go.Proofs.Tryz (prog)
theorem Xcn(s:St)(n:Nat):(AVal.agg (stO s 0)).ren (Zy n)=.agg (stO s n):=by
 simp[AVal.ren,renL,Zy,Nat.add_comm]; omega
theorem Ycn(s:St)(n:Nat):Zu n (stB s)=stB s:=by
 simp only[Zu,stB,sdB,List.map_cons,List.map_append,List.map_nil,YO,Yau]
theorem QbG:∀l:List Int,YV (l.map cel)=true
 |[]=>rfl
 |x::l=>by simp only[List.map_cons,YV,QbG l,Bool.and_true]; rfl
theorem Zcg:∀l:List Th,YV (l.map thC)=true
 |[]=>rfl
 |x::l=>by simp only[List.map_cons,YV,Zcg l,Bool.and_true]; rfl
theorem YcF(s:St):Zay (stB s)=true:=by
 simp only[stB,sdB,List.cons_append,List.nil_append,Zay,ABlk.nosh,QbG,Zcg,Bool.and_self]
theorem w59{s:St}(hs:StLe 1000000000 s){σ:List ABlk}{rd:List Nat}{cs:List AVal}(h:SB σ rd cs s){K:AVal→List ABlk→Prop}(hK:K (.agg (stO s σ.length)) (σ++stB s)):VV.call (.call 59) [.agg cs] σ K:=by
 refine XbT (c59 s hs) rfl g59_ok.plain (.cons (SB.agg h) .nil) rfl (YcF s) ?_;rw[Xcn,Ycn]; exact hK
theorem SdLe.mono{n m:Nat}{s:Sd}(h:SdLe n s)(k:n≤m):SdLe m s:=⟨Nat.le_trans h.1 k,Nat.le_trans h.2 k,Nat.le_trans h.3 k,Nat.le_trans h.4 k,Nat.le_trans h.5 k⟩
theorem StLe.mono{n m:Nat}{s:St}(h:StLe n s)(k:n≤m):StLe m s:=⟨Nat.le_trans h.1 k,h.2.mono k,h.3.mono k⟩
theorem Qbf{e:Int}{b:Bk}{s:St}{bare:Bool}(h:mayR e b s bare=true):YM b s=true:=by
 simp only[mayR,Bool.and_eq_true] at h;exact h.2.2.2.2.2.2.2.2.2.2.2.2.1
theorem Yct{n:Int}:wIn n=true↔-1000000≤n∧n≤1000000:=by simp[wIn]
theorem SB.copy{σ:List ABlk}{rd:List Nat}{s:St}{n:Nat}(key:∀i x,(stB s)[i]?=some x→hget σ (n+i)=x)(hin:∀i,i<11→n+i∈rd):SB σ rd (stO s n) s:=
 SB.mk (RI.own (key 0 _ rfl) (hin 0 (by decide)) rfl) (RI.own (key 1 _ rfl) (hin 1 (by decide)) rfl) (RI.own (key 2 _ rfl) (hin 2 (by decide)) rfl) (RI.own (key 3 _ rfl) (hin 3 (by decide)) rfl) (RT.own (key 4 _ rfl) (hin 4 (by decide)) rfl) (RI.own (key 5 _ rfl) (hin 5 (by decide)) rfl)
  (RI.own (key 6 _ rfl) (hin 6 (by decide)) rfl) (RI.own (key 7 _ rfl) (hin 7 (by decide)) rfl) (RI.own (key 8 _ rfl) (hin 8 (by decide)) rfl) (RT.own (key 9 _ rfl) (hin 9 (by decide)) rfl) (RI.own (key 10 _ rfl) (hin 10 (by decide)) rfl)
theorem Yba{agg:Bool}{σ:List ABlk}{b j n:Nat}{row:List AVal}{v:AVal}(hb:hget σ b=.box row)(hv:partA agg j n row=some v):cellV agg n (.bptr b j) σ=some v:=by
 simp only[cellV,hb,hv]
theorem c56n(b:Bk)(hf:bkFit b=true)(hsm:Zt b.cards)(s:St)(hs:StLe 1000000000 s){σ:List ABlk}{bb sb n0 n:Nat}(hn0:σ.length=n0)(hn:n0+11=n)(h1:hget σ bb=.box (bkC b))(h2:hget σ sb=.box (stC s)){K:AVal→List ABlk→Prop}
 (hF:mayR (bkR b).1 b s true=false→K .nilp σ)(hT:mayR (bkR b).1 b s true=true→K (.bptr n 0) (σ++stB s++[.box (.bptr bb 0::stO s n0)])):VV.call (.call 56) [.bptr bb 0,.bptr sb 0] σ K:=by
 subst hn0; subst hn;refine Yt hP rfl g56_ok rfl (c56 b hf hsm s hs h1 h2 hF (λh=>?_));have:(σ++stB s).length=σ.length+11:=by simp[stB,sdB]
 rw[this]; exact hT h
def St.side(s:St)(k:Int):Sd:=if k=0 then s.s0 else s.s1
def St.put(s:St)(k:Int)(d:Sd):St:=if k=0 then { s with s0:=d } else { s with s1:=d }
@[reducible] def resX(s:St)(e:Ev)(x:AVal):AVal:=.tup [stV s,evV e,x]
@[reducible] def resV(r:St×Ev×Int):AVal:=resX r.1 r.2.1 (iv r.2.2)
theorem resXB{σ:List ABlk}{rd:List Nat}{cs ec:List AVal}{s:St}{e:Ev}{x:AVal}(h1:SB σ rd cs s)(h2:Bor (hp σ) rd (.agg ec) (evV e))(hx:x.ro=true):Bor (hp σ) rd (.tup [.agg cs,.agg ec,x]) (resX s e x):=
 Bor.tup (.cons (SB.agg h1) <| .cons h2 <| .cons (Bor.ro hx) .nil)
theorem resB{σ:List ABlk}{rd:List Nat}{cs ec:List AVal}{r:St×Ev×Int}(h1:SB σ rd cs r.1)(h2:Bor (hp σ) rd (.agg ec) (evV r.2.1)):Bor (hp σ) rd (.tup [.agg cs,.agg ec,iv r.2.2]) (resV r):=resXB h1 h2 rfl
@[reducible] def zStC:List AVal:=stQ zSt .nils .nils .nils .nils .nils .nils .nils .nils .nils .nils .nils
@[reducible] def zEvC:List AVal:=[iv8 0,iv 0,iv 0,iv 0,iv 0,iv 0,.nils]
theorem resZ{σ:List ABlk}{rd:List Nat}(e:Int):Bor (hp σ) rd (.tup [.agg zStC,.agg zEvC,iv e]) (resV (zSt,zEv,e)):=
 resB (r:=(zSt,zEv,e)) SB.zero (evB (e:=zEv) RI.nils)
end Go.Ah.Tz
end
section
namespace Go.Ah.Tz
open Go.Proofs.Tryz (prog)
attribute [local irreducible] Ans.rd Ans.pu Ans.wr Ans.dr Ans.gr Ans.gw Ans.gl Ans.gd Ans.opt joinK W
set_option maxHeartbeats 4000000
theorem c118(l:List Th)(hl:l.length≤1000000000)(id:FuncId)(fs cs:List AVal)(hp:Zj prog id=true)(f:Th→Bool)(hc:∀x∈l,PC id (fs++[.agg (thC x)]++cs) (.bool (f x)))(hr:∀x,roL (fs++[.agg (thC x)]++cs)=true) :
  PC 118 [thV l,.func (.func id) fs cs] (iv (idxF f l 0)):=by
 refine Ze hP g118_ok rfl rfl ?_;unfold g118;refine Ya (v:=iv l.length) (rd:=[]) (by simp[Zf]) ?_;refine Xo (ι:=Nat) (λi vs s=>vs=[iv i]∧i≤l.length∧idxF f l 0=idxF f (l.drop i) i) (λi=>l.length-i) 0 ⟨rfl,by omega,by simp⟩ ?_;rintro i vs s again ⟨rfl,hi,hr'⟩ hag;refine Ya rfl (Qc (λh=>?_) (λh=>?_))
 ·have h:i<l.length:=by simpa using h
  refine Ya (Qu _ thC _ _ _ l _ i h) (Ya (ldr rfl) ?_);refine Ye (hc _ (List.getElem_mem h)) rfl hp (hr _) ?_;rw[YLD h,idxF] at hr';refine Qc (λh2=>?_) (λh2=>?_)
  ·rw[if_pos h2] at hr'; rw[hr']; rfl
  ·rw[if_neg (by rw[h2]; simp)] at hr';refine Ya (Qn ..) ?_;rw[Xg (n:=i) (by omega)];exact hag (i+1) _ _ (by omega) ⟨rfl,by omega,by rw[hr']; push_cast; rfl⟩
 ·have h:i=l.length:=by simp at h; omega
  subst h;rw[List.drop_length,idxF] at hr';rw[hr']
theorem c119(u:Th)(id:Int):PC 119 [.agg (thC u),.rptr [iv id] 0] (.bool (decide (u.id=id))):=by
 refine Ze hP g119_ok rfl rfl ?_;unfold g119;exact Zd rfl rfl (Ya rfl (Ya (ld rfl rfl) (Ya rfl (Ya (Yi ..) rfl))))
theorem XbE(id:Int):∀(l:List Th) (n:Int),idxF (λu:Th=>decide (u.id=id)) l n=match fnd l id with
  |some k=>n+k
  |none=>-1
 |[],n=>rfl
 |u::l,n=>by
  have ih:=XbE id l (n+1);simp only[idxF,fnd,List.findIdx?_cons] at ih ⊢;by_cases h:u.id=id
  ·simp[h]
  ·simp only[decide_eq_false h,Bool.false_eq_true,if_false,ih];cases List.findIdx? (λu=>decide (u.id=id)) l with
   |none=>rfl
   |some k=>show n+1+(k:Int)=n+((k+1:Nat):Int); omega
theorem c71(s:St)(hs:StLe 1000000000 s)(id:Int):PC 71 [stV s,iv id] (unitV s id):=by
 have h0:=c118 s.s0.units hs.s0.units 119 [] [.rptr [iv id] 0] g119_ok.plain (λu=>decide (u.id=id)) (λx _=>c119 x id) (λx=>rfl);have h1:=c118 s.s1.units hs.s1.units 119 [] [.rptr [iv id] 0] g119_ok.plain (λu=>decide (u.id=id)) (λx _=>c119 x id) (λx=>rfl);have w1:IntKind.i64.wrap (0+1)=1:=by decide
 have w2:IntKind.i64.wrap (1+1)=2:=by decide
 rw[XbE] at h0 h1;refine Ze hP g71_ok rfl rfl ?_;unfold g71;refine Zd rfl rfl (Zd rfl rfl ?_);refine QI 3 (Ym ?_);refine Ya rfl (Zg (Ya rfl (Ya rfl (Ya rfl (Ya rfl (Ya rfl ?_))))));refine XE h0 rfl g118_ok.plain rfl rfl ?_;simp only[unitV,unitR];cases q0:fnd s.s0.units id with
 |some k=>
  simp only[q0];refine Ya (Qaq ..) ?_;rw[decide_eq_true (by omega)];exact Zg (by simp)
 |none=>
  simp only[q0];refine Ya rfl (Xh (Ya rfl ?_));rw[w1];refine Ym ?_;refine Ya rfl (Zg (Ya rfl (Ya rfl (Ya rfl (Ya rfl (Ya rfl ?_))))));refine XE h1 rfl g118_ok.plain rfl rfl ?_;cases q1:fnd s.s1.units id with
  |some k=>
   simp only[q1];refine Ya (Qaq ..) ?_;rw[decide_eq_true (by omega)];exact Zg (by simp)
  |none=>
   simp only[q1];refine Ya rfl (Xh (Ya rfl ?_));rw[w2];refine Ym ?_;exact Ya rfl (Xh (by simp))
def Yad(b:Bk)(c:Int):Int:=((b.cards[c.toNat]?).getD default).shield
def hurt(b:Bk)(u:Th)(n:Int):Int:=max (IntKind.i64.wrap (n-Yad b u.card)) 0
theorem cdLd5(x:Cd):partA false 5 1 (cdC x)=some (iv x.shield):=rfl
theorem c66n(m:List AVal)(life n:Int):PC 66 [.rptr m 0,.nilp,iv life,iv n] (.tup [iv (IntKind.i64.wrap (life-n)),iv n]):=by
 refine Ze hP g66_ok rfl rfl ?_;unfold g66;exact Ya rfl (Xh (Ya (Xb4 ..) rfl))
theorem c66u(b:Bk)(m:List AVal)(u:Th)(life n:Int)(h0:0≤u.card)(h1:u.card.toNat<b.cards.length):PC 66 [.rptr (.rptr (bkC b) 0::m) 0,.rptr (thC u) 0,iv life,iv n] (.tup [iv (IntKind.i64.wrap (u.harm+hurt b u n)),iv (hurt b u n)]):=by
 refine Ze hP g66_ok rfl rfl ?_;unfold g66;refine Ya rfl (Zg (Ya rfl (Ya rfl (Ya (ldr rfl) (Ya rfl (Ya rfl (Ya (ldr rfl) (Ya rfl (Ya rfl (Ya (ldr rfl) ?_))))))))));have hx:=Ycw [] cdC false false 12 b.cards .i64 u.card h0 h1;refine Ya hx (Ya rfl (Ya (ldr (cdLd5 _)) (Ya (Xb4 ..) (Ya (YaJ ..) ?_))));refine Ya rfl (Ya rfl (Ya (ldr rfl) (Ya (Qn ..) ?_)));have:Yad b u.card=(b.cards[u.card.toNat]).shield:=by simp[Yad,List.getElem?_eq_getElem h1]
 rw[hurt,this]
end Go.Ah.Tz
end
section
namespace Go.Ah.Tz
open Go.Proofs.Tryz (prog)
abbrev mv6(s:St):List AVal:=[.bptr 0 0,iv s.turn,iv s.mover,iv8 s.phase,.bool s.struck,iv8 s.result,.sl 6 0 s.attack.length false,iv s.next,iv s.s0.life,iv s.s0.mana,iv s.s0.most,.sl 7 0 s.s0.deck.length false,.sl 8 0 s.s0.hand.length false,.sl 9 0 s.s0.grave.length false,.sl 10 0 s.s0.units.length false,.sl 11 0 s.s0.told.length false,iv s.s1.life,iv s.s1.mana,iv s.s1.most,.sl 12 0 s.s1.deck.length false,.sl 13 0 s.s1.hand.length false,.sl 14 0 s.s1.grave.length false,.sl 15 0 s.s1.units.length false,.sl 16 0 s.s1.told.length false]
abbrev st6(s:St):List AVal:=[iv s.turn,iv s.mover,iv8 s.phase,.bool s.struck,iv8 s.result,.sl 6 0 s.attack.length false,iv s.next,iv s.s0.life,iv s.s0.mana,iv s.s0.most,.sl 7 0 s.s0.deck.length false,.sl 8 0 s.s0.hand.length false,.sl 9 0 s.s0.grave.length false,.sl 10 0 s.s0.units.length false,.sl 11 0 s.s0.told.length false,iv s.s1.life,iv s.s1.mana,iv s.s1.most,.sl 12 0 s.s1.deck.length false,.sl 13 0 s.s1.hand.length false,.sl 14 0 s.s1.grave.length false,.sl 15 0 s.s1.units.length false,.sl 16 0 s.s1.told.length false]
abbrev sg6(b:Bk)(s:St):List ABlk:=[.box (bkC b),.box (stC s),.box zStC,.box zEvC,.box zStC,.box zEvC,.rows 1 (s.attack.map cel),.rows 1 (s.s0.deck.map cel),.rows 1 (s.s0.hand.map cel),.rows 1 (s.s0.grave.map cel),.rows 4 (s.s0.units.map thC),.rows 1 (s.s0.told.map cel),.rows 1 (s.s1.deck.map cel),.rows 1 (s.s1.hand.map cel),.rows 1 (s.s1.grave.map cel),.rows 4 (s.s1.units.map thC),.rows 1 (s.s1.told.map cel)]
abbrev dd18:List ABlk:=[.dead,.dead,.dead,.dead,.dead,.dead,.dead,.dead,.dead,.dead,.dead,.dead,.dead,.dead,.dead,.dead,.dead,.dead]
def cap4(n:Int):Int:=min (max n 0) 4000000
def chgU(s:St)(kd k:Int)(i:Nat)(id:Int)(u:Th)(v:Int×Int):St×Ev×Int:=
 if wIn v.1 then (s.put k { s.side k with units:=(s.side k).units.set i { u with harm:=v.1 } },⟨kd,k,0,id,0,v.2,[]⟩,0) else (zSt,zEv,171)
def chgP(s:St)(kd k:Int)(v:Int×Int):St×Ev×Int:=
 if wIn v.1 then (s.put k { s.side k with life:=v.1 },⟨kd,k,0,0,0,v.2,[]⟩,0) else (zSt,zEv,171)
def chgF(kd:Int)(fP:Int→Int×Int)(fU:Th→Int×Int)(s:St)(id k:Int):St×Ev×Int:=
 if id=0 then chgP s kd k (fP (s.side k).life) else if id<0 then (zSt,zEv,4) else match fnd s.s0.units id with
  |some i=>chgU s kd 0 i id ((s.s0.units[i]?).getD default) (fU ((s.s0.units[i]?).getD default))
  |none=>match fnd s.s1.units id with
   |some i=>chgU s kd 1 i id ((s.s1.units[i]?).getD default) (fU ((s.s1.units[i]?).getD default))
   |none=>(zSt,zEv,4)
def harmF(b:Bk)(s:St)(id k n:Int):St×Ev×Int:=
 chgF 5 (λl=>(IntKind.i64.wrap (l-cap4 n),cap4 n)) (λu=>(IntKind.i64.wrap (u.harm+hurt b u (cap4 n)),hurt b u (cap4 n))) s id k
def gT(kd:Int)(F:FuncId):GFun:=λA xs σ ret=>match xs with
|[x0,x1,x2,x3,x4]=>
 A.wr (Zm [x0] σ) σ λt5_0 σ=>
 A.wr (Zm [x1] σ) σ λt6_1 σ=>
 A.wr (Xc zStC [] σ) σ λt10_2 σ=>
 A.wr (Xc zEvC [] σ) σ λt11_3 σ=>
 A.call (.call 64) [t5_0,t6_1,(.int .i8 kd),x2,x3,x4,(.func (.func F) [] [])] σ λt16_4 σ=>
 A.rd (Qb 0 [t16_4] σ) λt17_5=>
 A.rd (Qb 1 [t16_4] σ) λt18_6=>
 A.rd (Qb 2 [t16_4] σ) λt19_7=>
 A.wr (Zb 23 [t10_2,t17_5] σ) σ λ_ σ=>
 A.wr (Zb 7 [t11_3,t18_6] σ) σ λ_ σ=>
 A.opt (cellV true 23 t10_2 σ) λr8=>
 A.opt (cellV true 7 t11_3 σ) λr9=>
 ret (.tup [r8,r9,t19_7]) σ
|_=>A.stop
theorem Xaj{b:Bk}{next:Int}:∀ {l:List Th} {ids:List Int},YA b next ids l=true→∀u∈l,XH b next u=true
 |v::l,ids,h,u,hu=>by
  simp only[YA,Bool.and_eq_true] at h;rcases List.mem_cons.1 hu with rfl|hu
  ·exact h.1
  ·exact Xaj h.2.2 u hu
theorem XaR{b:Bk}{next:Int}{u:Th}(h:XH b next u=true):0≤u.card∧u.card.toNat<b.cards.length:=by
 simp only[XH,Bool.and_eq_true,decide_eq_true_eq] at h;omega
theorem Zbg{e:Int}{b:Bk}{s:St}{bare:Bool}(h:mayR e b s bare=true):∀u∈s.s0.units,0≤u.card∧u.card.toNat<b.cards.length:=by
 have:=Qbf h;simp only[YM,Bool.and_eq_true] at this;exact λu hu=>XaR (Xaj this.2.1 u hu)
theorem Ybg{e:Int}{b:Bk}{s:St}{bare:Bool}(h:mayR e b s bare=true):∀u∈s.s1.units,0≤u.card∧u.card.toNat<b.cards.length:=by
 have:=Qbf h;simp only[YM,Bool.and_eq_true] at this;exact λu hu=>XaR (Xaj this.2.2.2 u hu)
theorem Xaw{l:List Th}{id:Int}{k:Nat}(h:fnd l id=some k):∃u,l[k]?=some u∧u.id=id:=by
 obtain⟨hk,h2,_⟩:=List.findIdx?_eq_some_iff_getElem.1 h;exact⟨l[k],by simp[hk],by simpa using h2⟩
theorem XbB{σ:List ABlk}{b k:Nat}{l:List Th}{u:Th}(hU:hget σ b=.rows 4 (l.map thC))(hk:l[k]?=some u)(now:Int):Zb 1 [.ptr b k 2,iv now] σ=.ok .junk [] [(b,.rows 4 ((l.set k { u with harm:=now }).map thC))]:=by
 have h1:nth (l.map thC) k=some (thC u):=by rw[ZZ,List.getElem?_map,hk]; rfl
 have hl:k<(l.map thC).length:=by simpa using (YLG hk).1
 have h2:Yz k [iv u.id,iv u.card,iv now,.bool u.tired] (l.map thC)=some ((l.set k { u with harm:=now }).map thC):=by
  rw[Q8 hl,List.map_set]; rfl
 show (match hget σ b with
   |.rows sz rs=>match nth rs k with
    |some row=>match cellsOf (iv now) with
     | some cs=>bif Nat.beq cs.length 1 then (match splice 2 cs row with
      |some row'=>match Yz k row' rs with
       |some rs'=>SRes.ok .junk [] [(b,.rows sz rs')]
       |none=>.stop
      | none=>.stop) else .stop
     |none=>.stop
    |none=>.stop
   | _=>.stop)=_
 rw[hU];simp only[h1];show (match Yz k [iv u.id,iv u.card,iv now,.bool u.tired] (l.map thC) with
  |some rs'=>SRes.ok .junk [] [(b,.rows 4 rs')]
  | none=>.stop)=_
 rw[h2]
attribute [local irreducible] Ans.rd Ans.pu Ans.wr Ans.dr Ans.gr Ans.gw Ans.gl Ans.gd Ans.opt joinK W
set_option maxHeartbeats 4000000
theorem cTp_0{b:Bk}(hf:bkFit b=true)(hsm:Zt b.cards){s:St}(hs:StLe 2000000 s)(hm:mayR (bkR b).1 b s true=true){f F F2:FuncId}{kd:Int}(hg:GQ f 5 (gT kd F)){gF:GFun}(hgF:GQ F 1 gF)(hF:∀x τ (K:AVal→List ABlk→Prop),K (.func (.func F2) [x] []) τ→gF VV [x] τ K)(h2p:Zj prog F2=true)(n:Int)(v:Int×Int)(hc:PC F2 [.rptr (.rptr (bkC b) 0::stC s) 0,.nilp,iv s.s0.life,iv (cap4 n)] (.tup [iv v.1,iv v.2])):PC f [bkV b,stV s,iv 0,iv 0,iv n] (resV (chgP s kd 0 v)):=by
 have hr:chgP s kd 0 v=(if wIn v.1 then (s.put 0 { s.s0 with life:=v.1 },⟨kd,0,0,0,0,v.2,[]⟩,0) else (zSt,zEv,171)):=rfl;refine YG hP hg rfl ?_;unfold gT;refine Zd (v:=.bptr 0 0) (rd:=[]) (up:=[(0,.box (bkC b))]) rfl rfl ?_;refine Zd (v:=.bptr 1 0) (rd:=[]) (up:=[(1,.box (stC s))]) rfl rfl ?_;refine Zd (v:=.bptr 2 0) (rd:=[]) (up:=[(2,.box zStC)]) rfl rfl ?_;refine Zd (v:=.bptr 3 0) (rd:=[]) (up:=[(3,.box zEvC)]) rfl rfl ?_;refine Yt hP rfl g64_ok rfl ?_;unfold g64;refine Zd (v:=.bptr 4 0) (rd:=[]) (up:=[(4,.box zStC)]) rfl rfl ?_;refine Zd (v:=.bptr 5 0) (rd:=[]) (up:=[(5,.box zEvC)]) rfl rfl ?_;refine c56n b hf hsm s (hs.mono (by decide)) (n0:=6) (n:=17) rfl rfl rfl rfl (λh=>by rw[hm] at h; cases h) (λ_=>?_);refine Ya rfl (Xh (Ya (YaJ ..) (Ya (Xam ..) (Ya (YT ..) ?_))));refine Xn λk11 hk11=>?_;refine Xh ?_;rw[hk11];refine Ya rfl ?_;refine XaQ (c:=false) (d:=false) (λ_=>rfl) (λ_=>rfl) ?_;refine Xh (Ya rfl (Ya rfl (Ya rfl (Ya rfl ?_))));refine X9 hP (ys:=[.bptr 17 0]) (zs:=[.bptr 17 0]) rfl hgF rfl [] [17] (v:=.func (.func F2) [.bptr 17 0] []) (m:=0) (σ:=((sg6 b s).append [.box (mv6 s)])) (τ:=dd18) (τ':=dd18) (by decide) (show ∀b∈[17],b<18 by decide) rfl rfl ?_ rfl (u:=.func (.func F2) [.bptr 17 0] []) (up:=[]) (σ':=((sg6 b s).append [.box (mv6 s)])) rfl rfl rfl ?_
 ·exact hF _ _ _ ⟨rfl,rfl⟩
 refine Yk rfl (Yk rfl (Qj (ld (row:=(mv6 s)) rfl rfl) (Yn _) ?_));refine Yak (rd:=[0,6,7,8,9,10,11,12,13,14,15,16,17]) (hc) rfl h2p (.cons (Bor.box (row:=(mv6 s)) rfl (by decide) (.cons (Bor.box (row:=bkC b) rfl (by decide) (BorL.ro rfl)) ?_)) <| .cons (Bor.ro rfl) <| .cons (Bor.ro rfl) <| .cons (Bor.ro rfl) .nil) rfl ?_
 ·exact SB.mk (s:=s) (RI.own rfl (by decide) rfl) (RI.own rfl (by decide) rfl) (RI.own rfl (by decide) rfl) (RI.own rfl (by decide) rfl) (RT.own rfl (by decide) rfl) (RI.own rfl (by decide) rfl) (RI.own rfl (by decide) rfl) (RI.own rfl (by decide) rfl) (RI.own rfl (by decide) rfl) (RT.own rfl (by decide) rfl) (RI.own rfl (by decide) rfl)
 refine Yk rfl (Yk rfl (QO (by kernel_rfl) ?_));refine Ye (c57 _) rfl g57_ok.plain rfl (Ya rfl (Qc (λh2=>?_) (λh2=>?_)))
 ·have h3:wIn v.1=false:=by simpa using h2
  replace hr:=hr.trans (if_neg (by rw[h3]; decide))
  refine Ya rfl (Ya rfl (Zd rfl rfl (Zd rfl rfl (Xm rfl (Xm rfl ?_)))));refine Ya rfl (Ya rfl (Ya rfl (Zd rfl rfl (Zd rfl rfl (Xm rfl (Xm rfl ?_))))));rw[hr];exact⟨[],resZ 171⟩
 have h3:wIn v.1=true:=by simpa using h2
 replace hr:=hr.trans (if_pos h3)
 refine Ya rfl ?_;refine Xn λk63 hk63=>?_;refine Xh (Ya rfl (Ya rfl (Zd (v:=.junk) (rd:=[]) (up:=[(17,.box ((mv6 s).set 8 (iv v.1)))]) rfl rfl ?_)));rw[hk63];refine Ya rfl (Ya rfl (Ya (ld (row:=((mv6 s).set 8 (iv v.1))) rfl rfl) (Ya rfl ?_)));refine Zd (v:=.junk) (rd:=[]) (up:=[(4,.box ((st6 s).set 7 (iv v.1)))]) rfl rfl ?_;refine Zd (v:=.junk) (rd:=[]) (up:=[(5,.box [iv8 kd,iv 0,iv 0,iv 0,iv 0,iv v.2,.nils])]) rfl rfl (Xm rfl (Xm rfl ?_));refine Ya rfl (Ya rfl (Ya rfl ?_));refine Zd (v:=.junk) (rd:=[]) (up:=[(2,.box ((st6 s).set 7 (iv v.1)))]) rfl rfl ?_;refine Zd (v:=.junk) (rd:=[]) (up:=[(3,.box [iv8 kd,iv 0,iv 0,iv 0,iv 0,iv v.2,.nils])]) rfl rfl (Xm rfl (Xm rfl ?_));rw[hr];refine⟨List.range 18,?_⟩;refine resB (cs:=((st6 s).set 7 (iv v.1))) (r:=({ s with s0:={ s.s0 with life:=v.1 } },⟨kd,0,0,0,0,v.2,[]⟩,0)) ?_ (evB (e:=⟨kd,0,0,0,0,v.2,[]⟩) RI.nils);refine SB.mk (rd:=List.range 18) (s:={ s with s0:={ s.s0 with life:=v.1 } }) ?_ ?_ ?_ ?_ ?_ ?_ ?_ ?_ ?_ ?_ ?_<;>first|exact RI.own rfl (by decide) rfl|exact RT.own rfl (by decide) rfl
theorem cTp_1{b:Bk}(hf:bkFit b=true)(hsm:Zt b.cards){s:St}(hs:StLe 2000000 s)(hm:mayR (bkR b).1 b s true=true){f F F2:FuncId}{kd:Int}(hg:GQ f 5 (gT kd F)){gF:GFun}(hgF:GQ F 1 gF)(hF:∀x τ (K:AVal→List ABlk→Prop),K (.func (.func F2) [x] []) τ→gF VV [x] τ K)(h2p:Zj prog F2=true)(n:Int)(v:Int×Int)(hc:PC F2 [.rptr (.rptr (bkC b) 0::stC s) 0,.nilp,iv s.s1.life,iv (cap4 n)] (.tup [iv v.1,iv v.2])):PC f [bkV b,stV s,iv 0,iv 1,iv n] (resV (chgP s kd 1 v)):=by
 have hr:chgP s kd 1 v=(if wIn v.1 then (s.put 1 { s.s1 with life:=v.1 },⟨kd,1,0,0,0,v.2,[]⟩,0) else (zSt,zEv,171)):=rfl;refine YG hP hg rfl ?_;unfold gT;refine Zd (v:=.bptr 0 0) (rd:=[]) (up:=[(0,.box (bkC b))]) rfl rfl ?_;refine Zd (v:=.bptr 1 0) (rd:=[]) (up:=[(1,.box (stC s))]) rfl rfl ?_;refine Zd (v:=.bptr 2 0) (rd:=[]) (up:=[(2,.box zStC)]) rfl rfl ?_;refine Zd (v:=.bptr 3 0) (rd:=[]) (up:=[(3,.box zEvC)]) rfl rfl ?_;refine Yt hP rfl g64_ok rfl ?_;unfold g64;refine Zd (v:=.bptr 4 0) (rd:=[]) (up:=[(4,.box zStC)]) rfl rfl ?_;refine Zd (v:=.bptr 5 0) (rd:=[]) (up:=[(5,.box zEvC)]) rfl rfl ?_;refine c56n b hf hsm s (hs.mono (by decide)) (n0:=6) (n:=17) rfl rfl rfl rfl (λh=>by rw[hm] at h; cases h) (λ_=>?_);refine Ya rfl (Xh (Ya (YaJ ..) (Ya (Xam ..) (Ya (YT ..) ?_))));refine Xn λk11 hk11=>?_;refine Xh ?_;rw[hk11];refine Ya rfl ?_;refine XaQ (c:=false) (d:=false) (λ_=>rfl) (λ_=>rfl) ?_;refine Xh (Ya rfl (Ya rfl (Ya rfl (Ya rfl ?_))));refine X9 hP (ys:=[.bptr 17 0]) (zs:=[.bptr 17 0]) rfl hgF rfl [] [17] (v:=.func (.func F2) [.bptr 17 0] []) (m:=0) (σ:=((sg6 b s).append [.box (mv6 s)])) (τ:=dd18) (τ':=dd18) (by decide) (show ∀b∈[17],b<18 by decide) rfl rfl ?_ rfl (u:=.func (.func F2) [.bptr 17 0] []) (up:=[]) (σ':=((sg6 b s).append [.box (mv6 s)])) rfl rfl rfl ?_
 ·exact hF _ _ _ ⟨rfl,rfl⟩
 refine Yk rfl (Yk rfl (Qj (ld (row:=(mv6 s)) rfl rfl) (Yn _) ?_));refine Yak (rd:=[0,6,7,8,9,10,11,12,13,14,15,16,17]) (hc) rfl h2p (.cons (Bor.box (row:=(mv6 s)) rfl (by decide) (.cons (Bor.box (row:=bkC b) rfl (by decide) (BorL.ro rfl)) ?_)) <| .cons (Bor.ro rfl) <| .cons (Bor.ro rfl) <| .cons (Bor.ro rfl) .nil) rfl ?_
 ·exact SB.mk (s:=s) (RI.own rfl (by decide) rfl) (RI.own rfl (by decide) rfl) (RI.own rfl (by decide) rfl) (RI.own rfl (by decide) rfl) (RT.own rfl (by decide) rfl) (RI.own rfl (by decide) rfl) (RI.own rfl (by decide) rfl) (RI.own rfl (by decide) rfl) (RI.own rfl (by decide) rfl) (RT.own rfl (by decide) rfl) (RI.own rfl (by decide) rfl)
 refine Yk rfl (Yk rfl (QO (by kernel_rfl) ?_));refine Ye (c57 _) rfl g57_ok.plain rfl (Ya rfl (Qc (λh2=>?_) (λh2=>?_)))
 ·have h3:wIn v.1=false:=by simpa using h2
  replace hr:=hr.trans (if_neg (by rw[h3]; decide))
  refine Ya rfl (Ya rfl (Zd rfl rfl (Zd rfl rfl (Xm rfl (Xm rfl ?_)))));refine Ya rfl (Ya rfl (Ya rfl (Zd rfl rfl (Zd rfl rfl (Xm rfl (Xm rfl ?_))))));rw[hr];exact⟨[],resZ 171⟩
 have h3:wIn v.1=true:=by simpa using h2
 replace hr:=hr.trans (if_pos h3)
 refine Ya rfl ?_;refine Xn λk63 hk63=>?_;refine Xh (Ya rfl (Ya rfl (Zd (v:=.junk) (rd:=[]) (up:=[(17,.box ((mv6 s).set 16 (iv v.1)))]) rfl rfl ?_)));rw[hk63];refine Ya rfl (Ya rfl (Ya (ld (row:=((mv6 s).set 16 (iv v.1))) rfl rfl) (Ya rfl ?_)));refine Zd (v:=.junk) (rd:=[]) (up:=[(4,.box ((st6 s).set 15 (iv v.1)))]) rfl rfl ?_;refine Zd (v:=.junk) (rd:=[]) (up:=[(5,.box [iv8 kd,iv 1,iv 0,iv 0,iv 0,iv v.2,.nils])]) rfl rfl (Xm rfl (Xm rfl ?_));refine Ya rfl (Ya rfl (Ya rfl ?_));refine Zd (v:=.junk) (rd:=[]) (up:=[(2,.box ((st6 s).set 15 (iv v.1)))]) rfl rfl ?_;refine Zd (v:=.junk) (rd:=[]) (up:=[(3,.box [iv8 kd,iv 1,iv 0,iv 0,iv 0,iv v.2,.nils])]) rfl rfl (Xm rfl (Xm rfl ?_));rw[hr];refine⟨List.range 18,?_⟩;refine resB (cs:=((st6 s).set 15 (iv v.1))) (r:=({ s with s1:={ s.s1 with life:=v.1 } },⟨kd,1,0,0,0,v.2,[]⟩,0)) ?_ (evB (e:=⟨kd,1,0,0,0,v.2,[]⟩) RI.nils);refine SB.mk (rd:=List.range 18) (s:={ s with s1:={ s.s1 with life:=v.1 } }) ?_ ?_ ?_ ?_ ?_ ?_ ?_ ?_ ?_ ?_ ?_<;>first|exact RI.own rfl (by decide) rfl|exact RT.own rfl (by decide) rfl
theorem cTu_0{b:Bk}(hf:bkFit b=true)(hsm:Zt b.cards){s:St}(hs:StLe 2000000 s)(hm:mayR (bkR b).1 b s true=true){f F F2:FuncId}{kd:Int}(hg:GQ f 5 (gT kd F)){gF:GFun}(hgF:GQ F 1 gF)(hF:∀x τ (K:AVal→List ABlk→Prop),K (.func (.func F2) [x] []) τ→gF VV [x] τ K)(h2p:Zj prog F2=true)(id sd n:Int)(hid:id≠0)(hid2:¬id<0)(k:Nat)(hfn:unitV s id=.tup [iv 0,iv k,.bool true])(u:Th)(hk:s.s0.units[k]?=some u)(v:Int×Int)(hc:PC F2 [.rptr (.rptr (bkC b) 0::stC s) 0,.rptr (thC u) 0,iv s.s0.life,iv (cap4 n)] (.tup [iv v.1,iv v.2])):PC f [bkV b,stV s,iv id,iv sd,iv n] (resV (chgU s kd 0 k id u v)):=by
 have h71:=c71 s (hs.mono (by decide)) id;rw[hfn] at h71;have hkl:k<s.s0.units.length:=(YLG hk).1;have hr:chgU s kd 0 k id u v=(if wIn v.1 then (s.put 0 { s.s0 with units:=s.s0.units.set k { u with harm:=v.1 } },⟨kd,0,0,id,0,v.2,[]⟩,0) else (zSt,zEv,171)):=rfl;refine YG hP hg rfl ?_;unfold gT;refine Zd (v:=.bptr 0 0) (rd:=[]) (up:=[(0,.box (bkC b))]) rfl rfl ?_;refine Zd (v:=.bptr 1 0) (rd:=[]) (up:=[(1,.box (stC s))]) rfl rfl ?_;refine Zd (v:=.bptr 2 0) (rd:=[]) (up:=[(2,.box zStC)]) rfl rfl ?_;refine Zd (v:=.bptr 3 0) (rd:=[]) (up:=[(3,.box zEvC)]) rfl rfl ?_;refine Yt hP rfl g64_ok rfl ?_;unfold g64;refine Zd (v:=.bptr 4 0) (rd:=[]) (up:=[(4,.box zStC)]) rfl rfl ?_;refine Zd (v:=.bptr 5 0) (rd:=[]) (up:=[(5,.box zEvC)]) rfl rfl ?_;refine c56n b hf hsm s (hs.mono (by decide)) (n0:=6) (n:=17) rfl rfl rfl rfl (λh=>by rw[hm] at h; cases h) (λ_=>?_);refine Ya rfl (Xh (Ya (YaJ ..) (Ya (Xam ..) (Ya (YT ..) ?_))));refine Xn λk11 hk11=>?_;rw[decide_eq_true hid];refine Zg (Ya rfl (Ya (ld (row:=stC s) rfl rfl) ?_));refine Ye h71 rfl g71_ok.plain rfl (Ya rfl (Ya rfl (Ya rfl (Ya rfl ?_))));refine XaQ (c:=false) (λ_=>rfl) (λ_=>Qx ..) ?_;rw[decide_eq_false hid2];refine Xh (Ya rfl (Ya rfl (Ya rfl (Ya rfl (Ya rfl (Ya (ld (row:=(mv6 s)) rfl rfl) ?_))))));refine Ya (v:=.ptr 10 k 0) (rd:=[10]) ?_ ?_
 ·have:=QbM (((sg6 b s).append [.box (mv6 s)])) 10 0 s.s0.units.length false 4 (s.s0.units.map thC) .i64 k hkl rfl;rw[Nat.zero_add] at this; exact this
 rw[hk11];refine Ya rfl ?_;refine XaQ (c:=false) (d:=false) (λ_=>rfl) (λ_=>rfl) ?_;refine Xh (Ya rfl (Ya rfl (Ya rfl (Ya rfl ?_))));refine X9 hP (ys:=[.bptr 17 0]) (zs:=[.bptr 17 0]) rfl hgF rfl [] [17] (v:=.func (.func F2) [.bptr 17 0] []) (m:=0) (σ:=((sg6 b s).append [.box (mv6 s)])) (τ:=dd18) (τ':=dd18) (by decide) (show ∀b∈[17],b<18 by decide) rfl rfl ?_ rfl (u:=.func (.func F2) [.bptr 17 0] []) (up:=[]) (σ':=((sg6 b s).append [.box (mv6 s)])) rfl rfl rfl ?_
 ·exact hF _ _ _ ⟨rfl,rfl⟩
 refine Yk rfl (Yk rfl (Qj (ld (row:=(mv6 s)) rfl rfl) (Yn _) ?_));refine Yak (rd:=[0,6,7,8,9,10,11,12,13,14,15,16,17]) (hc) rfl h2p (.cons (Bor.box (row:=(mv6 s)) rfl (by decide) (.cons (Bor.box (row:=bkC b) rfl (by decide) (BorL.ro rfl)) ?_)) <| .cons (Bor.ptr (rs:=s.s0.units.map thC) (row:=thC u) rfl (by decide) (by rw[List.getElem?_map,hk]; rfl) (BorL.ro rfl)) <| .cons (Bor.ro rfl) <| .cons (Bor.ro rfl) .nil) rfl ?_
 ·exact SB.mk (s:=s) (RI.own rfl (by decide) rfl) (RI.own rfl (by decide) rfl) (RI.own rfl (by decide) rfl) (RI.own rfl (by decide) rfl) (RT.own rfl (by decide) rfl) (RI.own rfl (by decide) rfl) (RI.own rfl (by decide) rfl) (RI.own rfl (by decide) rfl) (RI.own rfl (by decide) rfl) (RT.own rfl (by decide) rfl) (RI.own rfl (by decide) rfl)
 refine Yk rfl (Yk rfl (QO (by kernel_rfl) ?_));refine Ye (c57 _) rfl g57_ok.plain rfl (Ya rfl (Qc (λh2=>?_) (λh2=>?_)))
 ·have h3:wIn v.1=false:=by simpa using h2
  replace hr:=hr.trans (if_neg (by rw[h3]; decide))
  refine Ya rfl (Ya rfl (Zd rfl rfl (Zd rfl rfl (Xm rfl (Xm rfl ?_)))));refine Ya rfl (Ya rfl (Ya rfl (Zd rfl rfl (Zd rfl rfl (Xm rfl (Xm rfl ?_))))));rw[hr];exact⟨[],resZ 171⟩
 have h3:wIn v.1=true:=by simpa using h2
 replace hr:=hr.trans (if_pos h3)
 refine Ya rfl ?_;refine Xn λk63 hk63=>?_;refine Zg (Ya rfl (Ya rfl (Zd (v:=.junk) (rd:=[]) (up:=[(10,.rows 4 ((s.s0.units.set k { u with harm:=v.1 }).map thC))]) (XbB rfl hk _) rfl ?_)));rw[hk63];refine Ya rfl (Ya rfl (Ya (ld (row:=(mv6 s)) rfl rfl) (Ya rfl ?_)));refine Zd (v:=.junk) (rd:=[]) (up:=[(4,.box (st6 s))]) rfl rfl ?_;refine Zd (v:=.junk) (rd:=[]) (up:=[(5,.box [iv8 kd,iv 0,iv 0,iv id,iv 0,iv v.2,.nils])]) rfl rfl (Xm rfl (Xm rfl ?_));refine Ya rfl (Ya rfl (Ya rfl ?_));refine Zd (v:=.junk) (rd:=[]) (up:=[(2,.box (st6 s))]) rfl rfl ?_;refine Zd (v:=.junk) (rd:=[]) (up:=[(3,.box [iv8 kd,iv 0,iv 0,iv id,iv 0,iv v.2,.nils])]) rfl rfl (Xm rfl (Xm rfl ?_));rw[hr];refine⟨List.range 18,?_⟩;refine resB (cs:=(st6 s)) (r:=({ s with s0:={ s.s0 with units:=s.s0.units.set k { u with harm:=v.1 } } },⟨kd,0,0,id,0,v.2,[]⟩,0)) ?_ (evB (e:=⟨kd,0,0,id,0,v.2,[]⟩) RI.nils);refine SB.mk (rd:=List.range 18) (s:={ s with s0:={ s.s0 with units:=s.s0.units.set k { u with harm:=v.1 } } }) ?_ ?_ ?_ ?_ ?_ ?_ ?_ ?_ ?_ ?_ ?_<;>first|exact RI.own rfl (by decide) rfl|exact RT.own rfl (by decide) rfl|exact RT.own (l:=s.s0.units.set k { u with harm:=v.1 }) rfl (by decide) (by simp)
theorem cTu_1{b:Bk}(hf:bkFit b=true)(hsm:Zt b.cards){s:St}(hs:StLe 2000000 s)(hm:mayR (bkR b).1 b s true=true){f F F2:FuncId}{kd:Int}(hg:GQ f 5 (gT kd F)){gF:GFun}(hgF:GQ F 1 gF)(hF:∀x τ (K:AVal→List ABlk→Prop),K (.func (.func F2) [x] []) τ→gF VV [x] τ K)(h2p:Zj prog F2=true)(id sd n:Int)(hid:id≠0)(hid2:¬id<0)(k:Nat)(hfn:unitV s id=.tup [iv 1,iv k,.bool true])(u:Th)(hk:s.s1.units[k]?=some u)(v:Int×Int)(hc:PC F2 [.rptr (.rptr (bkC b) 0::stC s) 0,.rptr (thC u) 0,iv s.s1.life,iv (cap4 n)] (.tup [iv v.1,iv v.2])):PC f [bkV b,stV s,iv id,iv sd,iv n] (resV (chgU s kd 1 k id u v)):=by
 have h71:=c71 s (hs.mono (by decide)) id;rw[hfn] at h71;have hkl:k<s.s1.units.length:=(YLG hk).1;have hr:chgU s kd 1 k id u v=(if wIn v.1 then (s.put 1 { s.s1 with units:=s.s1.units.set k { u with harm:=v.1 } },⟨kd,1,0,id,0,v.2,[]⟩,0) else (zSt,zEv,171)):=rfl;refine YG hP hg rfl ?_;unfold gT;refine Zd (v:=.bptr 0 0) (rd:=[]) (up:=[(0,.box (bkC b))]) rfl rfl ?_;refine Zd (v:=.bptr 1 0) (rd:=[]) (up:=[(1,.box (stC s))]) rfl rfl ?_;refine Zd (v:=.bptr 2 0) (rd:=[]) (up:=[(2,.box zStC)]) rfl rfl ?_;refine Zd (v:=.bptr 3 0) (rd:=[]) (up:=[(3,.box zEvC)]) rfl rfl ?_;refine Yt hP rfl g64_ok rfl ?_;unfold g64;refine Zd (v:=.bptr 4 0) (rd:=[]) (up:=[(4,.box zStC)]) rfl rfl ?_;refine Zd (v:=.bptr 5 0) (rd:=[]) (up:=[(5,.box zEvC)]) rfl rfl ?_;refine c56n b hf hsm s (hs.mono (by decide)) (n0:=6) (n:=17) rfl rfl rfl rfl (λh=>by rw[hm] at h; cases h) (λ_=>?_);refine Ya rfl (Xh (Ya (YaJ ..) (Ya (Xam ..) (Ya (YT ..) ?_))));refine Xn λk11 hk11=>?_;rw[decide_eq_true hid];refine Zg (Ya rfl (Ya (ld (row:=stC s) rfl rfl) ?_));refine Ye h71 rfl g71_ok.plain rfl (Ya rfl (Ya rfl (Ya rfl (Ya rfl ?_))));refine XaQ (c:=false) (λ_=>rfl) (λ_=>Qx ..) ?_;rw[decide_eq_false hid2];refine Xh (Ya rfl (Ya rfl (Ya rfl (Ya rfl (Ya rfl (Ya (ld (row:=(mv6 s)) rfl rfl) ?_))))));refine Ya (v:=.ptr 15 k 0) (rd:=[15]) ?_ ?_
 ·have:=QbM (((sg6 b s).append [.box (mv6 s)])) 15 0 s.s1.units.length false 4 (s.s1.units.map thC) .i64 k hkl rfl;rw[Nat.zero_add] at this; exact this
 rw[hk11];refine Ya rfl ?_;refine XaQ (c:=false) (d:=false) (λ_=>rfl) (λ_=>rfl) ?_;refine Xh (Ya rfl (Ya rfl (Ya rfl (Ya rfl ?_))));refine X9 hP (ys:=[.bptr 17 0]) (zs:=[.bptr 17 0]) rfl hgF rfl [] [17] (v:=.func (.func F2) [.bptr 17 0] []) (m:=0) (σ:=((sg6 b s).append [.box (mv6 s)])) (τ:=dd18) (τ':=dd18) (by decide) (show ∀b∈[17],b<18 by decide) rfl rfl ?_ rfl (u:=.func (.func F2) [.bptr 17 0] []) (up:=[]) (σ':=((sg6 b s).append [.box (mv6 s)])) rfl rfl rfl ?_
 ·exact hF _ _ _ ⟨rfl,rfl⟩
 refine Yk rfl (Yk rfl (Qj (ld (row:=(mv6 s)) rfl rfl) (Yn _) ?_));refine Yak (rd:=[0,6,7,8,9,10,11,12,13,14,15,16,17]) (hc) rfl h2p (.cons (Bor.box (row:=(mv6 s)) rfl (by decide) (.cons (Bor.box (row:=bkC b) rfl (by decide) (BorL.ro rfl)) ?_)) <| .cons (Bor.ptr (rs:=s.s1.units.map thC) (row:=thC u) rfl (by decide) (by rw[List.getElem?_map,hk]; rfl) (BorL.ro rfl)) <| .cons (Bor.ro rfl) <| .cons (Bor.ro rfl) .nil) rfl ?_
 ·exact SB.mk (s:=s) (RI.own rfl (by decide) rfl) (RI.own rfl (by decide) rfl) (RI.own rfl (by decide) rfl) (RI.own rfl (by decide) rfl) (RT.own rfl (by decide) rfl) (RI.own rfl (by decide) rfl) (RI.own rfl (by decide) rfl) (RI.own rfl (by decide) rfl) (RI.own rfl (by decide) rfl) (RT.own rfl (by decide) rfl) (RI.own rfl (by decide) rfl)
 refine Yk rfl (Yk rfl (QO (by kernel_rfl) ?_));refine Ye (c57 _) rfl g57_ok.plain rfl (Ya rfl (Qc (λh2=>?_) (λh2=>?_)))
 ·have h3:wIn v.1=false:=by simpa using h2
  replace hr:=hr.trans (if_neg (by rw[h3]; decide))
  refine Ya rfl (Ya rfl (Zd rfl rfl (Zd rfl rfl (Xm rfl (Xm rfl ?_)))));refine Ya rfl (Ya rfl (Ya rfl (Zd rfl rfl (Zd rfl rfl (Xm rfl (Xm rfl ?_))))));rw[hr];exact⟨[],resZ 171⟩
 have h3:wIn v.1=true:=by simpa using h2
 replace hr:=hr.trans (if_pos h3)
 refine Ya rfl ?_;refine Xn λk63 hk63=>?_;refine Zg (Ya rfl (Ya rfl (Zd (v:=.junk) (rd:=[]) (up:=[(15,.rows 4 ((s.s1.units.set k { u with harm:=v.1 }).map thC))]) (XbB rfl hk _) rfl ?_)));rw[hk63];refine Ya rfl (Ya rfl (Ya (ld (row:=(mv6 s)) rfl rfl) (Ya rfl ?_)));refine Zd (v:=.junk) (rd:=[]) (up:=[(4,.box (st6 s))]) rfl rfl ?_;refine Zd (v:=.junk) (rd:=[]) (up:=[(5,.box [iv8 kd,iv 1,iv 0,iv id,iv 0,iv v.2,.nils])]) rfl rfl (Xm rfl (Xm rfl ?_));refine Ya rfl (Ya rfl (Ya rfl ?_));refine Zd (v:=.junk) (rd:=[]) (up:=[(2,.box (st6 s))]) rfl rfl ?_;refine Zd (v:=.junk) (rd:=[]) (up:=[(3,.box [iv8 kd,iv 1,iv 0,iv id,iv 0,iv v.2,.nils])]) rfl rfl (Xm rfl (Xm rfl ?_));rw[hr];refine⟨List.range 18,?_⟩;refine resB (cs:=(st6 s)) (r:=({ s with s1:={ s.s1 with units:=s.s1.units.set k { u with harm:=v.1 } } },⟨kd,1,0,id,0,v.2,[]⟩,0)) ?_ (evB (e:=⟨kd,1,0,id,0,v.2,[]⟩) RI.nils);refine SB.mk (rd:=List.range 18) (s:={ s with s1:={ s.s1 with units:=s.s1.units.set k { u with harm:=v.1 } } }) ?_ ?_ ?_ ?_ ?_ ?_ ?_ ?_ ?_ ?_ ?_<;>first|exact RI.own rfl (by decide) rfl|exact RT.own rfl (by decide) rfl|exact RT.own (l:=s.s1.units.set k { u with harm:=v.1 }) rfl (by decide) (by simp)
theorem cTn{b:Bk}(hf:bkFit b=true)(hsm:Zt b.cards){s:St}(hs:StLe 2000000 s)(hm:mayR (bkR b).1 b s true=true){f F F2:FuncId}{kd:Int}(hg:GQ f 5 (gT kd F)){gF:GFun}(hgF:GQ F 1 gF)(hF:∀x τ (K:AVal→List ABlk→Prop),K (.func (.func F2) [x] []) τ→gF VV [x] τ K)(h2p:Zj prog F2=true)(id sd n:Int)(hid:id≠0)(v:AVal)(w:AVal)(x:Bool)(hfn:unitV s id=.tup [v,w,.bool x])(hx:id<0∨x=false):PC f [bkV b,stV s,iv id,iv sd,iv n] (resV (zSt,zEv,4)):=by
 have h71:=c71 s (hs.mono (by decide)) id;rw[hfn] at h71;have hfl:roL [.tup [v,w,.bool x]]=true:=by rw[←hfn]; rfl
 refine YG hP hg rfl ?_;unfold gT;refine Zd (v:=.bptr 0 0) (rd:=[]) (up:=[(0,.box (bkC b))]) rfl rfl ?_;refine Zd (v:=.bptr 1 0) (rd:=[]) (up:=[(1,.box (stC s))]) rfl rfl ?_;refine Zd (v:=.bptr 2 0) (rd:=[]) (up:=[(2,.box zStC)]) rfl rfl ?_;refine Zd (v:=.bptr 3 0) (rd:=[]) (up:=[(3,.box zEvC)]) rfl rfl ?_;refine Yt hP rfl g64_ok rfl ?_;unfold g64;refine Zd (v:=.bptr 4 0) (rd:=[]) (up:=[(4,.box zStC)]) rfl rfl ?_;refine Zd (v:=.bptr 5 0) (rd:=[]) (up:=[(5,.box zEvC)]) rfl rfl ?_;refine c56n b hf hsm s (hs.mono (by decide)) (n0:=6) (n:=17) rfl rfl rfl rfl (λh=>by rw[hm] at h; cases h) (λ_=>?_);refine Ya rfl (Xh (Ya (YaJ ..) (Ya (Xam ..) (Ya (YT ..) ?_))));refine Xn λk11 hk11=>?_;rw[decide_eq_true hid];refine Zg (Ya rfl (Ya (ld (row:=stC s) rfl rfl) ?_));refine Ye h71 rfl g71_ok.plain rfl (Ya rfl (Ya rfl (Ya rfl (Ya rfl ?_))));refine XaQ (c:=!x) (λ_=>rfl) (λ_=>Qx ..) ?_;rw[show (!x||decide (id<0))=true by rcases hx with h|h<;>simp[h]];refine Zg ?_;refine Ya rfl (Ya rfl (Zd rfl rfl (Zd rfl rfl (Xm rfl (Xm rfl ?_)))));refine Ya rfl (Ya rfl (Ya rfl (Zd rfl rfl (Zd rfl rfl (Xm rfl (Xm rfl ?_))))));exact⟨[],resZ 4⟩
theorem cT{b:Bk}(hf:bkFit b=true)(hsm:Zt b.cards){s:St}(hs:StLe 2000000 s)(hm:mayR (bkR b).1 b s true=true){f F F2:FuncId}{kd:Int}(hg:GQ f 5 (gT kd F)){gF:GFun}(hgF:GQ F 1 gF)(hF:∀x τ (K:AVal→List ABlk→Prop),K (.func (.func F2) [x] []) τ→gF VV [x] τ K)(h2p:Zj prog F2=true)(id sd n:Int)(h0:sd=0∨sd=1){fP:Int→Int×Int}{fU:Th→Int×Int}(hcP:∀m life,PC F2 [.rptr m 0,.nilp,iv life,iv (cap4 n)] (.tup [iv (fP life).1,iv (fP life).2]))(hcU:∀m u life,0≤u.card→u.card.toNat<b.cards.length→PC F2 [.rptr (.rptr (bkC b) 0::m) 0,.rptr (thC u) 0,iv life,iv (cap4 n)] (.tup [iv (fU u).1,iv (fU u).2])) :
  PC f [bkV b,stV s,iv id,iv sd,iv n] (resV (chgF kd fP fU s id sd)):=by
 unfold chgF;by_cases hid:id=0
 ·rw[if_pos hid]; subst hid;rcases h0 with rfl|rfl
  ·exact cTp_0 hf hsm hs hm hg hgF hF h2p n _ (hcP _ _)
  ·exact cTp_1 hf hsm hs hm hg hgF hF h2p n _ (hcP _ _)
 rw[if_neg hid];by_cases hid2:id<0
 ·rw[if_pos hid2];exact cTn hf hsm hs hm hg hgF hF h2p id sd n hid _ _ _ rfl (.inl hid2)
 rw[if_neg hid2];cases q0:fnd s.s0.units id with
 |some k=>
  obtain⟨u,hk,_⟩:=Xaw q0;have hca:=Zbg hm u (List.mem_of_getElem? hk);simp only[hk,Option.getD_some];exact cTu_0 hf hsm hs hm hg hgF hF h2p id sd n hid hid2 k (by simp[unitV,unitR,q0]) u hk _ (hcU _ _ _ hca.1 hca.2)
 |none=>
  cases q1:fnd s.s1.units id with
  |some k=>
   obtain⟨u,hk,_⟩:=Xaw q1;have hca:=Ybg hm u (List.mem_of_getElem? hk);simp only[hk,Option.getD_some];exact cTu_1 hf hsm hs hm hg hgF hF h2p id sd n hid hid2 k (by simp[unitV,unitR,q0,q1]) u hk _ (hcU _ _ _ hca.1 hca.2)
  |none=>exact cTn hf hsm hs hm hg hgF hF h2p id sd n hid _ _ _ rfl (.inr (by simp[unitR,q0,q1]))
theorem w65(x:AVal)(τ:List ABlk)(K:AVal→List ABlk→Prop)(h:K (.func (.func 66) [x] []) τ):g65 VV [x] τ K:=by
 unfold g65;exact Ya rfl h
theorem c22(b:Bk)(hf:bkFit b=true)(hsm:Zt b.cards)(s:St)(hs:StLe 2000000 s)(hm:mayR (bkR b).1 b s true=true)(id sd n:Int)(h0:sd=0∨sd=1):PC 22 [bkV b,stV s,iv id,iv sd,iv n] (resV (harmF b s id sd n)):=
 cT hf hsm hs hm (show GQ 22 5 (gT 5 65) from g22_ok) g65_ok w65 g66_ok.plain id sd n h0 (λm life=>c66n m life _) (λm u life h1 h2=>c66u b m u life _ h1 h2)
end Go.Ah.Tz
end
section
namespace Go.Ah.Tz
open Go.Proofs.Tryz (prog)
theorem YaF{e:Int}{b:Bk}{s:St}(h:mayR e b s false=true):mayR e b s true=true:=by
 simp only[mayR,Bool.and_eq_true] at h ⊢;obtain⟨h1,h2,h3,h4,h5,h6,h7,h8,h9,h10,h11,h12,h13,h14⟩:=h;refine⟨h1,h2,h3,h4,h5,h6,h7,h8,h9,h10,h11,h12,h13,?_⟩;by_cases hp:s.phase≠1
 ·rw[if_pos hp] at h14 ⊢; exact h14
 ·rw[if_neg hp] at h14 ⊢;simp only[Bool.and_eq_true] at h14 ⊢;exact⟨by simp,h14.2⟩
theorem w19{s:St}(hs:StLe 1000000000 s){σ:List ABlk}{K:AVal→List ABlk→Prop}(hK:K (.agg (stO s σ.length)) (σ++stB s)):VV.call (.call 19) [stV s] σ K:=by
 refine Zak (c19 s hs) rfl g19_ok.plain rfl ?_;rw[Xcn,Ycn]; exact hK
theorem QcS{s:St}(hs:StLe 1000000000 s){σ:List ABlk}{K:AVal→AVal→List ABlk→Prop}(hK:∀τ n,σ.length=n→τ.length=n+12→(∀c y,hget σ c=.box y→hget τ c=.box y)→hget τ (n+11)=.box (stO s n)→(∀i x,(stB s)[i]?=some x→hget τ (n+i)=x)→K (.bptr (n+11) 0) .junk τ) :
  VV.call (.call 19) [stV s] σ λv σ=>VV.wr (Xc zStC [] σ) σ λt σ=>VV.wr (Zb 23 [t,v] σ) σ (K t):=by
 refine w19 hs ?_;have hl:(σ++stB s).length=σ.length+11:=by simp[stB,sdB]
 refine Xz (row:=stO s σ.length) (row':=stO s σ.length) rfl rfl rfl ?_;have h11:=Qh (σ++stB s) (.box (stO s σ.length));rw[hl] at h11 ⊢;refine hK _ _ rfl (by simp[stB,sdB]) (λc y h=>Qf _ (Qf _ h (by simp)) (by simp)) h11 (λi x hx=>?_);have hi:i<11:=(YLG hx).1;exact QJ (by rw[List.getElem?_append_left (by omega),List.getElem?_append_right (by omega)]; simpa using hx)
theorem c20s(a:St)(ha:StLe 1000000000 a):PC 20 [stV a,stV a] (.bool true):=by
 have:=c20 a a ha
 rwa [decide_eq_true rfl] at this
end Go.Ah.Tz
end
section
namespace Go.Ah.Tz
open Go.Proofs.Tryz (prog)
abbrev mv2(s:St):List AVal:=[.bptr 0 0,iv s.turn,iv s.mover,iv8 s.phase,.bool s.struck,iv8 s.result,.sl 2 0 s.attack.length false,iv s.next,iv s.s0.life,iv s.s0.mana,iv s.s0.most,.sl 3 0 s.s0.deck.length false,.sl 4 0 s.s0.hand.length false,.sl 5 0 s.s0.grave.length false,.sl 6 0 s.s0.units.length false,.sl 7 0 s.s0.told.length false,iv s.s1.life,iv s.s1.mana,iv s.s1.most,.sl 8 0 s.s1.deck.length false,.sl 9 0 s.s1.hand.length false,.sl 10 0 s.s1.grave.length false,.sl 11 0 s.s1.units.length false,.sl 12 0 s.s1.told.length false]
def Qae(b:Bk)(c:Int):Cd:=(b.cards[c.toNat]?).getD default
def powGo(b:Bk)(place:Int):List Th→Int→Int×Int→Int×Int
 |[],_,a=>a
 |u::l,i,a=>powGo b place l (i+1) (if i=place then (IntKind.i64.wrap (a.1+(Qae b u.card).power),IntKind.i64.wrap (a.2+(Qae b u.card).health)) else (IntKind.i64.wrap (a.1+(Qae b u.card).aurap),IntKind.i64.wrap (a.2+(Qae b u.card).aurah)))
def powF(b:Bk)(l:List Th)(place:Int):Int×Int:=powGo b place l 0 (0,0)
theorem cdLd3(x:Cd):partA false 3 1 (cdC x)=some (iv x.power):=rfl
theorem cdLd4(x:Cd):partA false 4 1 (cdC x)=some (iv x.health):=rfl
theorem cdLd6(x:Cd):partA false 6 1 (cdC x)=some (iv x.aurap):=rfl
theorem cdLd7(x:Cd):partA false 7 1 (cdC x)=some (iv x.aurah):=rfl
theorem ldp{σ:List ABlk}{b i j n sz:Nat}{agg:Bool}{rs:List (List AVal)}{row:List AVal}{v:AVal}(hb:hget σ b=.rows sz rs)(hi:rs[i]?=some row)(hv:partA agg j n row=some v):Zc agg n [.ptr b i j] σ=.ok v [b] []:=by
 show (match hget σ b with
   |.rows _ rs=>match nth rs i with
    |some row=>match partA agg j n row with
     |some v=>SRes.ok v [b] []
     |none=>.stop
    |none=>.stop
   | _=>.stop)=_
 rw[hb];simp only[ZZ,hi,hv]
attribute [local irreducible] Ans.rd Ans.pu Ans.wr Ans.dr Ans.gr Ans.gw Ans.gl Ans.gd Ans.opt joinK W
set_option maxHeartbeats 4000000
theorem c75_0(b:Bk)(s:St)(hl:s.s0.units.length≤1000000000)(hu:∀u∈s.s0.units,0≤u.card∧u.card.toNat<b.cards.length)(place:Int):PC 75 [.rptr (.rptr (bkC b) 0::stC s) 0,iv 0,iv place] (.tup [iv (powF b s.s0.units place).1,iv (powF b s.s0.units place).2]):=by
 refine Ze hP g75_ok rfl rfl ?_;unfold g75;refine Ya rfl (Ya rfl (Ya rfl (Ya rfl (Ya rfl (Ya (v:=thV s.s0.units) (rd:=[]) (ldr rfl) (Ya (v:=iv s.s0.units.length) (rd:=[]) (by simp[Zf]) ?_))))));refine Xo (ι:=Nat) (λi vs _=>(∃a:Int×Int,vs=[iv i,iv a.1,iv a.2]∧powF b s.s0.units place=powGo b place (s.s0.units.drop i) i a)∧i≤s.s0.units.length) (λi=>s.s0.units.length-i) 0 ⟨⟨(0,0),rfl,by simp[powF]⟩,by omega⟩ ?_;rintro i vs σ again ⟨⟨a,rfl,hr⟩,hi⟩ hag;refine Ya rfl (Qc (λh=>?_) (λh=>?_));rotate_left
 ·have h:i=s.s0.units.length:=by simp at h; omega
  subst h;rw[List.drop_length,powGo] at hr;show AVal.tup [iv a.1,iv a.2]=_;rw[hr]
 have h:i<s.s0.units.length:=by simpa using h
 have hmem:=List.getElem_mem h;rw[YLD h,powGo] at hr;have hix:=λ(t:List ABlk)=>Qu t thC false false 4 s.s0.units .i64 i h;generalize s.s0.units[i]=u at hmem hr hix;have hcu:=hu u hmem;have hcx:=λ(t:List ABlk)=>Ycw t cdC false false 12 b.cards .i64 u.card hcu.1 hcu.2;have hcd:Qae b u.card=b.cards[u.card.toNat]:=by simp[Qae,List.getElem?_eq_getElem hcu.2]
 rw[hcd] at hr;generalize b.cards[u.card.toNat]=c at hr hcx;refine Xn λk10 hk10=>?_;refine Ya (hix _) (Ya (ldr rfl) (Xz (row:=thC u) (row':=thC u) rfl rfl rfl ?_));have hB:=Qh σ (.box (thC u));refine Ya rfl (Ya rfl (Ya (ldr rfl) (Ya rfl (Ya rfl (Ya (ldr rfl) (Ya rfl (Ya (ld hB rfl) (Ya (hcx _) (Ya (Yi ..) ?_)))))))));refine Qc (λhp=>?_) (λhp=>?_)
 ·rw[if_pos (of_decide_eq_true hp)] at hr;refine Ya rfl (Ya rfl (Ya (ldr (cdLd3 _)) (Ya (Qn ..) (Ya rfl (Ya rfl (Ya (ldr (cdLd4 _)) (Ya (Qn ..) ?_)))))));rw[hk10];refine Ya (Qn ..) ?_;rw[Xg (n:=i) (by omega)];exact hag (i+1) _ _ (by omega) ⟨⟨_,rfl,by rw[hr]; push_cast; rfl⟩,by omega⟩
 ·rw[if_neg (of_decide_eq_false hp)] at hr;refine Ya rfl (Ya rfl (Ya (ldr (cdLd6 _)) (Ya (Qn ..) (Ya rfl (Ya rfl (Ya (ldr (cdLd7 _)) (Ya (Qn ..) ?_)))))));rw[hk10];refine Ya (Qn ..) ?_;rw[Xg (n:=i) (by omega)];exact hag (i+1) _ _ (by omega) ⟨⟨_,rfl,by rw[hr]; push_cast; rfl⟩,by omega⟩
theorem c75_1(b:Bk)(s:St)(hl:s.s1.units.length≤1000000000)(hu:∀u∈s.s1.units,0≤u.card∧u.card.toNat<b.cards.length)(place:Int):PC 75 [.rptr (.rptr (bkC b) 0::stC s) 0,iv 1,iv place] (.tup [iv (powF b s.s1.units place).1,iv (powF b s.s1.units place).2]):=by
 refine Ze hP g75_ok rfl rfl ?_;unfold g75;refine Ya rfl (Ya rfl (Ya rfl (Ya rfl (Ya rfl (Ya (v:=thV s.s1.units) (rd:=[]) (ldr rfl) (Ya (v:=iv s.s1.units.length) (rd:=[]) (by simp[Zf]) ?_))))));refine Xo (ι:=Nat) (λi vs _=>(∃a:Int×Int,vs=[iv i,iv a.1,iv a.2]∧powF b s.s1.units place=powGo b place (s.s1.units.drop i) i a)∧i≤s.s1.units.length) (λi=>s.s1.units.length-i) 0 ⟨⟨(0,0),rfl,by simp[powF]⟩,by omega⟩ ?_;rintro i vs σ again ⟨⟨a,rfl,hr⟩,hi⟩ hag;refine Ya rfl (Qc (λh=>?_) (λh=>?_));rotate_left
 ·have h:i=s.s1.units.length:=by simp at h; omega
  subst h;rw[List.drop_length,powGo] at hr;show AVal.tup [iv a.1,iv a.2]=_;rw[hr]
 have h:i<s.s1.units.length:=by simpa using h
 have hmem:=List.getElem_mem h;rw[YLD h,powGo] at hr;have hix:=λ(t:List ABlk)=>Qu t thC false false 4 s.s1.units .i64 i h;generalize s.s1.units[i]=u at hmem hr hix;have hcu:=hu u hmem;have hcx:=λ(t:List ABlk)=>Ycw t cdC false false 12 b.cards .i64 u.card hcu.1 hcu.2;have hcd:Qae b u.card=b.cards[u.card.toNat]:=by simp[Qae,List.getElem?_eq_getElem hcu.2]
 rw[hcd] at hr;generalize b.cards[u.card.toNat]=c at hr hcx;refine Xn λk10 hk10=>?_;refine Ya (hix _) (Ya (ldr rfl) (Xz (row:=thC u) (row':=thC u) rfl rfl rfl ?_));have hB:=Qh σ (.box (thC u));refine Ya rfl (Ya rfl (Ya (ldr rfl) (Ya rfl (Ya rfl (Ya (ldr rfl) (Ya rfl (Ya (ld hB rfl) (Ya (hcx _) (Ya (Yi ..) ?_)))))))));refine Qc (λhp=>?_) (λhp=>?_)
 ·rw[if_pos (of_decide_eq_true hp)] at hr;refine Ya rfl (Ya rfl (Ya (ldr (cdLd3 _)) (Ya (Qn ..) (Ya rfl (Ya rfl (Ya (ldr (cdLd4 _)) (Ya (Qn ..) ?_)))))));rw[hk10];refine Ya (Qn ..) ?_;rw[Xg (n:=i) (by omega)];exact hag (i+1) _ _ (by omega) ⟨⟨_,rfl,by rw[hr]; push_cast; rfl⟩,by omega⟩
 ·rw[if_neg (of_decide_eq_false hp)] at hr;refine Ya rfl (Ya rfl (Ya (ldr (cdLd6 _)) (Ya (Qn ..) (Ya rfl (Ya rfl (Ya (ldr (cdLd7 _)) (Ya (Qn ..) ?_)))))));rw[hk10];refine Ya (Qn ..) ?_;rw[Xg (n:=i) (by omega)];exact hag (i+1) _ _ (by omega) ⟨⟨_,rfl,by rw[hr]; push_cast; rfl⟩,by omega⟩
end Go.Ah.Tz
end
section
namespace Go.Ah.Tz
open Go.Proofs.Tryz (prog)
attribute [local irreducible] Ans.rd Ans.pu Ans.wr Ans.dr Ans.gr Ans.gw Ans.gl Ans.gd Ans.opt joinK W
set_option maxHeartbeats 4000000
theorem YcK{σ:List ABlk}{sz b n i:Nat}{ex:Bool}{rs:List (List AVal)}(hb:hget σ b=.rows sz rs)(hi:i≤n):∃v rd,XG sz [.sl b 0 n ex,iv i] σ=.ok v rd []∧((i<n∧v=.sl b i (n-i) ex∧rd=[b])∨(i=n∧v=.rsl false false sz []∧rd=[])):=by
 by_cases h:i<n
 ·refine⟨.sl b i (n - i) ex,[b],?_,.inl ⟨h,rfl,rfl⟩⟩;show (match hget σ b with
   |.rows s _=>bif Nat.beq s sz then (bif Nat.blt i n then SRes.ok (.sl b (0+i) (n-i) ex) [b] [] else bif Nat.beq i n then .ok (.rsl false false sz []) [] [] else .stop) else .stop
   | _=>.stop)=_
  rw[hb];have:Nat.blt i n=true:=Nat.ble_eq_true_of_le h;simp only[Nat.beq_refl,cond_true,this,Nat.zero_add]
 ·have e:i=n:=by omega
  subst e;refine⟨.rsl false false sz [],[],?_,.inr ⟨rfl,rfl,rfl⟩⟩;show (match hget σ b with
   |.rows s _=>bif Nat.beq s sz then (bif Nat.blt i i then SRes.ok (.sl b (0+i) (i-i) ex) [b] [] else bif Nat.beq i i then .ok (.rsl false false sz []) [] [] else .stop) else .stop
   | _=>.stop)=_
  rw[hb];have:Nat.blt i i=false:=by
   cases e:Nat.blt i i with
   |false=>rfl
   |true=>have:=YNL e; omega
  simp only[Nat.beq_refl,cond_true,this,cond_false]
theorem Zcx{σ:List ABlk}{b m:Nat}{L:List Int}(hb:hget σ b=.rows 1 (L.map cel))(hm:m<L.length)(x:Int):Zb 1 [.ptr b m 0,iv x] σ=.ok .junk [] [(b,.rows 1 ((L.set m x).map cel))]:=by
 have hl:m<(L.map cel).length:=by simpa using hm
 have h1:nth (L.map cel) m=some (cel L[m]):=by rw[ZZ,List.getElem?_map,List.getElem?_eq_getElem hm]; rfl
 have h2:Yz m [iv x] (L.map cel)=some ((L.set m x).map cel):=by
  rw[Q8 hl,List.map_set]; rfl
 show (match hget σ b with
   |.rows sz rs=>match nth rs m with
    |some row=>match cellsOf (iv x) with
     | some cs=>bif Nat.beq cs.length 1 then (match splice 0 cs row with
      |some row'=>match Yz m row' rs with
       |some rs'=>SRes.ok .junk [] [(b,.rows sz rs')]
       |none=>.stop
      | none=>.stop) else .stop
     |none=>.stop
    |none=>.stop
   | _=>.stop)=_
 rw[hb];simp only[h1];show (match Yz m [iv x] (L.map cel) with
  |some rs'=>SRes.ok .junk [] [(b,.rows 1 rs')]
  | none=>.stop)=_
 rw[h2]
end Go.Ah.Tz
end
section
namespace Go.Ah.Tz
open Go.Proofs.Tryz (prog)
abbrev XcY(x:St)(g0 g1:Nat):List AVal:=[iv x.turn,iv x.mover,iv8 x.phase,.bool x.struck,iv8 x.result,.sl 3 0 x.attack.length false,iv x.next,iv x.s0.life,iv x.s0.mana,iv x.s0.most,.sl 4 0 x.s0.deck.length false,.sl 5 0 x.s0.hand.length false,.sl g0 0 x.s0.grave.length false,.sl 7 0 x.s0.units.length false,.sl 8 0 x.s0.told.length false,iv x.s1.life,iv x.s1.mana,iv x.s1.most,.sl 9 0 x.s1.deck.length false,.sl 10 0 x.s1.hand.length false,.sl g1 0 x.s1.grave.length false,.sl 12 0 x.s1.units.length false,.sl 13 0 x.s1.told.length false]
def evN(e:Ev):List AVal:=[iv8 e.kind,iv e.side,iv e.card,iv e.id,iv e.other,iv e.n,.nils]
def Agr(τ τ':List ABlk)(ex:List Nat):Prop:=τ.length≤τ'.length∧∀c,c<τ.length→c∉ex→hget τ' c=hget τ c
theorem Agr.set(τ:List ABlk)(b:Nat)(x:ABlk):Agr τ (τ.set b x) [b]:=⟨by simp,λc hc h=>Yj x hc (by simpa using h)⟩
theorem Agr.trans{a b c:List ABlk}{e f:List Nat}(h:Agr a b e)(k:Agr b c f):Agr a c (e++f):=
 ⟨Nat.le_trans h.1 k.1,λx hx hn=>by
  rw[List.mem_append,not_or] at hn;rw[k.2 x (Nat.lt_of_lt_of_le hx h.1) hn.2,h.2 x hx hn.1]⟩
theorem Agr.get{a b:List ABlk}{e:List Nat}(h:Agr a b e){c:Nat}{x:ABlk}(hx:hget a c=x)(hd:x≠.dead)(hn:c∉e):hget b c=x:=by
 rw[h.2 c (Qi hx hd) hn]; exact hx
structure BMem (b:Bk) (s x:St) (g0 g1:Nat) (τ:List ABlk):Prop where
 k0:hget τ 0=.box (bkC b)
 k1:hget τ 1=.box (stC s)
 k2:hget τ 2=.box zStC
 mv:hget τ 14=.box (.bptr 0 0::XcY x g0 g1)
 at_:∃r,hget τ 3=.rows 1 ((x.attack++r).map cel)
 r4:hget τ 4=.rows 1 (x.s0.deck.map cel)
 r5:hget τ 5=.rows 1 (x.s0.hand.map cel)
 gr0:hget τ g0=.rows 1 (x.s0.grave.map cel)
 r7:∃r,hget τ 7=.rows 4 ((x.s0.units++r).map thC)
 r8:hget τ 8=.rows 1 (x.s0.told.map cel)
 r9:hget τ 9=.rows 1 (x.s1.deck.map cel)
 r10:hget τ 10=.rows 1 (x.s1.hand.map cel)
 gr1:hget τ g1=.rows 1 (x.s1.grave.map cel)
 r12:∃r,hget τ 12=.rows 4 ((x.s1.units++r).map thC)
 r13:hget τ 13=.rows 1 (x.s1.told.map cel)
 n0:g0=6∨15≤g0
 n1:g1=11∨15≤g1
 ne:g0≠g1
end Go.Ah.Tz
end
section
namespace Go.Ah.Tz
theorem QZ{n:Nat}{l:List Int}{most:Int}:ZA n l most=true↔(l.length:Int)≤most∧∀c∈l,0≤c∧c<n:=by
 simp[ZA,List.all_eq_true]
structure SideP (b:Bk) (x:Sd):Prop where
 life:wIn x.life=true
 mana:0≤x.mana∧wIn x.mana=true
 most:0≤x.most∧x.most≤10
 deck:ZA b.cards.length x.deck 60=true
 hand:ZA b.cards.length x.hand 10=true
 grave:ZA b.cards.length x.grave 1000000=true
 told:ZA b.cards.length x.told 1000000=true
 units:x.units.length≤7
theorem Qcm{b:Bk}{x:Sd}:YF b.cards.length x=true↔SideP b x:=by
 simp only[YF,Bool.and_eq_true,decide_eq_true_eq];constructor
 ·rintro⟨h1,h2,h3,h4,h5,h6,h7,h8,h9,h10⟩;exact⟨h1,⟨h2,h3⟩,⟨h4,h5⟩,h6,h7,h8,h9,by omega⟩
 ·rintro⟨h1,⟨h2,h3⟩,⟨h4,h5⟩,h6,h7,h8,h9,h10⟩;exact⟨h1,h2,h3,h4,h5,h6,h7,h8,h9,by omega⟩
theorem Yaj{b:Bk}{next:Int}:∀ {l:List Th} {ids:List Int},YA b next ids l=true↔(∀u∈l,XH b next u=true)∧(l.map Th.id).Nodup∧∀u∈l,u.id∉ids
 |[],ids=>by simp[YA]
 |u::l,ids=>by
  simp only[YA,Bool.and_eq_true,Yaj (l:=l),Bool.not_eq_true',List.map_cons,List.nodup_cons,List.mem_cons,forall_eq_or_imp,List.mem_append,not_or];have hc:ids.contains u.id=false↔u.id∉ids:=by simp
  rw[hc];constructor
  ·rintro⟨h1,h2,h3,h4,h5⟩;refine⟨⟨h1,h3⟩,⟨?_,h4⟩,h2,λv hv=>(h5 v hv).1⟩;intro hm;obtain⟨v,hv,e⟩:=List.mem_map.1 hm;exact(h5 v hv).2.1 e
  ·rintro⟨⟨h1,h3⟩,⟨h6,h4⟩,h2,h5⟩;exact⟨h1,h2,h3,h4,λv hv=>⟨h5 v hv,λe=>h6 (List.mem_map.2 ⟨v,hv,e⟩),by simp⟩⟩
def UnP(b:Bk)(s:St):Prop:=(∀u∈s.s0.units++s.s1.units,XH b s.next u=true)∧((s.s0.units++s.s1.units).map Th.id).Nodup
theorem Qcs{b:Bk}{s:St}:(YA b s.next [] s.s0.units=true∧YA b s.next (s.s0.units.map Th.id) s.s1.units=true)↔UnP b s:=by
 rw[Yaj,Yaj,UnP,List.map_append,List.nodup_append];constructor
 ·rintro⟨⟨h1,h2,_⟩,h3,h4,h5⟩;refine⟨λu hu=>?_,h2,h4,λa ha c hc e=>?_⟩
  ·rcases List.mem_append.1 hu with hu|hu
   ·exact h1 u hu
   ·exact h3 u hu
  ·subst e;obtain⟨v,hv,rfl⟩:=List.mem_map.1 hc;exact h5 v hv ha
 ·rintro⟨h1,h2,h3,h4⟩;refine⟨⟨λu hu=>h1 u (List.mem_append_left _ hu),h2,by simp⟩,λu hu=>h1 u (List.mem_append_right _ hu),h3,λu hu hm=>h4 _ hm _ (List.mem_map.2 ⟨u,hu,rfl⟩) rfl⟩
theorem XaH{s:St}:∀ {l prev:List Int},attOk s prev l=true↔(∀a∈l,(unitR s a).2.2=true∧(unitR s a).1=s.mover)∧l.Nodup∧∀a∈l,a∉prev
 |[],prev=>by simp[attOk]
 |a::l,prev=>by
  simp only[attOk,Bool.and_eq_true,XaH (l:=l),decide_eq_true_eq,Bool.not_eq_true',List.nodup_cons,List.mem_cons,forall_eq_or_imp,List.mem_append,not_or];have hc:prev.contains a=false↔a∉prev:=by simp
  rw[hc];constructor
  ·rintro⟨h1,h2,h3,h4,h5⟩;exact⟨⟨h1,h3⟩,⟨λhm=>(h5 a hm).2.1 rfl,h4⟩,h2,λc hc=>(h5 c hc).1⟩
  ·rintro⟨⟨h1,h3⟩,⟨h6,h4⟩,h2,h5⟩;exact⟨h1,h2,h3,h4,λc hc=>⟨h5 c hc,λe=>h6 (e▸hc),by simp⟩⟩
def AtP(s:St):Prop:=(s.phase≠1→s.attack=[])∧(s.phase=1→s.struck=true∧s.attack.length≤7∧s.attack.Nodup∧∀a∈s.attack,(unitR s a).2.2=true∧(unitR s a).1=s.mover)
def HdP(s:St):Prop:=1≤s.turn∧s.turn≤4096∧0≤s.mover∧s.mover≤1∧0≤s.phase∧s.phase≤2∧0≤s.result∧s.result≤3∧((s.result==0)==(s.phase != 2))=true∧1≤s.next∧s.next≤1000000
structure MayP (b:Bk) (s:St):Prop where
 hd:HdP s
 s0:SideP b s.s0
 s1:SideP b s.s1
 un:UnP b s
 at_:AtP s
theorem YaN{e:Int}{b:Bk}{s:St}:mayR e b s true=true↔e=0∧MayP b s:=by
 simp only[mayR,YM,Bool.and_eq_true,decide_eq_true_eq,Qcm];constructor
 ·rintro⟨h1,h2,h3,h4,h5,h6,h7,h8,h9,h10,h11,h12,⟨k1,k2,k3,k4⟩,h14⟩;refine⟨h1,⟨h2,h3,h4,h5,h6,h7,h8,h9,h10,h11,h12⟩,k1,k3,Qcs.1 ⟨k2,k4⟩,?_,?_⟩
  ·intro hp;rw[if_pos hp] at h14;exact List.length_eq_zero_iff.1 (of_decide_eq_true h14)
  ·intro hp;rw[if_neg (by simpa using hp)] at h14;simp only[Bool.and_eq_true,decide_eq_true_eq] at h14;obtain⟨_,q1,q2,q3⟩:=h14;obtain⟨r1,r2,_⟩:=XaH.1 q3;exact⟨q1,by omega,r2,r1⟩
 ·rintro⟨h1,⟨h2,h3,h4,h5,h6,h7,h8,h9,h10,h11,h12⟩,k1,k3,hu,ha1,ha2⟩;obtain⟨k2,k4⟩:=Qcs.2 hu;refine⟨h1,h2,h3,h4,h5,h6,h7,h8,h9,h10,h11,h12,⟨k1,k2,k3,k4⟩,?_⟩;by_cases hp:s.phase≠1
  ·rw[if_pos hp,ha1 hp]; rfl
  ·rw[if_neg hp];obtain⟨q1,q2,q3,q4⟩:=ha2 (by simpa using hp);simp only[Bool.and_eq_true,decide_eq_true_eq];exact⟨by simp,q1,by omega,XaH.2 ⟨q4,q3,by simp⟩⟩
def QT(s:St):Int:=((s.s0.deck.length:Int)+s.s0.hand.length+s.s0.grave.length+s.s0.units.length)+(s.s1.deck.length+s.s1.hand.length+s.s1.grave.length+s.s1.units.length)
theorem Xbt{l:List Th}{a:Int}:fnd l a=none↔a∉l.map Th.id:=by
 rw[fnd,List.findIdx?_eq_none_iff];simp
def InS(s:St)(a k:Int):Prop:=(unitR s a).2.2=true∧(unitR s a).1=k
theorem inS0{s:St}{a:Int}:InS s a 0↔a∈s.s0.units.map Th.id:=by
 unfold InS unitR;have h:=Xbt (l:=s.s0.units) (a:=a);cases e:fnd s.s0.units a with
 |some k=>simp only[e] at h ⊢; simp at h ⊢; exact h
 |none=>
  simp only[e] at h ⊢;have h':=h.1 trivial;constructor
  ·intro hh;cases e1:fnd s.s1.units a with
   |some k=>rw[e1] at hh; have:=hh.2; simp at this
   |none=>rw[e1] at hh; have:=hh.1; simp at this
  ·intro hm; exact absurd hm h'
theorem inS1{s:St}{a:Int}:InS s a 1↔a∉s.s0.units.map Th.id∧a∈s.s1.units.map Th.id:=by
 unfold InS unitR;have h:=Xbt (l:=s.s0.units) (a:=a);have h1:=Xbt (l:=s.s1.units) (a:=a);cases e:fnd s.s0.units a with
 |some k=>
  simp only[e] at h ⊢;constructor
  ·intro hh; have:=hh.2; simp at this
  ·intro hh; have:=h.2 hh.1; simp at this
 |none=>
  simp only[e] at h ⊢;cases e1:fnd s.s1.units a with
  |some k=>simp only[e1] at h1 ⊢; simp at h h1 ⊢; exact⟨h,h1⟩
  |none=>
   simp only[e1] at h1 ⊢;constructor
   ·intro hh; have:=hh.1; simp at this
   ·intro hh; exact absurd hh.2 (h1.1 trivial)
theorem QbU{s t:St}(h:AtP s)(hm:0≤s.mover∧s.mover≤1)(e1:t.phase=s.phase)(e2:t.struck=s.struck)(e3:t.mover=s.mover)(hs:t.attack.Sublist s.attack)
 (k0:∀a∈t.attack,a∈s.s0.units.map Th.id→a∈t.s0.units.map Th.id)(k1:∀a∈t.attack,a∈s.s1.units.map Th.id→a∉s.s0.units.map Th.id→a∈t.s1.units.map Th.id∧a∉t.s0.units.map Th.id):AtP t:=by
 refine⟨λhp=>?_,λhp=>?_⟩
 ·have:=h.1 (by rw[←e1]; exact hp);rw[this] at hs;exact List.sublist_nil.1 hs
 ·obtain⟨q1,q2,q3,q4⟩:=h.2 (by rw[←e1]; exact hp);refine⟨by rw[e2]; exact q1,Nat.le_trans hs.length_le q2,q3.sublist hs,λa ha=>?_⟩;have hq:=q4 a (hs.subset ha);rw[e3];rcases (show s.mover=0∨s.mover=1 by omega) with e|e
  ·rw[e] at hq ⊢;exact inS0.2 (k0 a ha (inS0.1 hq))
  ·rw[e] at hq ⊢;obtain⟨r1,r2⟩:=inS1.1 hq;obtain⟨t1,t2⟩:=k1 a ha r2 r1;exact inS1.2 ⟨t2,t1⟩
theorem Xcm{l:List Th}{k:Nat}{u v:Th}(h:l[k]?=some u)(e:v.id=u.id):(l.set k v).map Th.id=l.map Th.id:=by
 rw[List.map_set,e];have hk:k<l.length:=(YLG h).1;have h2:(l.map Th.id)[k]?=some u.id:=by rw[List.getElem?_map,h]; rfl
 obtain⟨hk2,h3⟩:=YLG h2;rw[←h3,List.set_getElem_self]
theorem ZcH{n:Int}(h0:0≤n)(h1:n<13835058055282163712)(h:wIn (IntKind.i64.wrap n)=true):0≤IntKind.i64.wrap n:=by
 have hw:=Yct.1 h;simp only[IntKind.wrap,IntKind.signed,IntKind.bits] at hw ⊢;simp at hw ⊢;split at hw<;>split<;>omega
theorem XcW(n:Int):IntKind.i64.wrap n<9223372036854775808:=by
 simp only[IntKind.wrap,IntKind.signed,IntKind.bits];simp;split<;>omega
theorem YcM(n:Int):0≤cap4 n∧cap4 n≤4000000:=by unfold cap4; omega
theorem QaR{b:Bk}{n h:Int}{u:Th}(k:XH b n u=true)(h0:0≤h)(h1:h≤1000000):XH b n { u with harm:=h }=true:=by
 simp only[XH,Bool.and_eq_true,decide_eq_true_eq] at k ⊢;exact⟨k.1,k.2.1,k.2.2.1,h0,h1,k.2.2.2.2.2⟩
theorem QaA{b:Bk}{n:Int}{u:Th}(k:XH b n u=true):0≤u.harm∧u.harm≤1000000:=by
 simp only[XH,Bool.and_eq_true,decide_eq_true_eq] at k;exact⟨k.2.2.2.1,k.2.2.2.2.1⟩
theorem ZbG{l:List Th}{k:Nat}{v u:Th}(h:u∈l.set k v):u∈l∨u=v:=List.mem_or_eq_of_mem_set h
theorem Xbx{b:Bk}{s:St}(hM:MayP b s){k:Nat}{u:Th}(hk:s.s0.units[k]?=some u){h:Int}(h0:0≤h)(h1:h≤1000000):MayP b { s with s0:={ s.s0 with units:=s.s0.units.set k { u with harm:=h } } }∧QT { s with s0:={ s.s0 with units:=s.s0.units.set k { u with harm:=h } } }=QT s:=by
 have S:=hM.s0;have hu:u∈s.s0.units:=List.mem_of_getElem? hk;have hi:(s.s0.units.set k { u with harm:=h }).map Th.id=s.s0.units.map Th.id:=Xcm hk rfl;have N:SideP b { s.s0 with units:=s.s0.units.set k { u with harm:=h } }:=⟨S.life,S.mana,S.most,S.deck,S.hand,S.grave,S.told,by show (s.s0.units.set k _).length≤7; rw[List.length_set]; exact S.units⟩;refine⟨⟨hM.hd,N,hM.s1,⟨λv hv=>?_,?_⟩,?_⟩,?_⟩
 ·have hv:v∈(s.s0.units.set k { u with harm:=h })++s.s1.units:=hv;rcases List.mem_append.1 hv with hv|hv
  ·rcases ZbG hv with hv|rfl; exact hM.un.1 v (List.mem_append_left _ hv); exact QaR (hM.un.1 u (List.mem_append_left _ hu)) h0 h1
  ·exact hM.un.1 v (List.mem_append_right _ hv)
 ·have e:((s.s0.units.set k { u with harm:=h })++s.s1.units).map Th.id=(s.s0.units++s.s1.units).map Th.id:=by rw[List.map_append,List.map_append,hi]
  show (((s.s0.units.set k { u with harm:=h })++s.s1.units).map Th.id).Nodup;rw[e]; exact hM.un.2
 ·refine QbU hM.at_ ⟨hM.hd.2.2.1,hM.hd.2.2.2.1⟩ rfl rfl rfl (List.Sublist.refl _) (λa _ ha=>?_) (λa _ ha hn=>⟨?_,?_⟩)
  ·show a∈(s.s0.units.set k _).map Th.id; rw[hi]; exact ha
  ·exact ha
  ·show a∉(s.s0.units.set k _).map Th.id; rw[hi]; exact hn
 ·simp[QT]
theorem ZaM{b:Bk}{s:St}(hM:MayP b s){n:Int}(hw:wIn n=true):MayP b { s with s0:={ s.s0 with life:=n } }∧QT { s with s0:={ s.s0 with life:=n } }=QT s:=by
 have S:=hM.s0;exact⟨⟨hM.hd,⟨hw,S.mana,S.most,S.deck,S.hand,S.grave,S.told,S.units⟩,hM.s1,hM.un,hM.at_⟩,rfl⟩
theorem Qbx{b:Bk}{s:St}(hM:MayP b s){k:Nat}{u:Th}(hk:s.s1.units[k]?=some u){h:Int}(h0:0≤h)(h1:h≤1000000):MayP b { s with s1:={ s.s1 with units:=s.s1.units.set k { u with harm:=h } } }∧QT { s with s1:={ s.s1 with units:=s.s1.units.set k { u with harm:=h } } }=QT s:=by
 have S:=hM.s1;have hu:u∈s.s1.units:=List.mem_of_getElem? hk;have hi:(s.s1.units.set k { u with harm:=h }).map Th.id=s.s1.units.map Th.id:=Xcm hk rfl;have N:SideP b { s.s1 with units:=s.s1.units.set k { u with harm:=h } }:=⟨S.life,S.mana,S.most,S.deck,S.hand,S.grave,S.told,by show (s.s1.units.set k _).length≤7; rw[List.length_set]; exact S.units⟩;refine⟨⟨hM.hd,hM.s0,N,⟨λv hv=>?_,?_⟩,?_⟩,?_⟩
 ·have hv:v∈s.s0.units++(s.s1.units.set k { u with harm:=h }):=hv;rcases List.mem_append.1 hv with hv|hv
  ·exact hM.un.1 v (List.mem_append_left _ hv)
  ·rcases ZbG hv with hv|rfl; exact hM.un.1 v (List.mem_append_right _ hv); exact QaR (hM.un.1 u (List.mem_append_right _ hu)) h0 h1
 ·have e:(s.s0.units++(s.s1.units.set k { u with harm:=h })).map Th.id=(s.s0.units++s.s1.units).map Th.id:=by rw[List.map_append,List.map_append,hi]
  show ((s.s0.units++(s.s1.units.set k { u with harm:=h })).map Th.id).Nodup;rw[e]; exact hM.un.2
 ·refine QbU hM.at_ ⟨hM.hd.2.2.1,hM.hd.2.2.2.1⟩ rfl rfl rfl (List.Sublist.refl _) (λa _ ha=>?_) (λa _ ha hn=>⟨?_,?_⟩)
  ·exact ha
  ·show a∈(s.s1.units.set k _).map Th.id; rw[hi]; exact ha
  ·exact hn
 ·simp[QT]
theorem YaM{b:Bk}{s:St}(hM:MayP b s){n:Int}(hw:wIn n=true):MayP b { s with s1:={ s.s1 with life:=n } }∧QT { s with s1:={ s.s1 with life:=n } }=QT s:=by
 have S:=hM.s1;exact⟨⟨hM.hd,hM.s0,⟨hw,S.mana,S.most,S.deck,S.hand,S.grave,S.told,S.units⟩,hM.un,hM.at_⟩,rfl⟩
theorem ZbZ{b:Bk}{s:St}{kd id sd:Int}{fP:Int→Int×Int}{fU:Th→Int×Int}(hM:MayP b s)(hP:∀l,0≤(fP l).2)(hU:∀u,0≤u.harm→u.harm≤1000000→0≤(fU u).2∧(wIn (fU u).1=true→0≤(fU u).1))(h0:sd=0∨sd=1)(h:(chgF kd fP fU s id sd).2.2=0) :
  MayP b (chgF kd fP fU s id sd).1∧QT (chgF kd fP fU s id sd).1=QT s∧0≤(chgF kd fP fU s id sd).2.1.n:=by
 have z:∀(x:Int),x≠0→(zSt,zEv,x).2.2=0→False:=λx hx h=>hx h;unfold chgF at h ⊢;by_cases hid:id=0
 ·rw[if_pos hid] at h ⊢;unfold chgP at h ⊢;by_cases hw:wIn (fP (s.side sd).life).1=true
  ·rw[if_pos hw];rcases h0 with rfl|rfl
   ·exact⟨(ZaM hM hw).1,(ZaM hM hw).2,hP _⟩
   ·exact⟨(YaM hM hw).1,(YaM hM hw).2,hP _⟩
  ·rw[if_neg hw] at h; exact(z 171 (by decide) h).elim
 rw[if_neg hid] at h ⊢;by_cases hid2:id<0
 ·rw[if_pos hid2] at h; exact(z 4 (by decide) h).elim
 rw[if_neg hid2] at h ⊢;cases q0:fnd s.s0.units id with
 |some k=>
  obtain⟨u,hk,_⟩:=Xaw q0;rw[q0] at h;simp only[hk,Option.getD_some] at h ⊢;have hh:=QaA (hM.un.1 u (List.mem_append_left _ (List.mem_of_getElem? hk)));obtain⟨k1,k2⟩:=hU u hh.1 hh.2;unfold chgU at h ⊢;by_cases hw:wIn (fU u).1=true
  ·rw[if_pos hw];have:=Xbx hM hk (k2 hw) (Yct.1 hw).2;exact⟨this.1,this.2,k1⟩
  ·rw[if_neg hw] at h; exact(z 171 (by decide) h).elim
 |none=>
  rw[q0] at h;cases q1:fnd s.s1.units id with
  |none=>rw[q1] at h; exact(z 4 (by decide) h).elim
  |some k=>
   obtain⟨u,hk,_⟩:=Xaw q1;rw[q1] at h;simp only[hk,Option.getD_some] at h ⊢;have hh:=QaA (hM.un.1 u (List.mem_append_right _ (List.mem_of_getElem? hk)));obtain⟨k1,k2⟩:=hU u hh.1 hh.2;unfold chgU at h ⊢;by_cases hw:wIn (fU u).1=true
   ·rw[if_pos hw];have:=Qbx hM hk (k2 hw) (Yct.1 hw).2;exact⟨this.1,this.2,k1⟩
   ·rw[if_neg hw] at h; exact(z 171 (by decide) h).elim
theorem Yas{b:Bk}{s:St}{id sd n:Int}(hM:MayP b s)(h0:sd=0∨sd=1)(h:(harmF b s id sd n).2.2=0):MayP b (harmF b s id sd n).1∧QT (harmF b s id sd n).1=QT s∧0≤(harmF b s id sd n).2.1.n:=by
 refine ZbZ hM (λl=>(YcM n).1) (λu h1 h2=>?_) h0 h;have hh:0≤hurt b u (cap4 n)∧hurt b u (cap4 n)<9223372036854775808:=by
  unfold hurt;have:=XcW (cap4 n-Yad b u.card);omega
 exact⟨hh.1,λhw=>ZcH (by omega) (by omega) hw⟩
end Go.Ah.Tz
end
