/- Part of the proof that EffectCards holds of the program for arguments that together hold at most 1048576 values and letters; no other condition. -/
import Derived.Test.YtlpdgidfbmcomaaGreatDoorZ3
import Derived.Sort.OwnSortedInts
import Derived.Recover
set_option linter.all false
section
namespace Go.Ah.Tz
open Go.Proofs.Tryz (prog)
def efArm(cs:List Cd)(t:Bool)(d:Int)(x:Ef):Bool:=
 if x.op=0∨x.op=1 then sdOp x.who||(decide (x.who=2)&&t)
 else if x.op=2∨x.op=4∨x.op=6 then sdOp x.who
 else if x.op=3∨x.op=5 then decide (x.who=0)
 else if x.op=7 then decide (x.who=0)&&findC cs x.name true
 else if x.op=8 then decide (x.who=0)&&(cnOk cs t x.c&&(lstOk cs t (d+1) x.thn&&lstOk cs t (d+1) x.els))
 else false
theorem QcK(x:Ef):(decide (x.c.op=0)&&(decide (x.c.who=0)&&(x.c.name==[]&&decide (x.c.nums.length+x.c.kids.length+x.thn.length+x.els.length=0))))=(noCond x.c&&(decide (x.thn.length=0)&&decide (x.els.length=0))):=by
 grind [noCond]
theorem YdD(cs:List Cd)(t:Bool)(d:Int)(x:Ef):efOk cs t d x=((zeroB x&&(!cntOp x.op||nmOk t x.n))&&efArm cs t d x):=by
 rw[Zas,zeroB,QcK];by_cases hr:0≤x.op∧x.op≤8;rotate_left
 ·grind [efArm]
 obtain⟨r1,r2⟩:=hr;rw[decide_eq_true r1,decide_eq_true r2,Bool.true_and,Bool.true_and];generalize noCond x.c=b1;generalize decide (x.thn.length=0)=b2;generalize decide (x.els.length=0)=b3;generalize noNum x.n=b4;generalize nmOk t x.n=b5;generalize (x.name==[])=b6;unfold efArm efEnd efMid
 grind [cntOp]
attribute [local irreducible] Ans.rd Ans.pu Ans.wr Ans.dr Ans.gr Ans.gw Ans.gl Ans.gd Ans.opt joinK W
set_option maxHeartbeats 4000000
theorem ZdD(x:Ef):NmAt (efC x) (0+2) x.n:=nmAt2 x
theorem QdC(x:Ef):CnAt (efC x) (0+7) x.c:=cnAt7 x
theorem c157'(m:List (Tx×Bool))(cs:List Cd)(hU:Units m cs)(t:Bool):∀(k:Nat) (l:List Ef) (d:Int),SizeOf.sizeOf l≤k→lsFit l=true→0≤d→PC 78 [.rptr (chkM m t) 0,efV l,iv d] (.bool (lstOk cs t d l))
 |0,l,_,h,_,_=>by cases l<;>simp at h
 |k+1,l,d,hk,hf,hd=>by
  refine Qb hP g78.ok rfl rfl ?_;rw[H3.e]; unfold g78; dsimp only;have hlen:=XB hf;rw[bigE] at hlen;refine Za rfl (Za rfl ?_);refine QH rfl rfl ?_;refine Zb (λh=>?_) (λh=>?_)
  ·grind [lstOk]
  have h:l.length≤16∧d≤8:=by simp at h; omega
  have hl:lstOk cs t d l=efsOk cs t d l:=by simp[lstOk,h]
  rw[hl];clear hl;refine Za rfl ?_;refine Xj (ι:=Nat) (λi vs σ=>vs=[iv i]∧σ=[]∧i≤l.length∧efsOk cs t d l=efsOk cs t d (l.drop i)) (λi=>l.length-i) 0 ⟨rfl,rfl,by omega,by simp⟩ ?_;rintro i vs σ again ⟨rfl,rfl,hi,hu⟩ hag;refine Za rfl ?_;refine Zb (λh=>?_) (λh=>?_);rotate_left
  ·grind [efsOk]
  have hil:i<l.length:=by simpa using h
  have hdr:l.drop i=l[i]::l.drop (i+1):=by rw[YLD hil]
  rw[hdr,efsOk] at hu;have hm:l[i]∈l:=List.getElem_mem hil;have hsz:=List.sizeOf_lt_of_mem hm;have hfx:=YO hf hm;have ix:=λ(s:List ABlk)=>Yo s efC false false 14 l .i64 i hil;generalize l[i]=x at hu hsz hfx ix;have hs2:=X1 x;rename_i hd8;obtain⟨h16,h8⟩:=hd8;have go:∀c,c=efOk cs t d x→VV.rd (Za9 .not [.bool c] []) λt152=>VV.test t152 (AVal.bool false=AVal.bool (efsOk cs t d l)) (VV.rd (Yn .add false [iv i,(.int .i64 1)] []) λt153=>again [t153] []):=by
   rintro c hc;refine Za rfl ?_;rw[←hc] at hu;refine Zb (λh=>?_) (λh=>?_)
   ·simp_all
   ·have h:c=true:=by simpa using h
    rw[h,Bool.true_and] at hu;refine Za (Yh ..) ?_;rw[Qd (n:=i) (by omega)]
    grind
  have stop:efOk cs t d x=false→AVal.bool false=AVal.bool (efsOk cs t d l):=by
   intro he; rw[hu,he]; rfl
  clear hag hu;rw[YdD] at stop go;refine Za (ix _) ?_;refine Xb (c209 x hfx) rfl g108.ok.plain rfl ?_;have r1:∀K:AVal→List ABlk→Prop,K (.bool (zeroB x&&(!cntOp x.op||nmOk t x.n))) []→VV.gr (AVal.bool (zeroB x)) true (λk=>VV.rd (Z5 [(AVal.rptr (efC x) 0)] []) k) λt28_11=>VV.gr (AVal.bool (zeroB x)) true (λk=>VV.rd (Zh [t28_11] []) k) λt29_12=>VV.gr (AVal.bool (zeroB x)) true (λk=>VV.rd (Ze 0 [t29_12] []) k) λt30_13=>VV.gr (AVal.bool (zeroB x)) true (λk=>VV.rd (Xk false 1 [t30_13] []) k) λt31_14=>VV.gw (AVal.bool (zeroB x)) true (λk=>VV.call (.call 109) [t31_14] [] k) ([]:List ABlk) λt32_15 σ=>VV.gr (AVal.bool (zeroB x)) true (λk=>VV.rd (Za9 .not [t32_15] σ) k) λt33_16=>VV.gr (AVal.bool (zeroB x)) true (λk=>VV.rd (Z5 [t33_16] σ) k) λt34_17=>VV.gr t34_17 false (λk=>VV.rd (Z5 [(AVal.rptr (chkM m t) 0)] σ) k) λt35_18=>VV.gr t34_17 false (λk=>VV.rd (Z5 [(AVal.rptr (efC x) 0)] σ) k) λt36_19=>VV.gr t34_17 false (λk=>VV.rd (Zh [t36_19] σ) k) λt37_20=>VV.gr t34_17 false (λk=>VV.rd (Ze 2 [t37_20] σ) k) λt38_21=>VV.gw t34_17 false (λk=>VV.call (.call 110) [t35_18,t38_21] σ k) σ λt39_22 σ=>VV.gr (AVal.bool (zeroB x)) true (λk=>VV.rd (Xm [t34_17,(.bool true),t39_22] σ) k) λt40_23=>VV.rd (Xm [(AVal.bool (zeroB x)),t40_23,(.bool false)] σ) (λv=>K v σ):=by
   intro K hK;rcases YBE (zeroB x) with h|h
   rotate_left
   ·rw[h] at hK ⊢;repeat first|refine Ya ?_|refine Xa ?_|refine Qa rfl ?_|refine Yb rfl ?_|refine Zc rfl ?_|refine Xc rfl ?_|refine Za (ldr (efLd0 x)) ?_|refine Za (ldr (efLd1 x)) ?_|refine Za (ldr (efLd6 x)) ?_|refine Za (ldr (Yp x)) ?_|refine Za (ldr (Xp x)) ?_|refine Za (Xd ..) ?_|refine Za (Xe ..) ?_|refine Za (ldr (row:=chkM m t) rfl) ?_|refine Za (Qk ..) ?_|refine Za rfl ?_
    exact hK
   rw[h,Bool.true_and] at hK;rw[h];repeat first|refine Ya ?_|refine Xa ?_|refine Za (ldr (efLd0 x)) ?_|refine Za (ldr (efLd1 x)) ?_|refine Za (ldr (efLd6 x)) ?_|refine Za (ldr (Yp x)) ?_|refine Za (ldr (Xp x)) ?_|refine Za (Xd ..) ?_|refine Za (Xe ..) ?_|refine Za (ldr (row:=chkM m t) rfl) ?_|refine Za (Qk ..) ?_|refine Za rfl ?_
   refine Xb (c210 _) rfl g109.ok.plain rfl ?_;repeat first|refine Ya ?_|refine Xa ?_|refine Za (ldr (efLd0 x)) ?_|refine Za (ldr (efLd1 x)) ?_|refine Za (ldr (efLd6 x)) ?_|refine Za (ldr (Yp x)) ?_|refine Za (ldr (Xp x)) ?_|refine Za (Xd ..) ?_|refine Za (Xe ..) ?_|refine Za (ldr (row:=chkM m t) rfl) ?_|refine Za (Qk ..) ?_|refine Za rfl ?_
   rcases YBE (!cntOp x.op) with h2|h2
   ·rw[h2] at hK ⊢;repeat first|refine Ya ?_|refine Xa ?_|refine Qa rfl ?_|refine Yb rfl ?_|refine Zc rfl ?_|refine Xc rfl ?_|refine Za (ldr (efLd0 x)) ?_|refine Za (ldr (efLd1 x)) ?_|refine Za (ldr (efLd6 x)) ?_|refine Za (ldr (Yp x)) ?_|refine Za (ldr (Xp x)) ?_|refine Za (Xd ..) ?_|refine Za (Xe ..) ?_|refine Za (ldr (row:=chkM m t) rfl) ?_|refine Za (Qk ..) ?_|refine Za rfl ?_
    exact hK
   rw[h2,Bool.false_or] at hK;rw[h2];repeat first|refine Ya ?_|refine Xa ?_|refine Za (ldr (efLd0 x)) ?_|refine Za (ldr (efLd1 x)) ?_|refine Za (ldr (efLd6 x)) ?_|refine Za (ldr (Yp x)) ?_|refine Za (ldr (Xp x)) ?_|refine Za (Xd ..) ?_|refine Za (Xe ..) ?_|refine Za (ldr (row:=chkM m t) rfl) ?_|refine Za (Qk ..) ?_|refine Za rfl ?_
   refine Xb (c211 _ t x.n _ _ (ZdD x) (Z4 hfx)) rfl g110.ok.plain rfl ?_;repeat first|refine Ya ?_|refine Xa ?_|refine Za (ldr (efLd0 x)) ?_|refine Za (ldr (efLd1 x)) ?_|refine Za (ldr (efLd6 x)) ?_|refine Za (ldr (Yp x)) ?_|refine Za (ldr (Xp x)) ?_|refine Za (Xd ..) ?_|refine Za (Xe ..) ?_|refine Za (ldr (row:=chkM m t) rfl) ?_|refine Za (Qk ..) ?_|refine Za rfl ?_
   exact hK
  refine r1 _ ?_;clear r1;generalize (zeroB x&&(!cntOp x.op||nmOk t x.n))=z at go stop ⊢;repeat first|refine Za (ldr (efLd0 x)) ?_|refine Za (ldr (efLd1 x)) ?_|refine Za (ldr (efLd6 x)) ?_|refine Za (ldr (Yp x)) ?_|refine Za (ldr (Xp x)) ?_|refine Za (Xd ..) ?_|refine Za (Xe ..) ?_|refine Za (ldr (row:=chkM m t) rfl) ?_|refine Za (Qk ..) ?_|refine Za rfl ?_
  refine Zi λk28 hk28=>?_;have kk:∀c,c=(z&&efArm cs t d x)→k28 [.bool c] []:=by
   simp_all
  clear hk28 go;repeat first|refine Za (ldr (efLd0 x)) ?_|refine Za (ldr (efLd1 x)) ?_|refine Za (ldr (efLd6 x)) ?_|refine Za (ldr (Yp x)) ?_|refine Za (ldr (Xp x)) ?_|refine Za (Xd ..) ?_|refine Za (Xe ..) ?_|refine Za (ldr (row:=chkM m t) rfl) ?_|refine Za (Qk ..) ?_|refine Za rfl ?_
  refine Zi λk1 hk1=>?_;have m1:∀c,c=decide (x.op=0∨x.op=1)→k1 [.bool c] []:=by
   rintro c hc;rw[hk1]; clear hk1 k1;refine Zb (λh=>?_) (λh=>?_)
   ·rw[h] at hc;have a1:x.op=0∨x.op=1:=by simpa using hc.symm
    have e:efArm cs t d x=(sdOp x.who||(decide (x.who=2)&&t)):=by rw[efArm,if_pos a1]
    rw[e] at kk;cases z with
    |false=>
     repeat first|refine Ya ?_|refine Xa ?_|refine Qa rfl ?_|refine Yb rfl ?_|refine Zc rfl ?_|refine Xc rfl ?_|refine Za (ldr (efLd0 x)) ?_|refine Za (ldr (efLd1 x)) ?_|refine Za (ldr (efLd6 x)) ?_|refine Za (ldr (Yp x)) ?_|refine Za (ldr (Xp x)) ?_|refine Za (Xd ..) ?_|refine Za (Xe ..) ?_|refine Za (ldr (row:=chkM m t) rfl) ?_|refine Za (Qk ..) ?_|refine Za rfl ?_
     exact kk _ rfl
    |true=>
     repeat first|refine Ya ?_|refine Xa ?_|refine Za (ldr (efLd0 x)) ?_|refine Za (ldr (efLd1 x)) ?_|refine Za (ldr (efLd6 x)) ?_|refine Za (ldr (Yp x)) ?_|refine Za (ldr (Xp x)) ?_|refine Za (Xd ..) ?_|refine Za (Xe ..) ?_|refine Za (ldr (row:=chkM m t) rfl) ?_|refine Za (Qk ..) ?_|refine Za rfl ?_
     refine Xb (c212 _) rfl g111.ok.plain rfl ?_;repeat first|refine Ya ?_|refine Xa ?_|refine Za (ldr (efLd0 x)) ?_|refine Za (ldr (efLd1 x)) ?_|refine Za (ldr (efLd6 x)) ?_|refine Za (ldr (Yp x)) ?_|refine Za (ldr (Xp x)) ?_|refine Za (Xd ..) ?_|refine Za (Xe ..) ?_|refine Za (ldr (row:=chkM m t) rfl) ?_|refine Za (Qk ..) ?_|refine Za rfl ?_
     rcases YBE (sdOp x.who) with h2|h2
     ·rw[h2] at kk ⊢;repeat first|refine Ya ?_|refine Xa ?_|refine Qa rfl ?_|refine Yb rfl ?_|refine Zc rfl ?_|refine Xc rfl ?_|refine Za (ldr (efLd0 x)) ?_|refine Za (ldr (efLd1 x)) ?_|refine Za (ldr (efLd6 x)) ?_|refine Za (ldr (Yp x)) ?_|refine Za (ldr (Xp x)) ?_|refine Za (Xd ..) ?_|refine Za (Xe ..) ?_|refine Za (ldr (row:=chkM m t) rfl) ?_|refine Za (Qk ..) ?_|refine Za rfl ?_
      exact kk _ rfl
     rw[h2] at kk ⊢;repeat first|refine Ya ?_|refine Xa ?_|refine Za (ldr (efLd0 x)) ?_|refine Za (ldr (efLd1 x)) ?_|refine Za (ldr (efLd6 x)) ?_|refine Za (ldr (Yp x)) ?_|refine Za (ldr (Xp x)) ?_|refine Za (Xd ..) ?_|refine Za (Xe ..) ?_|refine Za (ldr (row:=chkM m t) rfl) ?_|refine Za (Qk ..) ?_|refine Za rfl ?_
     rcases YBE (decide (x.who=2)) with h3|h3
     ·rw[h3] at kk ⊢;repeat first|refine Ya ?_|refine Xa ?_|refine Za (ldr (efLd0 x)) ?_|refine Za (ldr (efLd1 x)) ?_|refine Za (ldr (efLd6 x)) ?_|refine Za (ldr (Yp x)) ?_|refine Za (ldr (Xp x)) ?_|refine Za (Xd ..) ?_|refine Za (Xe ..) ?_|refine Za (ldr (row:=chkM m t) rfl) ?_|refine Za (Qk ..) ?_|refine Za rfl ?_
      exact kk _ (by simp)
     rw[h3] at kk ⊢;repeat first|refine Ya ?_|refine Xa ?_|refine Qa rfl ?_|refine Yb rfl ?_|refine Zc rfl ?_|refine Xc rfl ?_|refine Za (ldr (efLd0 x)) ?_|refine Za (ldr (efLd1 x)) ?_|refine Za (ldr (efLd6 x)) ?_|refine Za (ldr (Yp x)) ?_|refine Za (ldr (Xp x)) ?_|refine Za (Xd ..) ?_|refine Za (Xe ..) ?_|refine Za (ldr (row:=chkM m t) rfl) ?_|refine Za (Qk ..) ?_|refine Za rfl ?_
     exact kk _ (by simp)
   rw[h] at hc;have a1:¬(x.op=0∨x.op=1):=by simpa using hc.symm
   repeat first|refine Za (ldr (efLd0 x)) ?_|refine Za (ldr (efLd1 x)) ?_|refine Za (ldr (efLd6 x)) ?_|refine Za (ldr (Yp x)) ?_|refine Za (ldr (Xp x)) ?_|refine Za (Xd ..) ?_|refine Za (Xe ..) ?_|refine Za (ldr (row:=chkM m t) rfl) ?_|refine Za (Qk ..) ?_|refine Za rfl ?_
   refine Zi λk1 hk1=>?_;have m2:∀c,c=decide (x.op=2∨x.op=4∨x.op=6)→k1 [.bool c] []:=by
    rintro c hc;rw[hk1]; clear hk1 k1;refine Zb (λh=>?_) (λh=>?_)
    ·rw[h] at hc;have a2:x.op=2∨x.op=4∨x.op=6:=by simpa using hc.symm
     have e:efArm cs t d x=sdOp x.who:=by rw[efArm,if_neg a1,if_pos a2]
     rw[e] at kk;cases z with
     |false=>
      repeat first|refine Ya ?_|refine Xa ?_|refine Qa rfl ?_|refine Yb rfl ?_|refine Zc rfl ?_|refine Xc rfl ?_|refine Za (ldr (efLd0 x)) ?_|refine Za (ldr (efLd1 x)) ?_|refine Za (ldr (efLd6 x)) ?_|refine Za (ldr (Yp x)) ?_|refine Za (ldr (Xp x)) ?_|refine Za (Xd ..) ?_|refine Za (Xe ..) ?_|refine Za (ldr (row:=chkM m t) rfl) ?_|refine Za (Qk ..) ?_|refine Za rfl ?_
      exact kk _ rfl
     |true=>
      repeat first|refine Ya ?_|refine Xa ?_|refine Za (ldr (efLd0 x)) ?_|refine Za (ldr (efLd1 x)) ?_|refine Za (ldr (efLd6 x)) ?_|refine Za (ldr (Yp x)) ?_|refine Za (ldr (Xp x)) ?_|refine Za (Xd ..) ?_|refine Za (Xe ..) ?_|refine Za (ldr (row:=chkM m t) rfl) ?_|refine Za (Qk ..) ?_|refine Za rfl ?_
      refine Xb (c212 _) rfl g111.ok.plain rfl ?_;repeat first|refine Ya ?_|refine Xa ?_|refine Za (ldr (efLd0 x)) ?_|refine Za (ldr (efLd1 x)) ?_|refine Za (ldr (efLd6 x)) ?_|refine Za (ldr (Yp x)) ?_|refine Za (ldr (Xp x)) ?_|refine Za (Xd ..) ?_|refine Za (Xe ..) ?_|refine Za (ldr (row:=chkM m t) rfl) ?_|refine Za (Qk ..) ?_|refine Za rfl ?_
      exact kk _ (by simp)
    rw[h] at hc;have a2:¬(x.op=2∨x.op=4∨x.op=6):=by simpa using hc.symm
    repeat first|refine Za (ldr (efLd0 x)) ?_|refine Za (ldr (efLd1 x)) ?_|refine Za (ldr (efLd6 x)) ?_|refine Za (ldr (Yp x)) ?_|refine Za (ldr (Xp x)) ?_|refine Za (Xd ..) ?_|refine Za (Xe ..) ?_|refine Za (ldr (row:=chkM m t) rfl) ?_|refine Za (Qk ..) ?_|refine Za rfl ?_
    refine Zi λk1 hk1=>?_;have m3:∀c,c=decide (x.op=3∨x.op=5)→k1 [.bool c] []:=by
     rintro c hc;rw[hk1]; clear hk1 k1;refine Zb (λh=>?_) (λh=>?_)
     ·rw[h] at hc;have a3:x.op=3∨x.op=5:=by simpa using hc.symm
      have e:efArm cs t d x=decide (x.who=0):=by grind [efArm]
      rw[e] at kk;cases z with
      |false=>
       repeat first|refine Ya ?_|refine Xa ?_|refine Qa rfl ?_|refine Yb rfl ?_|refine Zc rfl ?_|refine Xc rfl ?_|refine Za (ldr (efLd0 x)) ?_|refine Za (ldr (efLd1 x)) ?_|refine Za (ldr (efLd6 x)) ?_|refine Za (ldr (Yp x)) ?_|refine Za (ldr (Xp x)) ?_|refine Za (Xd ..) ?_|refine Za (Xe ..) ?_|refine Za (ldr (row:=chkM m t) rfl) ?_|refine Za (Qk ..) ?_|refine Za rfl ?_
       exact kk _ rfl
      |true=>
       repeat first|refine Ya ?_|refine Xa ?_|refine Za (ldr (efLd0 x)) ?_|refine Za (ldr (efLd1 x)) ?_|refine Za (ldr (efLd6 x)) ?_|refine Za (ldr (Yp x)) ?_|refine Za (ldr (Xp x)) ?_|refine Za (Xd ..) ?_|refine Za (Xe ..) ?_|refine Za (ldr (row:=chkM m t) rfl) ?_|refine Za (Qk ..) ?_|refine Za rfl ?_
       exact kk _ (by simp)
     rw[h] at hc;have a3:¬(x.op=3∨x.op=5):=by simpa using hc.symm
     repeat first|refine Za (ldr (efLd0 x)) ?_|refine Za (ldr (efLd1 x)) ?_|refine Za (ldr (efLd6 x)) ?_|refine Za (ldr (Yp x)) ?_|refine Za (ldr (Xp x)) ?_|refine Za (Xd ..) ?_|refine Za (Xe ..) ?_|refine Za (ldr (row:=chkM m t) rfl) ?_|refine Za (Qk ..) ?_|refine Za rfl ?_
     refine Zb (λa7=>?_) (λa7=>?_)
     ·have a7:x.op=7:=by simpa using a7
      have e:efArm cs t d x=(decide (x.who=0)&&(tlook x.name m).getD false):=by
       rw[efArm,if_neg a1,if_neg a2,if_neg a3,if_pos a7,hU];cases tlook x.name m<;>simp
      rw[e] at kk;cases z with
      |false=>
       repeat first|refine Ya ?_|refine Xa ?_|refine Qa rfl ?_|refine Yb rfl ?_|refine Zc rfl ?_|refine Xc rfl ?_|refine Za (ldr (efLd0 x)) ?_|refine Za (ldr (efLd1 x)) ?_|refine Za (ldr (efLd6 x)) ?_|refine Za (ldr (Yp x)) ?_|refine Za (ldr (Xp x)) ?_|refine Za (Xd ..) ?_|refine Za (Xe ..) ?_|refine Za (ldr (row:=chkM m t) rfl) ?_|refine Za (Qk ..) ?_|refine Za rfl ?_
       exact kk _ rfl
      |true=>
       repeat first|refine Ya ?_|refine Xa ?_|refine Za (ldr (efLd0 x)) ?_|refine Za (ldr (efLd1 x)) ?_|refine Za (ldr (efLd6 x)) ?_|refine Za (ldr (Yp x)) ?_|refine Za (ldr (Xp x)) ?_|refine Za (Xd ..) ?_|refine Za (Xe ..) ?_|refine Za (ldr (row:=chkM m t) rfl) ?_|refine Za (Qk ..) ?_|refine Za rfl ?_
       rcases YBE (decide (x.who=0)) with h3|h3
       ·rw[h3] at kk ⊢;repeat first|refine Ya ?_|refine Xa ?_|refine Za (ldr (efLd0 x)) ?_|refine Za (ldr (efLd1 x)) ?_|refine Za (ldr (efLd6 x)) ?_|refine Za (ldr (Yp x)) ?_|refine Za (ldr (Xp x)) ?_|refine Za (Xd ..) ?_|refine Za (Xe ..) ?_|refine Za (ldr (row:=chkM m t) rfl) ?_|refine Za (Qk ..) ?_|refine Za rfl ?_
        exact kk _ (by simp)
       rw[h3] at kk ⊢;repeat first|refine Ya ?_|refine Xa ?_|refine Qa rfl ?_|refine Yb rfl ?_|refine Zc rfl ?_|refine Xc rfl ?_|refine Za (ldr (efLd0 x)) ?_|refine Za (ldr (efLd1 x)) ?_|refine Za (ldr (efLd6 x)) ?_|refine Za (ldr (Yp x)) ?_|refine Za (ldr (Xp x)) ?_|refine Za (Xd ..) ?_|refine Za (Xe ..) ?_|refine Za (ldr (row:=chkM m t) rfl) ?_|refine Za (Qk ..) ?_|refine Za rfl ?_
       exact kk _ (by simp)
     have a7:x.op≠7:=by simpa using a7
     repeat first|refine Za (ldr (efLd0 x)) ?_|refine Za (ldr (efLd1 x)) ?_|refine Za (ldr (efLd6 x)) ?_|refine Za (ldr (Yp x)) ?_|refine Za (ldr (Xp x)) ?_|refine Za (Xd ..) ?_|refine Za (Xe ..) ?_|refine Za (ldr (row:=chkM m t) rfl) ?_|refine Za (Qk ..) ?_|refine Za rfl ?_
     refine Zb (λa8=>?_) (λa8=>?_);rotate_left
     ·grind [efArm]
     have a8:x.op=8:=by simpa using a8
     have e:efArm cs t d x=(decide (x.who=0)&&(cnOk cs t x.c&&(lstOk cs t (d+1) x.thn&&lstOk cs t (d+1) x.els))):=by
      grind [efArm]
     rw[e] at kk;have hw:IntKind.i64.wrap (d+1)=d+1:=wrapI (by omega) (by omega);cases z with
     |false=>
      repeat first|refine Ya ?_|refine Xa ?_|refine Qa rfl ?_|refine Yb rfl ?_|refine Zc rfl ?_|refine Xc rfl ?_|refine Za (ldr (efLd0 x)) ?_|refine Za (ldr (efLd1 x)) ?_|refine Za (ldr (efLd6 x)) ?_|refine Za (ldr (Yp x)) ?_|refine Za (ldr (Xp x)) ?_|refine Za (Xd ..) ?_|refine Za (Xe ..) ?_|refine Za (ldr (row:=chkM m t) rfl) ?_|refine Za (Qk ..) ?_|refine Za rfl ?_
      exact kk _ rfl
     |true=>
      repeat first|refine Ya ?_|refine Xa ?_|refine Za (ldr (efLd0 x)) ?_|refine Za (ldr (efLd1 x)) ?_|refine Za (ldr (efLd6 x)) ?_|refine Za (ldr (Yp x)) ?_|refine Za (ldr (Xp x)) ?_|refine Za (Xd ..) ?_|refine Za (Xe ..) ?_|refine Za (ldr (row:=chkM m t) rfl) ?_|refine Za (Qk ..) ?_|refine Za rfl ?_
      rcases YBE (decide (x.who=0)) with h3|h3
      rotate_left
      ·rw[h3] at kk ⊢;repeat first|refine Ya ?_|refine Xa ?_|refine Qa rfl ?_|refine Yb rfl ?_|refine Zc rfl ?_|refine Xc rfl ?_|refine Za (ldr (efLd0 x)) ?_|refine Za (ldr (efLd1 x)) ?_|refine Za (ldr (efLd6 x)) ?_|refine Za (ldr (Yp x)) ?_|refine Za (ldr (Xp x)) ?_|refine Za (Xd ..) ?_|refine Za (Xe ..) ?_|refine Za (ldr (row:=chkM m t) rfl) ?_|refine Za (Qk ..) ?_|refine Za rfl ?_
       exact kk _ (by simp)
      rw[h3] at kk ⊢;repeat first|refine Ya ?_|refine Xa ?_|refine Za (ldr (efLd0 x)) ?_|refine Za (ldr (efLd1 x)) ?_|refine Za (ldr (efLd6 x)) ?_|refine Za (ldr (Yp x)) ?_|refine Za (ldr (Xp x)) ?_|refine Za (Xd ..) ?_|refine Za (Xe ..) ?_|refine Za (ldr (row:=chkM m t) rfl) ?_|refine Za (Qk ..) ?_|refine Za rfl ?_
      refine Xb (c213 m cs hU t x.c _ _ (QdC x) (ZZ hfx)) rfl g112.ok.plain rfl ?_;repeat first|refine Ya ?_|refine Xa ?_|refine Za (ldr (efLd0 x)) ?_|refine Za (ldr (efLd1 x)) ?_|refine Za (ldr (efLd6 x)) ?_|refine Za (ldr (Yp x)) ?_|refine Za (ldr (Xp x)) ?_|refine Za (Xd ..) ?_|refine Za (Xe ..) ?_|refine Za (ldr (row:=chkM m t) rfl) ?_|refine Za (Qk ..) ?_|refine Za rfl ?_
      rcases YBE (cnOk cs t x.c) with h4|h4
      rotate_left
      ·rw[h4] at kk ⊢;repeat first|refine Ya ?_|refine Xa ?_|refine Qa rfl ?_|refine Yb rfl ?_|refine Zc rfl ?_|refine Xc rfl ?_|refine Za (ldr (efLd0 x)) ?_|refine Za (ldr (efLd1 x)) ?_|refine Za (ldr (efLd6 x)) ?_|refine Za (ldr (Yp x)) ?_|refine Za (ldr (Xp x)) ?_|refine Za (Xd ..) ?_|refine Za (Xe ..) ?_|refine Za (ldr (row:=chkM m t) rfl) ?_|refine Za (Qk ..) ?_|refine Za rfl ?_
       exact kk _ (by simp)
      rw[h4] at kk ⊢;repeat first|refine Ya ?_|refine Xa ?_|refine Za (ldr (efLd0 x)) ?_|refine Za (ldr (efLd1 x)) ?_|refine Za (ldr (efLd6 x)) ?_|refine Za (ldr (Yp x)) ?_|refine Za (ldr (Xp x)) ?_|refine Za (Xd ..) ?_|refine Za (Xe ..) ?_|refine Za (ldr (row:=chkM m t) rfl) ?_|refine Za (Qk ..) ?_|refine Za rfl ?_
      rw[hw];refine Xb (c157' m cs hU t k x.thn (d+1) (by omega) (YJ hfx) (by omega)) rfl g78.ok.plain rfl ?_;repeat first|refine Ya ?_|refine Xa ?_|refine Za (ldr (efLd0 x)) ?_|refine Za (ldr (efLd1 x)) ?_|refine Za (ldr (efLd6 x)) ?_|refine Za (ldr (Yp x)) ?_|refine Za (ldr (Xp x)) ?_|refine Za (Xd ..) ?_|refine Za (Xe ..) ?_|refine Za (ldr (row:=chkM m t) rfl) ?_|refine Za (Qk ..) ?_|refine Za rfl ?_
      rcases YBE (lstOk cs t (d+1) x.thn) with h5|h5
      rotate_left
      ·rw[h5] at kk ⊢;repeat first|refine Ya ?_|refine Xa ?_|refine Qa rfl ?_|refine Yb rfl ?_|refine Zc rfl ?_|refine Xc rfl ?_|refine Za (ldr (efLd0 x)) ?_|refine Za (ldr (efLd1 x)) ?_|refine Za (ldr (efLd6 x)) ?_|refine Za (ldr (Yp x)) ?_|refine Za (ldr (Xp x)) ?_|refine Za (Xd ..) ?_|refine Za (Xe ..) ?_|refine Za (ldr (row:=chkM m t) rfl) ?_|refine Za (Qk ..) ?_|refine Za rfl ?_
       exact kk _ (by simp)
      rw[h5] at kk ⊢;repeat first|refine Ya ?_|refine Xa ?_|refine Za (ldr (efLd0 x)) ?_|refine Za (ldr (efLd1 x)) ?_|refine Za (ldr (efLd6 x)) ?_|refine Za (ldr (Yp x)) ?_|refine Za (ldr (Xp x)) ?_|refine Za (Xd ..) ?_|refine Za (Xe ..) ?_|refine Za (ldr (row:=chkM m t) rfl) ?_|refine Za (Qk ..) ?_|refine Za rfl ?_
      rw[hw];refine Xb (c157' m cs hU t k x.els (d+1) (by omega) (ZJ hfx) (by omega)) rfl g78.ok.plain rfl ?_;repeat first|refine Ya ?_|refine Xa ?_|refine Za (ldr (efLd0 x)) ?_|refine Za (ldr (efLd1 x)) ?_|refine Za (ldr (efLd6 x)) ?_|refine Za (ldr (Yp x)) ?_|refine Za (ldr (Xp x)) ?_|refine Za (Xd ..) ?_|refine Za (Xe ..) ?_|refine Za (ldr (row:=chkM m t) rfl) ?_|refine Za (Qk ..) ?_|refine Za rfl ?_
      exact kk _ (by simp)
    clear hk1;refine Zb (λc1=>m3 _ ?_) (λc1=>?_)
    ·simp at c1; simp[c1]
    refine Za (Xd ..) (m3 _ ?_);simp at c1; simp[c1]
   clear hk1;refine Zb (λc1=>m2 _ ?_) (λc1=>?_)
   ·simp at c1; simp[c1]
   refine Za (Xd ..) (Zb (λc2=>m2 _ ?_) (λc2=>?_))
   ·simp at c2; simp[c2]
   refine Za (Xd ..) (m2 _ ?_);simp at c1 c2; simp[c1,c2]
  clear hk1;refine Zb (λc1=>m1 _ ?_) (λc1=>?_)
  ·simp at c1; simp[c1]
  refine Za (Xd ..) (m1 _ ?_);simp at c1; simp[c1]
theorem c157(m:List (Tx×Bool))(cs:List Cd)(hU:Units m cs)(t:Bool)(l:List Ef)(d:Int)(hf:lsFit l=true)(hd:0≤d):PC 78 [.rptr (chkM m t) 0,efV l,iv d] (.bool (lstOk cs t d l)):=c157' m cs hU t _ l d (Nat.le_refl _) hf hd
end Go.Ah.Tz
end
section
namespace Go.Ah.Tz
open Go.Proofs.Tryz (prog)
attribute [local irreducible] Ans.rd Ans.pu Ans.wr Ans.dr Ans.gr Ans.gw Ans.gl Ans.gd Ans.opt joinK W
set_option maxHeartbeats 2000000
theorem c221(m:List (Tx×Bool))(cs:List Cd)(hU:Units m cs)(c:Cd)(hf:cdFit c=true)
 (h223:PC 76 [.str c.name] (.bool (nameOk c.name)))(h124:PC 77 [.agg (cdC c)] (iv (cdW c))) :
  PC 49 [.rptr (cdC c) 0,.rmap (mpE m)] (.bool (cdOk cs c)):=by
 simp only[cdFit,Bool.and_eq_true,decide_eq_true_eq] at hf;obtain⟨f0,f1,f2,f3⟩:=hf;have bad:cdOk cs c=false→AVal.bool false=AVal.bool (cdOk cs c):=λh=>by rw[h]
 refine Qb hP g49.ok rfl rfl ?_;rw[H2.e]; unfold g49; dsimp only;repeat first|refine Za (ldr (row:=cdC c) rfl) ?_|refine Za rfl ?_
 refine XM 7 ?_;refine Yl (Za rfl (Qc (Za rfl (Za rfl (QH rfl rfl (Zb (λh=>bad ?_) (λb1=>Za rfl ?_)))))))
 ·have:in999 c.cost=false:=by
   rw[Bool.eq_false_iff]; intro hh; simp[in999] at hh; simp at h; omega
  simp[cdOk,this]
 have b1:0≤c.cost∧c.cost≤999:=by simp at b1; omega
 refine Yl (Za rfl (Qc (Za rfl (Za rfl (QH rfl rfl (Zb (λh=>bad ?_) (λb2=>Za rfl ?_)))))))
 ·have:in999 c.power=false:=by
   rw[Bool.eq_false_iff]; intro hh; simp[in999] at hh; simp at h; omega
  simp[cdOk,this]
 have b2:0≤c.power∧c.power≤999:=by simp at b2; omega
 refine Yl (Za rfl (Qc (Za rfl (Za rfl (QH rfl rfl (Zb (λh=>bad ?_) (λb3=>Za rfl ?_)))))))
 ·have:in999 c.health=false:=by
   rw[Bool.eq_false_iff]; intro hh; simp[in999] at hh; simp at h; omega
  simp[cdOk,this]
 have b3:0≤c.health∧c.health≤999:=by simp at b3; omega
 refine Yl (Za rfl (Qc (Za rfl (Za rfl (QH rfl rfl (Zb (λh=>bad ?_) (λb4=>Za rfl ?_)))))))
 ·have:in999 c.shield=false:=by
   rw[Bool.eq_false_iff]; intro hh; simp[in999] at hh; simp at h; omega
  simp[cdOk,this]
 have b4:0≤c.shield∧c.shield≤999:=by simp at b4; omega
 refine Yl (Za rfl (Qc (Za rfl (Za rfl (QH rfl rfl (Zb (λh=>bad ?_) (λb5=>Za rfl ?_)))))))
 ·have:in999 c.aurap=false:=by
   rw[Bool.eq_false_iff]; intro hh; simp[in999] at hh; simp at h; omega
  simp[cdOk,this]
 have b5:0≤c.aurap∧c.aurap≤999:=by simp at b5; omega
 refine Yl (Za rfl (Qc (Za rfl (Za rfl (QH rfl rfl (Zb (λh=>bad ?_) (λb6=>Za rfl ?_)))))))
 ·have:in999 c.aurah=false:=by
   rw[Bool.eq_false_iff]; intro hh; simp[in999] at hh; simp at h; omega
  simp[cdOk,this]
 have b6:0≤c.aurah∧c.aurah≤999:=by simp at b6; omega
 refine Yl (Za rfl (Yd ?_));have hok:cdOk cs c=(nameOk c.name&&(decide (cdW c≤200)&&(cdSum c&&(lstOk cs true 1 c.played&&(lstOk cs false 1 c.dead&&lstOk cs false 1 c.dawn))))):=by
  have e1:in999 c.cost=true:=by simp[in999]; omega
  have e2:in999 c.power=true:=by simp[in999]; omega
  have e3:in999 c.health=true:=by simp[in999]; omega
  have e4:in999 c.shield=true:=by simp[in999]; omega
  have e5:in999 c.aurap=true:=by simp[in999]; omega
  have e6:in999 c.aurah=true:=by simp[in999]; omega
  simp only[cdOk,e1,e2,e3,e4,e5,e6,Bool.true_and];generalize decide (cdW c≤200)=w;cases w<;>simp
 rw[hok] at bad ⊢;clear hok;repeat first|refine Za (ldr (row:=cdC c) rfl) ?_|refine Za rfl ?_
 refine Xb h223 rfl g76.ok.plain rfl ?_;refine Za rfl ?_;refine Zi λk33 hk33=>?_;have kk1:(nameOk c.name&&(decide (cdW c≤200)&&(cdSum c&&(lstOk cs true 1 c.played&&(lstOk cs false 1 c.dead&&lstOk cs false 1 c.dawn)))))=false→k33 [.bool true] []:=by
  intro h;rw[hk33];exact Qc (bad h)
 have kk2:nameOk c.name=true→cdW c≤200→(c.unit=true→1≤c.health)→k33 [.bool false] []:=by
  intro n1 n2 n3;rw[hk33]; clear hk33 kk1 k33;rw[n1,decide_eq_true n2,Bool.true_and,Bool.true_and] at bad ⊢;refine Yd ?_;repeat first|refine Za (ldr (row:=cdC c) rfl) ?_|refine Za rfl ?_
  apply cutF (cdSum c=true)
  ·intro hR;cases hu:c.unit with
   |true=>
    repeat first|refine Ya ?_|refine Xa ?_|refine Qa rfl ?_|refine Yb rfl ?_|refine Zc rfl ?_|refine Xc rfl ?_|refine Za (ldr (row:=cdC c) rfl) ?_|refine Za rfl ?_
    refine Yd (hR ?_);simp[cdSum,hu,n3 hu]
   |false=>
    repeat first|refine Ya ?_|refine Xa ?_|refine Qa rfl ?_|refine Yb rfl ?_|refine Zc rfl ?_|refine Xc rfl ?_|refine Za (ldr (row:=cdC c) rfl) ?_|refine Za rfl ?_
    rw[wrapI (n:=c.power+c.health) (by omega) (by omega),wrapI (n:=c.power+c.health+c.shield) (by omega) (by omega),wrapI (n:=c.power+c.health+c.shield+c.aurap) (by omega) (by omega),wrapI (n:=c.power+c.health+c.shield+c.aurap+c.aurah) (by omega) (by omega)];rcases YBE (decide (c.power+c.health+c.shield+c.aurap+c.aurah>0)) with h|h
    ·rw[h];repeat first|refine Ya ?_|refine Xa ?_|refine Qa rfl ?_|refine Yb rfl ?_|refine Zc rfl ?_|refine Xc rfl ?_|refine Za (ldr (row:=cdC c) rfl) ?_|refine Za rfl ?_
     refine Qc (bad ?_);have h:¬(c.power+c.health+c.shield+c.aurap+c.aurah≤0):=by simp at h; omega
     simp[cdSum,hu,h]
    rw[h];repeat first|refine Ya ?_|refine Xa ?_|refine Za (ldr (row:=cdC c) rfl) ?_|refine Za rfl ?_
    have h:(c.power+c.health+c.shield+c.aurap+c.aurah≤0):=by simp at h; omega
    have l1:=XB f2;have l2:=XB f3;rw[bigE] at l1 l2;rw[List.length_map,List.length_map,wrapI (n:=(c.dead.length:Int)+(c.dawn.length:Int)) (by omega) (by omega)];refine Zb (λh2=>bad ?_) (λh2=>hR ?_)
    ·have h2:¬(c.dead.length+c.dawn.length=0):=by simp at h2; omega
     have:cdSum c=false:=by rw[cdSum,hu,decide_eq_false h2]; simp
     simp[this]
    ·have h2:(c.dead.length+c.dawn.length=0):=by simp at h2; omega
     rw[cdSum,hu,decide_eq_true h2,decide_eq_true h]; rfl
  intro b7;rw[b7,Bool.true_and];refine Za rfl (Yc rfl rfl (Za rfl (Za rfl (Za (ldr (row:=cdC c) rfl) ?_))));refine YC (c157 m cs hU true c.played 1 f1 (by omega)) rfl g78.ok.plain rfl rfl ?_;refine Za rfl (Zb (λp1=>?_) (λp1=>?_))
  ·have p1:lstOk cs true 1 c.played=false:=by simpa using p1
   rw[p1]; rfl
  have p1:lstOk cs true 1 c.played=true:=by simpa using p1
  rw[p1,Bool.true_and];refine Za rfl (Za rfl (Yc rfl rfl (Za rfl (Za rfl (Za (ldr (row:=cdC c) rfl) ?_)))));refine YC (c157 m cs hU false c.dead 1 f2 (by omega)) rfl g78.ok.plain rfl rfl ?_;rcases YBE (lstOk cs false 1 c.dead) with p2|p2
  rotate_left
  ·rw[p2];repeat first|refine Ya ?_|refine Xa ?_|refine Qa rfl ?_|refine Yb rfl ?_|refine Zc rfl ?_|refine Xc rfl ?_|refine Za (ldr (row:=cdC c) rfl) ?_|refine Za rfl ?_
   rfl
  rw[p2];repeat first|refine Ya ?_|refine Xa ?_|refine Za (ldr (row:=cdC c) rfl) ?_|refine Za rfl ?_
  refine YC (c157 m cs hU false c.dawn 1 f3 (by omega)) rfl g78.ok.plain rfl rfl ?_;repeat first|refine Ya ?_|refine Xa ?_|refine Za (ldr (row:=cdC c) rfl) ?_|refine Za rfl ?_
  rfl
 clear hk33 bad;refine Zb (λn1=>?_) (λn1=>?_)
 ·rw[n1];refine kk1 ?_;have n1:nameOk c.name=false:=by simpa using n1
  rw[n1]; rfl
 have n1:nameOk c.name=true:=by simpa using n1
 refine Za rfl (Za (ldr (cdLd c)) ?_);refine Xb h124 rfl g77.ok.plain rfl ?_;refine Za rfl (Zb (λn2=>?_) (λn2=>?_))
 ·rw[n2];refine kk1 ?_;have n2:¬cdW c≤200:=by simp at n2; omega
  rw[decide_eq_false n2]; simp
 have n2:cdW c≤200:=by simp at n2; omega
 repeat first|refine Za (ldr (row:=cdC c) rfl) ?_|refine Za rfl ?_
 cases hu:c.unit with
 |false=>
  repeat first|refine Ya ?_|refine Xa ?_|refine Qa rfl ?_|refine Yb rfl ?_|refine Zc rfl ?_|refine Xc rfl ?_|refine Za (ldr (row:=cdC c) rfl) ?_|refine Za rfl ?_
  exact kk2 n1 n2 (λh=>by rw[hu] at h; cases h)
 |true=>
  repeat first|refine Ya ?_|refine Xa ?_|refine Za (ldr (row:=cdC c) rfl) ?_|refine Za rfl ?_
  rcases YBE (decide (c.health<1)) with h|h
  ·rw[h];refine kk1 ?_;have:cdSum c=false:=by simp at h; simp[cdSum,hu]; omega
   rw[this]; simp
  ·rw[h];exact kk2 n1 n2 (λ_=>by simp at h; omega)
end Go.Ah.Tz
end
section
namespace Go.Ah.Tz
open Go.Proofs.Tryz (prog)
def tput(t:Tx)(v:Bool):List (Tx×Bool)→List (Tx×Bool)
 |[]=>[(t,v)]
 |p::l=>if t==p.1 then (t,v)::l else p::tput t v l
theorem QbW(t:Tx)(v:Bool):∀l,aput (.str t) (.bool v) (mpE l)=some (mpE (tput t v l))
 |[]=>rfl
 |p::l=>by
  simp only[mpE,List.map_cons,aput,keyEq,tput];cases h:t==p.1 with
  |true=>rfl
  |false=>
   have:=QbW t v l;simp only[mpE] at this;simp only[this]; rfl
theorem YX(t n:Tx)(v:Bool):∀l,tlook t (tput n v l)=if t==n then some v else tlook t l
 |[]=>by simp[tput,tlook]
 |p::l=>by
  simp only[tput];by_cases h:n==p.1
  ·simp_all [tlook]
  ·rw[if_neg h,tlook,tlook,YX t n v l]
   grind
theorem YaR:∀l,roES (mpE l)=true
 |[]=>rfl
 |p::l=>by
  have:=YaR l;simp only[mpE] at this;simp[mpE,roES,AVal.ro,this]
theorem Ycr{σ:List ABlk}{b:Nat}{l:List (Tx×Bool)}(h:hget σ b=.map (mpE l))(row:List AVal)(j:Nat):Xu σ 1000 [.rptr row j,.map b]=some ([.rptr row j,.rmap (mpE l)],[b]):=by
 simp_all [Xu,YaR]
theorem ZcA{σ:List ABlk}{b:Nat}{l:List (Tx×Bool)}(h:hget σ b=.map (mpE l))(t:Tx):Qu true true (.bool false) [.map b,.str t] σ=.ok (.tup [.bool ((tlook t l).getD false),.bool (tlook t l).isSome]) [b] []:=by
 simp only[Qu,Qab,mapOf,h,Yag,cond_true];cases tlook t l<;>rfl
theorem Xbo{σ:List ABlk}{b:Nat}{l:List (Tx×Bool)}(h:hget σ b=.map (mpE l))(t:Tx):Qu true false (.bool false) [.map b,.str t] σ=.ok (.bool ((tlook t l).getD false)) [b] []:=by
 simp only[Qu,Qab,mapOf,h,Yag,cond_true];cases tlook t l<;>rfl
theorem Qbc{σ:List ABlk}{b:Nat}{l:List (Tx×Bool)}(h:hget σ b=.map (mpE l))(t:Tx)(v:Bool):XC true [.map b,.str t,.bool v] σ=.ok .junk [] [(b,.map (mpE (tput t v l)))]:=by
 simp_all [XC,Qab,QbW]
def findO:List Cd→Tx→Option Bool
 |[],_=>none
 |c::l,t=>if c.name==t then some c.unit else findO l t
theorem ZcE:∀ (l:List Cd) (t:Tx) (u:Bool),findC l t u=(match findO l t with
 |none=>false
 | some b=>b || !u)
 |[],_,_=>rfl
 |c::l,t,u=>by
  simp only[findC,findO];by_cases h:c.name==t<;>simp_all [ZcE]
theorem XaD:∀ (l:List Cd) (c:Cd) (t:Tx),findO (l ++ [c]) t=(match findO l t with
 |some b=>some b
 | none=>if c.name == t then some c.unit else none)
 |[],_,_=>rfl
 |d::l,c,t=>by
  simp only[List.cons_append,findO];by_cases h:d.name==t<;>simp_all [XaD]
def UnitsO(m:List (Tx×Bool))(l:List Cd):Prop:=∀t,tlook t m=findO l t
theorem UnitsO.units{m:List (Tx×Bool)}{l:List Cd}(h:UnitsO m l):Units m l:=by
 intro t u; rw[ZcE,h t]<;>cases findO l t<;>rfl
theorem UnitsO.old{m:List (Tx×Bool)}{l:List Cd}(h:UnitsO m l){c:Cd}(hc:(tlook c.name m).isSome=true):UnitsO m (l++[c]):=by
 intro t;rw[XaD,←h t]
 grind
theorem UnitsO.new{m:List (Tx×Bool)}{l:List Cd}(h:UnitsO m l){c:Cd}(hc:(tlook c.name m).isSome=false):UnitsO (tput c.name c.unit m) (l++[c]):=by
 intro t;rw[XaD,←h t,YX]
 grind
def Seen(m:List (Tx×Bool))(l:List Cd):Prop:=∀t,(tlook t m).getD false=l.any λd=>d.name==t
theorem Seen.put{m:List (Tx×Bool)}{l:List Cd}(h:Seen m l)(c:Cd):Seen (tput c.name true m) (l++[c]):=by
 intro t;rw[YX,List.any_append,←h t]
 grind
theorem Qg{σ:List ABlk}{b:Nat}(x:ABlk)(h:b<σ.length):hget (σ.set b x) b=x:=Qp (by simp[h])
attribute [local irreducible] Ans.rd Ans.pu Ans.wr Ans.dr Ans.gr Ans.gw Ans.gl Ans.gd Ans.opt joinK W
set_option maxHeartbeats 1000000
theorem c180(cs:List Cd)(hf:XG cs=true)(h221:∀m,Units m cs→∀c∈cs,PC 49 [.rptr (cdC c) 0,.rmap (mpE m)] (.bool (cdOk cs c))) :
  PC 27 [cdV cs] (.agg [iv (cdsChk cs).1,iv (cdsChk cs).2]):=by
 simp only[XG,Bool.and_eq_true,decide_eq_true_eq] at hf;obtain⟨f0,f1⟩:=hf;rw[bigE] at f0;refine Qb hP g27.ok rfl rfl ?_;rw[H1.e]; unfold g27; dsimp only;refine Yc rfl rfl (Za rfl (Za rfl ?_));refine Zb (λh=>?_) (λh=>?_)
 ·have h:240<cs.length:=by simp at h; omega
  refine Za rfl (Yc rfl rfl (Qi rfl ?_));rw[cdsChk,if_pos h]
 have h:¬240<cs.length:=by simp at h; omega
 rw[cdsChk,if_neg h];refine Yc rfl rfl (Za rfl ?_);refine Xj (ι:=Nat) (λi vs σ=>∃m,vs=[iv i]∧hget σ 0=.box [iv 0,iv 0]∧hget σ 1=.map (mpE m)∧1<σ.length∧i≤cs.length∧UnitsO m (cs.take i)) (λi=>cs.length-i) 0 ⟨[],rfl,rfl,rfl,by simp,by omega,λt=>by simp[tlook,findO]⟩ ?_;rintro i vs σ again ⟨m,rfl,hz,hm,hln,hi,hu⟩ hag;refine Za rfl ?_;refine Zb (λh=>?_) (λh=>?_)
 ·have hil:i<cs.length:=by simpa using h
  have hix:=λ(s:List ABlk)=>Yo s cdC false false 12 cs .i64 i hil;have htk:cs.take (i+1)=cs.take i++[cs[i]]:=Zu cs i hil;generalize cs[i]=c at hix htk;refine Zi λk10 hk10=>?_;have kk:∀m' σ',UnitsO m' (cs.take i++[c])→hget σ' 0=.box [iv 0,iv 0]→hget σ' 1=.map (mpE m')→1<σ'.length→k10 [] σ':=by
   intro m' σ' q1 q2 q3 q4;rw[hk10];refine Za (Yh ..) ?_;rw[Qd (n:=i) (by omega)]
   grind
  clear hk10 hag;refine Za (hix _) (Za (ldr (cdLd _)) (Yx (row:=cdC c) (row':=cdC c) rfl rfl rfl ?_));have hB0:=Qf σ (ABlk.box (cdC c));have hz':hget (σ++[ABlk.box (cdC c)]) 0=.box [iv 0,iv 0]:=Zf _ hz (by simp);have hm':hget (σ++[ABlk.box (cdC c)]) 1=.map (mpE m):=Zf _ hm (by simp);have hl':1<(σ++[ABlk.box (cdC c)]).length:=by simp; omega
  generalize σ++[ABlk.box (cdC c)]=base at hB0 hz' hm' hl' ⊢;generalize σ.length=b at hB0 ⊢;refine Za rfl (Za (ld hB0 rfl) (Za (ZcA hm' _) (Za rfl (Za rfl (Za rfl ?_)))));refine Zb (λh=>?_) (λh=>?_)
  ·have h:(tlook c.name m).isSome=false:=by simpa using h
   refine Za rfl (Za (ld hB0 rfl) (Za rfl (Za (ld hB0 rfl) (Yc (Qbc hm' _ _) (Yj _ hl') ?_))));exact kk _ _ (hu.new h) (Yg hz' (by simp) (by omega)) (Qg _ hl') (by simpa using hl')
  ·have h:(tlook c.name m).isSome=true:=by simpa using h
   exact kk _ _ (hu.old h) hz' hm' hl'
 have h:i=cs.length:=by simp at h; omega
 subst h;rw[List.take_length] at hu;have hmay:=h221 m hu.units;clear hag hu h221;refine Yc rfl (Xl _ _) (Za rfl ?_);have hz':hget (σ++[ABlk.map []]) 0=.box [iv 0,iv 0]:=Zf _ hz (by simp);have hm':hget (σ++[ABlk.map []]) 1=.map (mpE m):=Zf _ hm (by simp);have hs':hget (σ++[ABlk.map []]) σ.length=.map (mpE []):=Qf _ _;have hl':σ.length<(σ++[ABlk.map []]).length:=by simp
 generalize σ++[ABlk.map []]=base at hz' hm' hs' hl' ⊢;generalize σ.length=b at hs' hl' hln ⊢;refine Xj (ι:=Nat) (λi vs s=>∃m2,vs=[iv i]∧hget s 0=.box [iv 0,iv 0]∧hget s 1=.map (mpE m)∧hget s b=.map (mpE m2)∧b<s.length∧i≤cs.length∧Seen m2 (cs.take i)∧cdsGo cs [] cs=cdsGo cs (cs.take i) (cs.drop i)) (λi=>cs.length-i) 0 ⟨[],rfl,hz',hm',hs',hl',by omega,λt=>by simp[tlook],by simp⟩ ?_;clear hz' hm' hs' hl' base hz hm σ;rintro i vs s again ⟨m2,rfl,hz,hm,hs,hl,hi,hse,hu⟩ hag;refine Za rfl ?_;refine Zb (λh=>?_) (λh=>?_);rotate_left
 ·have h:i=cs.length:=by simp at h; omega
  subst h;rw[List.drop_length,cdsGo] at hu;refine Za rfl (Yc (stv hz rfl rfl rfl) (Yj _ (by show 0<s.length; omega)) (Qi (XD (by show 0<s.length; omega) rfl) ?_));rw[hu]
 have hil:i<cs.length:=by simpa using h
 have hdr:cs.drop i=cs[i]::cs.drop (i+1):=by rw[YLD hil]
 have hix:=λ(s:List ABlk)=>Yo s cdC false false 12 cs .i64 i hil;have htk:cs.take (i+1)=cs.take i++[cs[i]]:=Zu cs i hil;have hmy:=hmay _ (List.getElem_mem hil);generalize cs[i]=c at hix htk hdr hmy;rw[hdr,cdsGo,←hse c.name] at hu;refine Za (hix _) (Za rfl (Za rfl (Za (ldr (cdLd0 _)) (Za (Xbo hs _) ?_))));refine Zb (λh=>?_) (λh=>?_)
 ·rw[if_pos h] at hu;refine Za rfl (Za rfl (Za (ldr (XbX _)) (Za rfl (Yc (stv hz rfl rfl rfl) (Yj _ (by show 0<s.length; omega)) (Qi (XD (by show 0<s.length; omega) rfl) ?_)))));rw[hu]
 rw[if_neg (by rw[h]; simp)] at hu;refine YC hmy rfl g49.ok.plain (Ycr hm _ _) rfl ?_;refine Za rfl ?_;refine Zb (λh=>?_) (λh=>?_)
 ·have h:cdOk cs c=false:=by simpa using h
  rw[h] at hu
  replace hu:cdsGo cs [] cs=(130,c.pl):=hu
  refine Za rfl (Za rfl (Za (ldr (XbX _)) (Za rfl (Yc (stv hz rfl rfl rfl) (Yj _ (by show 0<s.length; omega)) (Qi (XD (by show 0<s.length; omega) rfl) ?_)))));rw[hu]
 ·have h:cdOk cs c=true:=by simpa using h
  rw[h,if_pos rfl] at hu;refine Za rfl (Za rfl (Za (ldr (cdLd0 _)) (Yc (Qbc hs _ _) (Yj _ hl) (Za (Yh ..) ?_))));rw[Qd (n:=i) (by omega)];refine hag (i+1) _ _ (by omega) ⟨_,rfl,?_,?_,Qg _ hl,by simpa using hl,by omega,by rw[htk]; exact hse.put c,by rw[htk]; exact hu⟩
  ·exact Yg hz (by simp) (by omega)
  ·exact Yg hm (by simp) (by omega)
end Go.Ah.Tz
end
section
namespace Go.Ah
inductive GT:Type 1 where
 |leaf
 |node (k np:Nat) (g:GFun) (l r:GT)
def GT.get:GT→Nat→Option (Nat×GFun)
 |.leaf,_=>none
 |.node k np g l r,f=>match Nat.beq f k with
  |true=>some (np,g)
  |false=>match Nat.blt f k with
   |true=>l.get f
   |false=>r.get f
def GT.Ok(P:Program)(GL:Globs):GT→Prop
 |.leaf=>True
 |.node k np g l r=>GOk P GL k np g∧l.Ok P GL∧r.Ok P GL
theorem GT.get_ok{P:Program}{GL:Globs}:∀ {t:GT},t.Ok P GL→∀f np g,t.get f=some (np,g)→GOk P GL f np g
 |.leaf,_,f,np,g,h=>by simp only[GT.get] at h; cases h
 |.node k np' g' l r,ok,f,np,g,h=>by
  unfold GT.get at h;obtain⟨o1,o2,o3⟩:=ok;split at h
  ·rename_i hb;have:=YNB hb;subst this;cases h;exact o1
  ·split at h
   ·exact GT.get_ok o2 f np g h
   ·exact GT.get_ok o3 f np g h
end Go.Ah
end
section
namespace Go.Ah.Tz
open Go.Proofs.Tryz (prog)
set_option maxRecDepth 100000
noncomputable def tb:GT:=(.node 161 2 g161.u (.node 159 2 g159.u (.node 155 1 g155.u .leaf .leaf) (.node 160 1 g160.u .leaf .leaf)) (.node 163 2 g163.u (.node 162 2 g162.u .leaf .leaf) .leaf))
theorem tb_ok:tb.Ok prog GL0:=⟨g161.ok,⟨g159.ok,⟨g155.ok,trivial,trivial⟩,⟨g160.ok,trivial,trivial⟩⟩,⟨g163.ok,⟨g162.ok,trivial,trivial⟩,trivial⟩⟩
end Go.Ah.Tz
end
section
namespace Go.Ah.Tz
open Go.Proofs.Tryz (prog)
set_option maxRecDepth 1000000
theorem hTm:∀f np g,tb.get f=some (np,g)→GQ f np g:=GT.get_ok tb_ok
def ownTx:Tx:=[99,97,114,100,32,117,110,105,116,32,99,104,97,114,109,32,102,111,114,109,97,116,32,112,108,97,121,101,100,32,100,101,97,100,32,100,97,119,110,32,97,117,114,97,32,115,104,105,101,108,100,32,104,97,114,109,32,109,101,110,100,32,100,114,97,119,32,103,97,105,110,32,100,114,111,112,32,108,111,111,107,32,115,104,111,119,32,115,117,109,109,111,110,32,105,102,32,101,108,115,101,32,109,101,32,102,111,101,32,116,97,114,103,101,116,32,108,105,102,101,32,104,97,110,100,32,100,101,99,107,32,117,110,105,116,115,32,109,97,110,97,32,99,111,115,116,32,116,111,112,32,112,111,119,101,114,32,109,105,110,32,109,97,120,32,110,111,116,32,97,110,100,32,111,114,32,104,111,108,100,115,32,108,101,97,115,116,32,109,111,115,116,32,99,111,112,105,101,115,32,98,97,110,110,101,100,32,115,105,110,103,108,101]
theorem p264:PC 155 [.str ownTx] (.rsl true false 1 (keysR.map txC)):=X9 hP hTm (much:=1000000000) 60 (by kernel_rfl)
def ownM:List (Tx×Bool):=keysR.foldl (λm k=>tput k true m) []
theorem Zbl(t:Tx):∀(l:List Tx) (m:List (Tx×Bool)),(tlook t (l.foldl (λm k=>tput k true m) m)).getD false=((tlook t m).getD false||ownIn l t)
 |[],m=>by simp[ownIn]
 |k::l,m=>by
  rw[List.foldl_cons,Zbl t l,YX,ownIn];by_cases h:t==k
  ·have e:t=k:=by simpa using h
   subst e; simp
  ·have h2:(k==t)=false:=by
    rw[Bool.eq_false_iff]; intro q; apply h; simp at q; simp[q]
   rw[if_neg h,h2,Bool.false_or]
theorem Zdq(t:Tx):(tlook t ownM).getD false=ownIn keysR t:=by
 rw[ownM,Zbl]; rfl
attribute [local irreducible] Ans.rd Ans.pu Ans.wr Ans.dr Ans.gr Ans.gw Ans.gl Ans.gd Ans.opt joinK W
theorem c258:PC 138 [] (.rmap (mpE ownM)):=by
 refine Xa1 hP g138.ok rfl ⟨.map 0,[.map (mpE ownM)],?_,?_⟩
 ·show (match Xu [.map (mpE ownM)] (998 + 1 + 1) [.map 0] with
   |some ([y],_)=>some y
   | _=>none)=_
  have:hget [ABlk.map (mpE ownM)] 0=.map (mpE ownM):=rfl;simp only[Xu,this,YaR,cond_true]
 unfold g138; dsimp only[H0.u];refine Yc rfl rfl ?_;refine Xb p264 rfl g155.ok.plain rfl ?_;refine Za rfl ?_;have hlen:keysR.length=41:=rfl;unfold ownM;generalize keysR=l at hlen ⊢;refine Xj (ι:=Nat) (λi vs σ=>∃m,vs=[iv i]∧σ=[.map (mpE m)]∧i≤l.length∧l.foldl (λm k=>tput k true m) []=(l.drop i).foldl (λm k=>tput k true m) m) (λi=>l.length-i) 0 ⟨[],rfl,rfl,by omega,by simp⟩ ?_;rintro i vs σ again ⟨m,rfl,rfl,hi,hu⟩ hag;refine Za rfl ?_;refine Zb (λh=>?_) (λh=>?_)
 ·have h:i<l.length:=by simpa using h
  have hdr:l.drop i=l[i]::l.drop (i+1):=by rw[YLD h]
  rw[hdr,List.foldl_cons] at hu;refine Za (Yo _ txC _ _ _ l .i64 i h) (Za (ldr (txLd _)) (Yc (Qbc (b:=0) rfl _ _) rfl (Za (Yh ..) ?_)));rw[Qd (n:=i) (by omega)];exact hag (i+1) _ _ (by omega) ⟨_,rfl,rfl,by omega,hu⟩
 ·have h:i=l.length:=by simp at h; omega
  subst h;rw[List.drop_length,List.foldl_nil] at hu;rw[hu]; exact⟨rfl,rfl⟩
theorem c242(s:Tx):PC 105 [.str s] (.bool (ownIn keysR s)):=by
 refine Qb hP g105.ok rfl rfl ?_;rw[H1.e]; unfold g105; dsimp only;refine Xb c258 rfl g138.ok.plain rfl ?_;refine Za (Qk ..) ?_;rw[Zdq]
end Go.Ah.Tz
end
section
namespace Go.Ah.Tz
open Go.Proofs.Tryz (prog)
attribute [local irreducible] Ans.rd Ans.pu Ans.wr Ans.dr Ans.gr Ans.gw Ans.gl Ans.gd Ans.opt joinK W
theorem c257(x:Int):PC 137 [.int .i32 x] (.bool (isDig x)):=by
 refine Qb hP g137.ok rfl rfl ?_;rw[H1.e]; unfold g137; dsimp only;refine Za rfl (Zae rfl rfl ?_);exact congrArg AVal.bool (by rw[Bool.eq_iff_iff]; simp[isDig])
theorem c256(x:Int):PC 136 [.int .i32 x] (.bool (isLet x)):=by
 refine Qb hP g136.ok rfl rfl ?_;rw[H1.e]; unfold g136; dsimp only;refine Za rfl (Zae rfl rfl ?_);refine Zi λk1 hk1=>?_;have kk:∀c,c=decide ((97≤x∧x≤122)∨(65≤x∧x≤90))→k1 [.bool c] []:=by
  rintro c hc;rw[hk1]; clear hk1 k1;refine Zb (λh=>?_) (λh=>?_)
  ·rw[h] at hc;have hc:(97≤x∧x≤122)∨(65≤x∧x≤90):=by simpa using hc.symm
   exact congrArg AVal.bool (by rw[eq_comm,isLet,decide_eq_true_eq]; omega)
  rw[h] at hc;have hc:¬((97≤x∧x≤122)∨(65≤x∧x≤90)):=of_decide_eq_false hc.symm;refine Za (Xd ..) ?_;refine Zi λk1 hk1=>?_;have k2:∀c,c=decide (x=215∨x=247)→k1 [.bool c] []:=by
   rintro c hc2;rw[hk1]; clear hk1 k1;refine Zb (λh=>?_) (λh=>?_)
   ·rw[h] at hc2;have hc2:x=215∨x=247:=of_decide_eq_true hc2.symm;exact congrArg AVal.bool (by rw[eq_comm,isLet,decide_eq_false_iff_not]; omega)
   rw[h] at hc2;have hc2:¬(x=215∨x=247):=of_decide_eq_false hc2.symm;refine Za rfl (Zae rfl rfl ?_);exact congrArg AVal.bool (by rw[Bool.eq_iff_iff,Bool.and_eq_true,isLet,decide_eq_true_eq,decide_eq_true_eq,decide_eq_true_eq]; omega)
  clear hk1;refine Zb (λh=>k2 _ ?_) (λh=>?_)
  ·rw[h]; rw[eq_comm,decide_eq_true_eq]; exact Or.inl (of_decide_eq_true h)
  ·have h:x≠215:=of_decide_eq_false h;refine Za (Xd ..) (k2 _ ?_);rw[Bool.eq_iff_iff,decide_eq_true_eq,decide_eq_true_eq]; omega
 clear hk1;refine Zb (λh=>kk _ ?_) (λh=>?_)
 ·rw[h]; rw[eq_comm,decide_eq_true_eq]; simp at h; omega
 ·refine Za rfl (Zae rfl rfl (kk _ ?_));rw[Bool.eq_iff_iff,Bool.and_eq_true,decide_eq_true_eq,decide_eq_true_eq,decide_eq_true_eq]; simp at h; omega
end Go.Ah.Tz
end
section
namespace Go.Ah.Tz
theorem all256{p:Nat→Bool}(h:(List.range 256).all p=true){c:Nat}(hc:c<256):p c=true:=List.all_eq_true.1 h c (List.mem_range.2 hc)
theorem and31{c:Nat}(hc:c<256):bits .and .i64 (c:Int) 31=((c%32:Nat):Int):=by
 have:=all256 (p:=λc=>bits .and .i64 (c:Int) 31==((c%32:Nat):Int)) (by kernel_rfl) hc;simpa using this
theorem and15{c:Nat}(hc:c<256):bits .and .i64 (c:Int) 15=((c%16:Nat):Int):=by
 have:=all256 (p:=λc=>bits .and .i64 (c:Int) 15==((c%16:Nat):Int)) (by kernel_rfl) hc;simpa using this
theorem and7{c:Nat}(hc:c<256):bits .and .i64 (c:Int) 7=((c%8:Nat):Int):=by
 have:=all256 (p:=λc=>bits .and .i64 (c:Int) 7==((c%8:Nat):Int)) (by kernel_rfl) hc;simpa using this
theorem and63{c:Nat}(hc:c<256):bits .and .u8 (c:Int) 63=((c%64:Nat):Int):=by
 have:=all256 (p:=λc=>bits .and .u8 (c:Int) 63==((c%64:Nat):Int)) (by kernel_rfl) hc;simpa using this
theorem and192{c:Nat}(hc:c<256):(bits .and .u8 (c:Int) 192 != 128) = !(c/64==2):=by
 have:=all256 (p:=λc=>(bits .and .u8 (c:Int) 192 != 128) == !(c/64==2)) (by kernel_rfl) hc;simpa using this
theorem Xc6(c:UInt8):rCont c = !(c.toNat/64==2):=and192 c.toNat_lt
theorem or64(q y:Nat)(hq:q<1099511627776)(hy:y<64):bits .or .i64 ((q*64:Nat):Int) (y:Int)=((q*64+y:Nat):Int):=by
 have h1:(BitVec.ofInt 64 ((q*64:Nat):Int)).toNat=q*64:=by
  rw[BitVec.toNat_ofInt]; omega
 have h2:(BitVec.ofInt 64 (y:Int)).toNat=y:=by
  rw[BitVec.toNat_ofInt]; omega
 have h3:q*64 ||| y=q*64+y:=by
  have:=Nat.two_pow_add_eq_or_of_lt (i:=6) (b:=y) (by omega) q;rw[show 2 ^ 6*q=q*64 by omega] at this;exact this.symm
 show IntKind.i64.wrap (((BitVec.ofInt 64 ((q*64:Nat):Int)) ||| (BitVec.ofInt 64 (y:Int))).toNat:Int)=_;rw[BitVec.toNat_or,h1,h2,h3];exact wrapI (by omega) (by omega)
theorem Zc7(x:Nat)(hx:x<1099511627776)(c:UInt8):rStep (x:Int) c=((x*64+c.toNat%64:Nat):Int):=by
 have e:shl6 (x:Int)=((x*64:Nat):Int):=by
  show IntKind.i64.wrap ((x:Int)*64)=_;rw[wrapI (by omega) (by omega)]; simp
 rw[rStep,e,and63 c.toNat_lt,wrapI (by omega) (by omega)];exact or64 x _ hx (Nat.mod_lt _ (by omega))
theorem Zcx(s:Tx)(a:Nat)(ha:a<s.length) :
  (((runeR s a).2≠0→((Utf8.decode ⟨s.toArray⟩ a).1:Int)=(runeR s a).1∧(Utf8.decode ⟨s.toArray⟩ a).2=(runeR s a).2)∧((runeR s a).2=0→(Utf8.decode ⟨s.toArray⟩ a).1=65533)):=by
 have hat:∀k,((⟨s.toArray⟩:ByteArray).get! (a+k))=(s[a+k]?).getD 0:=by
  intro k;show (s.toArray)[a+k]! = _;simp[List.getElem!_eq_getElem?_getD];rfl
 have hsz:(⟨s.toArray⟩:ByteArray).size=s.length:=by simp[ByteArray.size]
 rw[runeR,List.getElem?_eq_getElem ha];unfold Utf8.decode;simp only[hat,hsz];have h0:(s[a+0]?).getD 0=s[a]:=by simp[List.getElem?_eq_getElem ha]
 rw[h0];have hb:s[a].toNat<256:=s[a].toNat_lt;generalize s[a].toNat=b at hb ⊢;have hcn:∀k,¬a+k<s.length→s[a+k]?=none:=λk h=>by simp; omega
 have ht:∀(i x:Nat),x<1000000→∀m,rTail s a (m+1) i (x:Int)=if a+i<s.length∧((s[a+i]?).getD 0).toNat/64=2 then rTail s a m (i+1) ((x*64+((s[a+i]?).getD 0).toNat%64:Nat):Int) else none:=by
  intro i x hx m;by_cases h:a+i<s.length
  ·rw[rTail,List.getElem?_eq_getElem h];simp only[Xc6,Option.getD_some,h,true_and];by_cases h2:s[a+i].toNat/64=2
   ·simp[h2,Zc7 x (by omega)]
   ·simp[h2]
  ·rw[rTail,hcn i h]; simp[h]
 have hcd:∀k,(decide (a+k<s.length)&&(((s[a+k]?).getD 0).toNat/64==2))=decide (a+k<s.length∧((s[a+k]?).getD 0).toNat/64=2):=by
  intro k; rw[Bool.eq_iff_iff]; simp
 simp only[hcd];have t1:=λx hx m=>ht 1 x hx m;have t2:=λx hx m=>ht 2 x hx m;have t3:=λx hx m=>ht 3 x hx m;clear ht hcd hcn hat hsz h0;generalize ((s[a+1]?).getD 0).toNat=d1 at *;generalize ((s[a+2]?).getD 0).toNat=d2 at *;generalize ((s[a+3]?).getD 0).toNat=d3 at *;by_cases c1:b<128
 ·have hh:rHead (b:Int)=some (1,(b:Int),0):=by
   rw[rHead,if_neg (by omega),if_neg (by omega),if_neg (by omega),if_neg (by omega)]
  simp only[hh,if_pos c1,Nat.sub_self,rTail,rEnd];rw[if_neg (by omega)]; simp
 rw[if_neg c1];by_cases c2:b<192
 ·have hh:rHead (b:Int)=none:=by
   rw[rHead,if_neg (by omega),if_neg (by omega),if_neg (by omega),if_pos (by omega)]
  simp only[hh];have e1:¬b/32=6:=by omega
  have e2:¬b/16=14:=by omega
  have e3:¬b/8=30:=by omega
  simp[e1,e2,e3,Utf8.runeError]
 by_cases c3:b<224
 ·have hh:rHead (b:Int)=some (2,((b%32:Nat):Int),128):=by
   rw[rHead,if_pos (by omega),and31 hb]
  have e1:b/32=6:=by omega
  have e2:¬b/16=14:=by omega
  have e3:¬b/8=30:=by omega
  simp only[hh];rw[t1 _ (by omega) 0];by_cases p1:a+1<s.length∧d1/64=2
  ·simp only[if_pos p1,rTail,rEnd,e1,decide_eq_true p1,beq_self_eq_true,Bool.and_self,if_true];by_cases y:b%32*64+d1%64 ≥ 128
   ·rw[if_pos y,if_neg (by omega)]; simp
   ·rw[if_neg y,if_pos (by omega)]; simp[Utf8.runeError]
  ·simp only[if_neg p1,rEnd,decide_eq_false p1,Bool.and_false,Bool.false_and,Bool.false_eq_true,if_false];simp[Utf8.runeError]
 by_cases c4:b<240
 ·have hh:rHead (b:Int)=some (3,((b%16:Nat):Int),2048):=by
   rw[rHead,if_neg (by omega),if_pos (by omega),and15 hb]
  have e1:¬b/32=6:=by omega
  have e2:b/16=14:=by omega
  have e3:¬b/8=30:=by omega
  simp only[hh];rw[t1 _ (by omega) 1];have f1:(b/32==6)=false:=by simpa using e1
  by_cases p1:a+1<s.length∧d1/64=2
  ·rw[if_pos p1,t2 _ (by omega) 0];by_cases p2:a+2<s.length∧d2/64=2
   ·simp only[if_pos p2,rTail,rEnd,f1,e2,decide_eq_true p1,decide_eq_true p2,beq_self_eq_true,Bool.and_self,if_true,Bool.false_and,Bool.false_eq_true,if_false];by_cases y:(b%16*64+d1%64)*64+d2%64<2048∨(55296≤(b%16*64+d1%64)*64+d2%64∧(b%16*64+d1%64)*64+d2%64≤57343)
    ·rw[if_pos (by omega),if_neg (by simp[Utf8.valid]; omega)]; simp[Utf8.runeError]
    ·rw[if_neg (by omega),if_pos (by simp[Utf8.valid]; omega)]; simp; omega
   ·simp only[if_neg p2,rEnd,f1,decide_eq_false p2,Bool.and_false,Bool.false_and,Bool.false_eq_true,if_false];simp[Utf8.runeError]
  ·simp only[if_neg p1,rEnd,f1,decide_eq_false p1,Bool.and_false,Bool.false_and,Bool.false_eq_true,if_false];simp[Utf8.runeError]
 by_cases c5:b<248
 ·have hh:rHead (b:Int)=some (4,((b%8:Nat):Int),65536):=by
   rw[rHead,if_neg (by omega),if_neg (by omega),if_pos (by omega),and7 hb]
  have e3:b/8=30:=by omega
  have f1:(b/32==6)=false:=by simp; omega
  have f2:(b/16==14)=false:=by simp; omega
  simp only[hh];rw[t1 _ (by omega) 2];by_cases p1:a+1<s.length∧d1/64=2
  ·rw[if_pos p1,t2 _ (by omega) 1];by_cases p2:a+2<s.length∧d2/64=2
   ·rw[if_pos p2,t3 _ (by omega) 0];by_cases p3:a+3<s.length∧d3/64=2
    ·simp only[if_pos p3,rTail,rEnd,f1,f2,e3,decide_eq_true p1,decide_eq_true p2,decide_eq_true p3,beq_self_eq_true,Bool.and_self,if_true,Bool.false_and,Bool.false_eq_true,if_false];by_cases y:((b%8*64+d1%64)*64+d2%64)*64+d3%64<65536∨1114111<((b%8*64+d1%64)*64+d2%64)*64+d3%64
     ·rw[if_pos (by omega),if_neg (by simp[Utf8.valid]; omega)]; simp[Utf8.runeError]
     ·rw[if_neg (by omega),if_pos (by simp[Utf8.valid]; omega)]; simp; omega
    ·simp only[if_neg p3,rEnd,f1,f2,decide_eq_false p3,Bool.and_false,Bool.false_and,Bool.false_eq_true,if_false];simp[Utf8.runeError]
   ·simp only[if_neg p2,rEnd,f1,f2,decide_eq_false p2,Bool.and_false,Bool.false_and,Bool.false_eq_true,if_false];simp[Utf8.runeError]
  ·simp only[if_neg p1,rEnd,f1,f2,decide_eq_false p1,Bool.and_false,Bool.false_and,Bool.false_eq_true,if_false];simp[Utf8.runeError]
 ·have hh:rHead (b:Int)=none:=by
   rw[rHead,if_neg (by omega),if_neg (by omega),if_neg (by omega),if_pos (by omega)]
  simp only[hh];have e1:¬b/32=6:=by omega
  have e2:¬b/16=14:=by omega
  have e3:¬b/8=30:=by omega
  simp[e1,e2,e3,Utf8.runeError]
end Go.Ah.Tz
end
section
namespace Go.Ah.Tz
open Go.Proofs.Tryz (prog)
theorem Zb7(s:Tx)(a:Nat):∀(m i:Nat) (x y:Int),rTail s a (m+1) i x=some y→a+i+m<s.length
 |m,i,x,y,h=>by
  rw[rTail] at h;cases e:s[a+i]? with
  |none=>rw[e] at h; cases h
  |some c=>
   have hl:a+i<s.length:=(YLG e).1;rw[e] at h;cases m with
   |zero=>omega
   |succ m=>
    have h2:(if rCont c=true then none else rTail s a (m+1) (i+1) (rStep x c))=some y:=h;split at h2
    ·cases h2
    ·have:=Zb7 s a m (i+1) _ _ h2;omega
theorem Xc7(s:Tx)(a:Nat)(ha:a<s.length)(h:(runeR s a).2≠0):a+(runeR s a).2≤s.length:=by
 unfold runeR at h ⊢;rw[List.getElem?_eq_getElem ha] at h ⊢;simp only at h ⊢;cases e:rHead (s[a].toNat:Int) with
 |none=>rw[e] at h; simp at h
 |some p=>
  obtain⟨n,x,least⟩:=p;rw[e] at h;simp only at h ⊢;cases e2:rTail s a (n-1) 1 x with
  |none=>rw[e2] at h; simp[rEnd] at h
  |some y=>
   rw[e2] at h;have h3:(rEnd n least (some y)).2≤n:=by rw[rEnd]; split<;>simp
   by_cases hn:n≤1
   ·omega
   ·have:=Zb7 s a (n-2) 1 x y (by rw[show n-2+1=n-1 by omega]; exact e2);omega
attribute [local irreducible] Ans.rd Ans.pu Ans.wr Ans.dr Ans.gr Ans.gw Ans.gl Ans.gd Ans.opt joinK W
set_option maxHeartbeats 1000000
theorem XdC{s:Tx}{a:Nat}(h:a<s.length):Qae [.iter 0] [.siter s a]=.ok (.tup [.bool true,iv a,.int .i32 (Utf8.decode ⟨s.toArray⟩ a).1]) [] [(0,.siter s (a+(Utf8.decode ⟨s.toArray⟩ a).2))]:=by
 have hb:Nat.blt a s.length=true:=by simpa[Nat.blt_eq] using h
 show (bif Nat.blt a s.length then _ else _)=_;rw[hb]; rfl
theorem Ydm{s:Tx}{a:Nat}(h:¬a<s.length):Qae [.iter 0] [.siter s a]=.ok (.tup [.bool false]) [0] []:=by
 have hb:Nat.blt a s.length=false:=by rw[Bool.eq_false_iff]; intro q; exact h (by simpa[Nat.blt_eq] using q)
 show (bif Nat.blt a s.length then _ else _)=_;rw[hb]; rfl
theorem c241(s:Tx)(hs:s.length≤big):PC 104 [.str s] (.tup [iv (nameR s 0 0).1,iv (nameR s 0 0).2]):=by
 rw[bigE] at hs;refine Qb hP g104.ok rfl rfl ?_;rw[H1.e]; unfold g104; dsimp only;refine Yc rfl rfl ?_;refine Xj (ι:=Nat) (λa vs σ=>∃n:Nat,vs=[iv n]∧σ=[.siter s a]∧n≤a∧(a=0↔n=0)∧a≤s.length∧nameR s 0 0=nameR s a n) (λa=>s.length-a) 0 ⟨0,rfl,rfl,by omega,by simp,by omega,rfl⟩ ?_;rintro a vs σ again ⟨n,rfl,rfl,i1,i0,i2,hu⟩ hag;by_cases h:a<s.length;rotate_left
 ·refine Yc (Ydm h) rfl (Za rfl (Yd (Za rfl ?_)));rw[show nameR s a n=(a,n) by rw[nameR,dif_neg h]] at hu;rw[hu,show s.length=a by omega]; rfl
 refine Yc (XdC h) rfl (Za rfl (Qc (Za rfl (Za rfl ?_))));obtain⟨d1,d2⟩:=Zcx s a h;have hin:=Xc7 s a h;generalize Utf8.decode ⟨s.toArray⟩ a=p at d1 d2 ⊢;have hst:ZaJ s a n↔(isLet (p.1:Int)=false∧(a=0∨(isDig (p.1:Int)=false∧(p.1:Int)≠39))):=by
  unfold ZaJ;by_cases h0:(runeR s a).2=0
  ·have:=d2 h0;rw[this];have e1:isLet 65533=false:=by decide
   have e2:isDig 65533=false:=by decide
   simp[h0,e1,e2]
  ·rw[(d1 h0).1];simp[h0,i0]
 have stp:(isLet (p.1:Int)=false∧(a=0∨(isDig (p.1:Int)=false∧(p.1:Int)≠39)))→AVal.tup [iv a,iv n]=AVal.tup [iv (nameR s 0 0).1,iv (nameR s 0 0).2]:=by
  intro q;rw[hu,nameR,dif_pos h,dif_pos (hst.2 q)]
 have go:¬(isLet (p.1:Int)=false∧(a=0∨(isDig (p.1:Int)=false∧(p.1:Int)≠39)))→VV.rd (Yn .add false [iv n,(.int .i64 1)] [.siter s (a+p.2)]) λt31=>again [t31] [.siter s (a+p.2)]:=by
  intro q;have q2:¬ZaJ s a n:=λz=>q (hst.1 z);have h0:(runeR s a).2≠0:=λe=>q2 (Or.inl e);have:=(d1 h0).2;have:=hin h0;refine Za (Yh ..) ?_;rw[Qd (n:=n) (by omega)];refine hag (a+p.2) _ _ (by omega) ⟨n+1,rfl,rfl,by omega,by omega,by omega,?_⟩;rw[hu,nameR,dif_pos h,dif_neg q2,(d1 h0).2]
 clear hag hu hst d1 d2 hin;generalize (p.1:Int)=r at stp go ⊢;refine Xb (c256 r) rfl g136.ok.plain rfl ?_;refine Za rfl ?_;rcases YBE (!isLet r) with h1|h1
 rotate_left
 ·rw[h1];repeat first|refine Ya ?_|refine Xa ?_|refine Qa rfl ?_|refine Yb rfl ?_|refine Zc rfl ?_|refine Xc rfl ?_|refine Za rfl ?_
  exact Yd (go (by have h1:isLet r=true:=(by simpa using h1); simp[h1]))
 rw[h1];have h1:isLet r=false:=by simpa using h1
 repeat first|refine Ya ?_|refine Xa ?_|refine Za rfl ?_
 rcases YBE ((a:Int)==0) with h2|h2
 ·rw[h2];repeat first|refine Ya ?_|refine Xa ?_|refine Qa rfl ?_|refine Yb rfl ?_|refine Zc rfl ?_|refine Xc rfl ?_|refine Za rfl ?_
  exact Qc (stp ⟨h1,Or.inl (by simpa using h2)⟩)
 rw[h2];have h2:a≠0:=by simpa using h2
 repeat first|refine Ya ?_|refine Xa ?_|refine Za rfl ?_
 refine Xb (c257 r) rfl g137.ok.plain rfl ?_;repeat first|refine Ya ?_|refine Xa ?_|refine Za rfl ?_
 rcases YBE (!isDig r) with h3|h3
 rotate_left
 ·rw[h3];repeat first|refine Ya ?_|refine Xa ?_|refine Qa rfl ?_|refine Yb rfl ?_|refine Zc rfl ?_|refine Xc rfl ?_|refine Za rfl ?_
  exact Yd (go (by have h3:isDig r=true:=(by simpa using h3); simp[h2,h3]))
 rw[h3];have h3:isDig r=false:=by simpa using h3
 repeat first|refine Ya ?_|refine Xa ?_|refine Za rfl ?_
 refine Zb (λh4=>stp ⟨h1,Or.inr ⟨h3,by simpa using h4⟩⟩) (λh4=>go ?_);have h4:r=39:=by simpa using h4
 simp[h2,h4]
theorem c223(s:Tx)(hs:s.length≤big):PC 76 [.str s] (.bool (nameOk s)):=by
 refine Qb hP g76.ok rfl rfl ?_;rw[H1.e]; unfold g76; dsimp only;refine Xb (c241 s hs) rfl g104.ok.plain rfl ?_;unfold nameOk;generalize (nameR s 0 0).1=e;generalize (nameR s 0 0).2=n;refine Za rfl (Za rfl (Za rfl ?_));rcases YBE (decide ((n:Int)>0)) with h1|h1
 rotate_left
 ·rw[h1];repeat first|refine Qa rfl ?_|refine Yb rfl ?_|refine Zc rfl ?_|refine Xc rfl ?_|refine Za rfl ?_
  have h1:¬1≤n:=by simp at h1; omega
  simp[h1]
 rw[h1];repeat first|refine Ya ?_|refine Xa ?_|refine Za rfl ?_
 rcases YBE (decide ((n:Int)≤24)) with h2|h2
 rotate_left
 ·rw[h2];repeat first|refine Qa rfl ?_|refine Yb rfl ?_|refine Zc rfl ?_|refine Xc rfl ?_|refine Za rfl ?_
  have h2:¬n≤24:=by simp at h2; omega
  simp[h2]
 rw[h2];repeat first|refine Ya ?_|refine Xa ?_|refine Za rfl ?_
 rcases YBE ((e:Int)==(s.length:Int)) with h3|h3
 rotate_left
 ·rw[h3];repeat first|refine Qa rfl ?_|refine Yb rfl ?_|refine Zc rfl ?_|refine Xc rfl ?_|refine Za rfl ?_
  have h3:¬e=s.length:=by simp at h3; omega
  simp[h3]
 rw[h3];repeat first|refine Ya ?_|refine Xa ?_|refine Za rfl ?_
 have h3:e=s.length:=by simp at h3; omega
 subst h3;rcases YBE (decide ((s.length:Int)≤40)) with h4|h4
 rotate_left
 ·rw[h4];repeat first|refine Qa rfl ?_|refine Yb rfl ?_|refine Zc rfl ?_|refine Xc rfl ?_|refine Za rfl ?_
  have h4:¬s.length≤40:=by simp at h4; omega
  simp[h4]
 rw[h4];repeat first|refine Ya ?_|refine Xa ?_|refine Za rfl ?_
 refine Xb (c242 _) rfl g105.ok.plain rfl ?_;repeat first|refine Ya ?_|refine Xa ?_|refine Za rfl ?_
 have h1:1≤n:=by simp at h1; omega
 have h2:n≤24:=by simp at h2; omega
 have h4:s.length≤40:=by simp at h4; omega
 simp[h1,h2,h4]
end Go.Ah.Tz
end
section
namespace Go.Ah.Tz
open Go.Proofs.Tryz (prog)
theorem QbC(a:Int):lbN a=0∨lbN a=1∨lbN a=2∨lbN a=3:=by unfold lbN; split<;>omega
attribute [local irreducible] Ans.rd Ans.pu Ans.wr Ans.dr Ans.gr Ans.gw Ans.gl Ans.gd Ans.opt joinK W
theorem c252(a:Int):PC 151 [iv8 a] (iv8 (lbN a)):=by
 refine Qb hP g151.ok rfl rfl ?_;rw[H1.e]; unfold g151; dsimp only;refine Za rfl (QH rfl rfl ?_);refine Zb (λh=>?_) (λh=>?_)
 ·rw[lbN,if_pos (by simpa using h)]
 ·rw[lbN,if_neg (by simpa using h)]
def joinT:AVal:=.agg [iv8 0,iv8 1,iv8 2,iv8 3,iv8 1,iv8 1,iv8 3,iv8 3,iv8 2,iv8 3,iv8 2,iv8 3,iv8 3,iv8 3,iv8 3,iv8 3]
theorem c263:PC 158 [] joinT:=by
 refine Qb hP g158.ok rfl rfl ?_;unfold g158; dsimp only[H0.u];refine Yc rfl rfl (Za rfl (Za rfl (Za rfl (Za rfl (Za rfl (Yc rfl rfl (Qi rfl ?_)))))));rfl
theorem c250(a b:Int):PC 149 [iv8 a,iv8 b] (iv8 (joinL a b)):=by
 refine Qb hP g149.ok rfl rfl ?_;rw[H2.e]; unfold g149; dsimp only;refine Xf c263 rfl g158.ok.plain rfl ?_;refine Xf (c252 a) rfl g151.ok.plain rfl ?_;have h1:=QbC a;have h2:=QbC b;unfold joinL;have k:=c252 b;generalize lbN a=p at h1 ⊢;generalize lbN b=q at h2 k ⊢;rcases h1 with h1|h1|h1|h1<;>subst h1<;>refine Zd rfl ?_<;>refine Xf k rfl g151.ok.plain rfl ?_<;>rcases h2 with h2|h2|h2|h2<;>subst h2<;>exact Zd rfl (Xr (by kernel_rfl) rfl)
theorem c253(a b:Int):PC 152 [iv8 a,iv8 b] (.bool (decide (joinL a b=lbN b))):=by
 refine Qb hP g152.ok rfl rfl ?_;rw[H2.e]; unfold g152; dsimp only;refine Xb (c250 a b) rfl g149.ok.plain rfl ?_;refine Xb (c252 b) rfl g151.ok.plain rfl ?_;refine Za (Xd ..) ?_;rfl
theorem Qbe(b:Int):joinL b b=lbN b:=by rw[joinL,if_pos (Or.inl rfl)]
end Go.Ah.Tz
end
section
namespace Go.Ah.Tz
open Go.Proofs.Tryz (prog)
attribute [local irreducible] Ans.rd Ans.pu Ans.wr Ans.dr Ans.gr Ans.gw Ans.gl Ans.gd Ans.opt joinK W
set_option maxHeartbeats 1000000
theorem Xdp(x:Nm):nmL x=if x.op=6 then 3 else if 8≤x.op∧x.op≤12 then nmLs 0 x.kids else 0:=by
 rw[Qdf];by_cases h:x.op=6
 ·rw[if_neg (by omega),if_pos h,if_pos h]
 ·rw[if_neg h,if_neg h]
theorem c251':∀(k:Nat) (x:Nm),SizeOf.sizeOf x≤k→nmFit x=true→PC 150 [.agg (nmC x)] (iv8 (nmL x))
 |0,x,h,_=>by cases x; simp at h
 |k+1,x,hk,hf=>by
  rw[Qx];refine Qb hP g150.ok rfl rfl ?_;rw[H1.e]; unfold g150; dsimp only;refine Yc rfl rfl ?_;rw[Xdp];have hlen:=X7 hf;rw[bigE] at hlen;generalize hB:([]++[ABlk.box [iv8 x.op,iv x.n,iv8 x.who,.rsl false false 4 (x.kids.map nmC)]]:List ABlk)=base;have hB0:hget base 0=.box [iv8 x.op,iv x.n,iv8 x.who,.rsl false false 4 (x.kids.map nmC)]:=by rw[←hB]; rfl
  clear hB;refine Za rfl (Za (ld hB0 rfl) (Za (Xd ..) ?_));refine Zb (λh=>?_) (λh=>?_)
  ·rw[if_pos (by simpa using h)]
  rw[if_neg (by simpa using h)];refine Za rfl (Za (ld hB0 rfl) (Za rfl ?_));refine Yao rfl (ld hB0 rfl) rfl ?_;rw[show (decide (x.op ≥ 8)&&decide (x.op≤12))=decide (8≤x.op∧x.op≤12) by simp];refine Zb (λh=>?_) (λh=>?_);rotate_left
  ·rw[if_neg (by simpa using h)]
  rw[if_pos (by simpa using h)];refine Za rfl (Za (ld hB0 rfl) (Za rfl ?_));clear hB0;refine Xj (ι:=Nat) (λi vs σ=>∃n,vs=[iv i,iv8 n]∧i≤x.kids.length∧nmLs 0 x.kids=nmLs n (x.kids.drop i)) (λi=>x.kids.length-i) 0 ⟨0,rfl,by omega,by simp⟩ ?_;rintro i vs σ again ⟨n,rfl,hi,hu⟩ hag;refine Za rfl ?_;refine Zb (λh=>?_) (λh=>?_)
  ·have h:i<x.kids.length:=by simpa using h
   have hdr:x.kids.drop i=x.kids[i]::x.kids.drop (i+1):=by rw[YLD h]
   rw[hdr,nmLs] at hu;have hm:x.kids[i]∈x.kids:=List.getElem_mem h;have hix:=λ(s:List ABlk)=>Yo s nmC false false 4 x.kids .i64 i h;have hsz:=Xac hm;have hfk:=XO hf hm;generalize x.kids[i]=y at hu hix hsz hfk;refine Za (hix _) (Za (ldr (nmLd _)) ?_);refine Yx (row:=[iv8 y.op,iv y.n,iv8 y.who,.rsl false false 4 (y.kids.map nmC)]) (row':=[iv8 y.op,iv y.n,iv8 y.who,.rsl false false 4 (y.kids.map nmC)]) (by rw[Qx]; rfl) rfl rfl ?_;have hB1:=Qf σ (ABlk.box [iv8 y.op,iv y.n,iv8 y.who,.rsl false false 4 (y.kids.map nmC)]);have hN:Xk true 4 [.bptr σ.length 0] (σ++[ABlk.box [iv8 y.op,iv y.n,iv8 y.who,.rsl false false 4 (y.kids.map nmC)]])=.ok (.agg (nmC y)) [σ.length] []:=ld hB1 (by rw[Qx]; rfl);refine Za hN ?_;refine Xb (c251' k y (by omega) hfk) rfl g150.ok.plain (nmRo _) ?_;refine Xb (c250 _ _) rfl g149.ok.plain rfl ?_;refine Za (Yh ..) ?_;rw[Qd (n:=i) (by omega)];exact hag (i+1) _ _ (by omega) ⟨_,rfl,by omega,hu⟩
  ·have h:i=x.kids.length:=by simp at h; omega
   subst h;rw[List.drop_length,nmLs] at hu;rw[hu]; rfl
theorem c251(x:Nm)(hf:nmFit x=true):PC 150 [.agg (nmC x)] (iv8 (nmL x)):=c251' _ x (Nat.le_refl _) hf
theorem c254':∀(k:Nat) (x:Cn),SizeOf.sizeOf x≤k→cnFit x=true→PC 153 [.agg (cnC x)] (iv8 (cnL x))
 |0,x,h,_=>by cases x; simp at h
 |k+1,x,hk,hf=>by
  rw[ZF];refine Qb hP g153.ok rfl rfl ?_;rw[H1.e]; unfold g153; dsimp only;refine Yc rfl rfl ?_;rw[Ydc];have hl1:=QQ hf;have hl2:=XQ hf;rw[bigE] at hl1 hl2;generalize hB:([]++[ABlk.box [iv8 x.op,iv8 x.who,.str x.name,.rsl false false 4 (x.nums.map nmC),.rsl false false 5 (x.kids.map cnC)]]:List ABlk)=base;have hB0:hget base 0=.box [iv8 x.op,iv8 x.who,.str x.name,.rsl false false 4 (x.nums.map nmC),.rsl false false 5 (x.kids.map cnC)]:=by rw[←hB]; rfl
  clear hB;refine Za rfl (Za (ld hB0 rfl) (Za (Xd ..) ?_));refine Zb (λh=>?_) (λh=>?_)
  ·rw[if_pos (by simpa using h)];refine Za rfl (Za (ld hB0 rfl) (Za (Xd ..) ?_));refine Zb (λh=>?_) (λh=>?_)
   ·rw[if_pos (by simpa using h)]
   rw[if_neg (by simpa using h)];refine Za (Xd ..) ?_;refine Zb (λh=>?_) (λh=>?_)
   ·rw[if_pos (by simpa using h)]
   ·rw[if_neg (by simpa using h)]
  rw[if_neg (by simpa using h)];refine Za rfl (Za (ld hB0 rfl) (Za rfl ?_));refine Xj (ι:=Nat) (λi vs σ=>∃n,vs=[iv i,iv8 n]∧hget σ 0=.box [iv8 x.op,iv8 x.who,.str x.name,.rsl false false 4 (x.nums.map nmC),.rsl false false 5 (x.kids.map cnC)]∧i≤x.nums.length∧nmLs 0 x.nums=nmLs n (x.nums.drop i)) (λi=>x.nums.length-i) 0 ⟨0,rfl,hB0,by omega,by simp⟩ ?_;rintro i vs σ again ⟨n,rfl,hB0,hi,hu⟩ hag;refine Za rfl ?_;refine Zb (λh=>?_) (λh=>?_)
  ·have h:i<x.nums.length:=by simpa using h
   have hdr:x.nums.drop i=x.nums[i]::x.nums.drop (i+1):=by rw[YLD h]
   rw[hdr,nmLs] at hu;have hm:x.nums[i]∈x.nums:=List.getElem_mem h;have hix:=λ(s:List ABlk)=>Yo s nmC false false 4 x.nums .i64 i h;have hfk:=QT hf hm;generalize x.nums[i]=y at hu hix hfk;refine Za (hix _) (Za (ldr (nmLd _)) ?_);refine Yx (row:=[iv8 y.op,iv y.n,iv8 y.who,.rsl false false 4 (y.kids.map nmC)]) (row':=[iv8 y.op,iv y.n,iv8 y.who,.rsl false false 4 (y.kids.map nmC)]) (by rw[Qx]; rfl) rfl rfl ?_;have hB1:=Qf σ (ABlk.box [iv8 y.op,iv y.n,iv8 y.who,.rsl false false 4 (y.kids.map nmC)]);have hN:Xk true 4 [.bptr σ.length 0] (σ++[ABlk.box [iv8 y.op,iv y.n,iv8 y.who,.rsl false false 4 (y.kids.map nmC)]])=.ok (.agg (nmC y)) [σ.length] []:=ld hB1 (by rw[Qx]; rfl);refine Za hN ?_;refine Xb (c251 y hfk) rfl g150.ok.plain (nmRo _) ?_;refine Xb (c250 _ _) rfl g149.ok.plain rfl ?_;refine Za (Yh ..) ?_;rw[Qd (n:=i) (by omega)];exact hag (i+1) _ _ (by omega) ⟨_,rfl,Zf _ hB0 (by simp),by omega,hu⟩
  have h:i=x.nums.length:=by simp at h; omega
  subst h;rw[List.drop_length,nmLs] at hu;rw[hu];clear hag hu hi;refine Za rfl (Za (ld hB0 rfl) (Za rfl ?_));refine Xj (ι:=Nat) (λi vs s=>∃m,vs=[iv i,iv8 m]∧i≤x.kids.length∧cnLs n x.kids=cnLs m (x.kids.drop i)) (λi=>x.kids.length-i) 0 ⟨n,rfl,by omega,by simp⟩ ?_;rintro i vs s again ⟨m,rfl,hi,hu⟩ hag;refine Za rfl ?_;refine Zb (λh=>?_) (λh=>?_)
  ·have h:i<x.kids.length:=by simpa using h
   have hdr:x.kids.drop i=x.kids[i]::x.kids.drop (i+1):=by rw[YLD h]
   rw[hdr,cnLs] at hu;have hm:x.kids[i]∈x.kids:=List.getElem_mem h;have hix:=λ(s:List ABlk)=>Yo s cnC false false 5 x.kids .i64 i h;have hfk:=XT hf hm;have hsz:=Xag hm;generalize x.kids[i]=y at hu hix hfk hsz;refine Za (hix _) (Za (ldr (cnLd _)) ?_);refine Yx (row:=[iv8 y.op,iv8 y.who,.str y.name,.rsl false false 4 (y.nums.map nmC),.rsl false false 5 (y.kids.map cnC)]) (row':=[iv8 y.op,iv8 y.who,.str y.name,.rsl false false 4 (y.nums.map nmC),.rsl false false 5 (y.kids.map cnC)]) (by rw[ZF]; rfl) rfl rfl ?_;have hB1:=Qf s (ABlk.box [iv8 y.op,iv8 y.who,.str y.name,.rsl false false 4 (y.nums.map nmC),.rsl false false 5 (y.kids.map cnC)]);have hN:Xk true 5 [.bptr s.length 0] (s++[ABlk.box [iv8 y.op,iv8 y.who,.str y.name,.rsl false false 4 (y.nums.map nmC),.rsl false false 5 (y.kids.map cnC)]])=.ok (.agg (cnC y)) [s.length] []:=ld hB1 (by rw[ZF]; rfl);refine Za hN ?_;refine Xb (c254' k y (by omega) hfk) rfl g153.ok.plain (cnRo _) ?_;refine Xb (c250 _ _) rfl g149.ok.plain rfl ?_;refine Za (Yh ..) ?_;rw[Qd (n:=i) (by omega)];exact hag (i+1) _ _ (by omega) ⟨_,rfl,by omega,hu⟩
  ·have h:i=x.kids.length:=by simp at h; omega
   subst h;rw[List.drop_length,cnLs] at hu;rw[hu]; rfl
theorem c254(x:Cn)(hf:cnFit x=true):PC 153 [.agg (cnC x)] (iv8 (cnL x)):=c254' _ x (Nat.le_refl _) hf
end Go.Ah.Tz
end
section
namespace Go.Ah.Tz
open Go.Proofs.Tryz (prog)
attribute [local irreducible] Ans.rd Ans.pu Ans.wr Ans.dr Ans.gr Ans.gw Ans.gl Ans.gd Ans.opt joinK W
theorem efRo(u:Int)(x:Ef):roL [.agg [iv8 u],.agg (efC x)]=true:=by rw[ZA]; rfl
theorem c235(u:Int)(x:Ef)(hf:efFit x=true):PC 130 [.agg [iv8 u],.agg (efC x)] (.bool (decide (joinL u (nmL x.n)=0))):=by
 rw[ZA];refine Qb hP g130.ok rfl rfl ?_;rw[H2.e]; unfold g130; dsimp only;refine Yc rfl rfl (Yc rfl rfl (Zd rfl (Zg rfl rfl (Zd rfl (Zg (ld (v:=.agg (nmC x.n)) rfl (by rw[Qx]; rfl)) rfl ?_)))));refine Xf (c251 _ (Z4 hf)) rfl g150.ok.plain (nmRo _) ?_;refine Xf (c250 _ _) rfl g149.ok.plain rfl ?_;exact Zd (Xd ..) (Xr (by kernel_rfl) rfl)
theorem c236(u:Int)(x:Ef):PC 131 [.agg [iv8 u],.agg (efC x)] (.bool (decide (lbN u=0))):=by
 rw[ZA];refine Qb hP g131.ok rfl rfl ?_;rw[H2.e]; unfold g131; dsimp only;refine Yc rfl rfl (Yc rfl rfl (Za rfl (Za rfl ?_)));refine Xb (c252 _) rfl g151.ok.plain rfl ?_;exact Za (Xd ..) rfl
theorem c237(u:Int)(x:Ef)(hf:efFit x=true):PC 132 [.agg [iv8 u],.agg (efC x)] (.bool (Xbd (joinL u (nmL x.n)) 1)):=by
 rw[ZA];refine Qb hP g132.ok rfl rfl ?_;rw[H2.e]; unfold g132; dsimp only;refine Yc rfl rfl (Yc rfl rfl (Zd rfl (Zg rfl rfl (Zd rfl (Zg (ld (v:=.agg (nmC x.n)) rfl (by rw[Qx]; rfl)) rfl ?_)))));refine Xf (c251 _ (Z4 hf)) rfl g150.ok.plain (nmRo _) ?_;refine Xf (c250 _ _) rfl g149.ok.plain rfl ?_;refine Xf (c253 _ _) rfl g152.ok.plain rfl ?_;refine Xr (by kernel_rfl) ?_;rw[Xbd,Qbe]
end Go.Ah.Tz
end
section
namespace Go.Ah.Tz
open Go.Proofs.Tryz (prog)
theorem Ym{σ:List ABlk}(l:List ABlk){c:Nat}(h:c<σ.length):hget (σ++l) c=hget σ c:=by
 simp_all [Qp,List.getElem?_append_left]
theorem Ye{σ:List ABlk}{b c:Nat}(x:ABlk)(h:c<σ.length)(hc:c≠b):hget (σ.set b x) c=hget σ c:=by
 have h1:=XaY h;exact Qp (by grind)
def Gr(σ0:List ABlk)(n:Nat)(rows:List (List AVal))(k:Nat)(v:AVal)(σ:List ABlk):Prop:=
 σ0.length≤σ.length∧(∀c,c<σ0.length→hget σ c=hget σ0 c)∧((k=0∧v=.nils∧rows=[])∨(0<k∧∃b,σ0.length≤b∧v=.sl b 0 k false∧hget σ b=.rows n rows∧rows.length=k))
theorem Gr.nil(n:Nat)(σ:List ABlk):Gr σ n [] 0 .nils σ:=⟨Nat.le_refl _,λ_ _=>rfl,.inl ⟨rfl,rfl,rfl⟩⟩
theorem Gr.grows{σ0 σ:List ABlk}{n k:Nat}{rows:List (List AVal)}{v:AVal}(h:Gr σ0 n rows k v σ):Grows n rows k v σ:=by
 rcases h.2.2 with h|⟨h1,b,_,h2,h3,h4⟩
 ·exact .inl h
 ·exact .inr ⟨h1,b,h2,h3,h4⟩
theorem Gr.old{σ0 σ:List ABlk}{n k:Nat}{rows:List (List AVal)}{v:AVal}(h:Gr σ0 n rows k v σ){c:Nat}{x:ABlk}(hx:hget σ0 c=x)(hd:x≠.dead):hget σ c=x:=by
 rw[h.2.1 c (Xh hx hd)]; exact hx
theorem Gr.base{σ0 σ:List ABlk}{l:List ABlk}{n k:Nat}{rows:List (List AVal)}{v:AVal}(h:Gr (σ0++l) n rows k v σ):Gr σ0 n rows k v σ:=by
 obtain⟨h1,h2,h3⟩:=h;simp only[List.length_append] at h1 h2 h3;refine⟨by omega,λc hc=>?_,?_⟩
 ·rw[h2 c (by omega),Ym l hc]
 grind
theorem Gr.put{σ0 σ:List ABlk}{n by_ k:Nat}{rows:List (List AVal)}{v:AVal}{z cs:List AVal}{x:AVal}(hg:Gr σ0 n rows k v σ)(hx:fill z [(0,n)] [x]=some cs)(hc:chunk n 1 cs=some [cs])(hr:cs.all AVal.cell=true)(hroom:(2*(k+1)+192)*by_≤2 ^ 48){K:AVal→List ABlk→Prop}
 (hK:∀v' σ',Gr σ0 n (rows++[cs]) (k+1) v' σ'→K v' σ'):VV.wr (ZD n 1 z [(0,n)] [x] σ) σ (λt σ=>VV.wr (Zn n by_ [v,t] σ) σ K):=by
 rw[Xaw _ _ _ _ _ cs hx hc];obtain⟨g1,g2,hg⟩:=hg;rcases hg with ⟨rfl,rfl,rfl⟩|⟨hk,b,hb0,rfl,hb,hl⟩
 ·rw[XbW _ n by_ σ cs hr (by simpa using hroom)];refine hK _ _ ⟨by simp; omega,λc hc=>?_,.inr ⟨by omega,_,?_,rfl,by have:=Qf (σ++[.rows n [cs]]) (.rows n [cs]); simpa using this,rfl⟩⟩
  ·rw[Ym _ (by simp; omega),Ym _ (by omega),g2 c hc]
  ·omega
 ·rw[YbM _ n by_ σ b k false rows cs hb hl hr hroom];refine hK _ _ ⟨by simp; omega,λc hc=>?_,.inr ⟨by omega,_,?_,rfl,?_,by simp[hl]⟩⟩
  ·rw[Ym _ (by simp; omega),Ym _ (by simp; omega),Ye _ (by omega) (by omega),g2 c hc]
  ·omega
  ·have:=Qf (σ.set b .dead++[.rows n [cs]]) (.rows n (rows++[cs]));simpa using this
inductive Pt where
 |ef (x:Ef)
 |nm (x:Nm)
 |cn (x:Cn)
inductive PtV:AVal→Pt→Prop
 |ef (x:Ef):PtV (.iface 219 (.agg [.rptr (efC x) 0])) (.ef x)
 |nm (row:List AVal) (j:Nat) (x:Nm):NmAt row j x→PtV (.iface 234 (.agg [.rptr row j])) (.nm x)
 |cn (row:List AVal) (j:Nat) (x:Cn):CnAt row j x→PtV (.iface 236 (.agg [.rptr row j])) (.cn x)
def Pt.kids:Pt→List Pt
 |.ef x=>(if cntOp x.op then [.nm x.n] else [])++(if x.op=8 then .cn x.c::(x.thn.map .ef++x.els.map .ef) else [])
 |.nm x=>x.kids.map .nm
 |.cn x=>x.nums.map .nm++x.kids.map .cn
def Pt.fit:Pt→Bool
 |.ef x=>efFit x
 |.nm x=>nmFit x
 |.cn x=>cnFit x
mutual
def nmP:Nm→List Pt
 |.mk op n who kids=>.nm (.mk op n who kids)::nmPs kids
def nmPs:List Nm→List Pt
 |[]=>[]
 |x::l=>nmP x++nmPs l
end
mutual
def cnP:Cn→List Pt
 |.mk op who name nums kids=>.cn (.mk op who name nums kids)::(nmPs nums++cnPs kids)
def cnPs:List Cn→List Pt
 |[]=>[]
 |x::l=>cnP x++cnPs l
end
mutual
def efP:Ef→List Pt
 |.mk op who n name c thn els=>.ef (.mk op who n name c thn els)::((if cntOp op then nmP n else [])++(if op=8 then cnP c++(efPs thn++efPs els) else []))
def efPs:List Ef→List Pt
 |[]=>[]
 |x::l=>efP x++efPs l
end
def flat:Pt→List Pt
 |.ef x=>efP x
 |.nm x=>nmP x
 |.cn x=>cnP x
def flats:List Pt→List Pt
 |[]=>[]
 |p::l=>flat p++flats l
theorem Z2:∀a b,flats (a++b)=flats a++flats b
 |[],b=>rfl
 |p::a,b=>by simp[flats,Z2 a b]
theorem Xbp:∀l,flats (l.map .nm)=nmPs l
 |[]=>rfl
 |x::l=>by simp[flats,Xbp l,flat,nmPs]
theorem Xb1:∀l,flats (l.map .cn)=cnPs l
 |[]=>rfl
 |x::l=>by simp[flats,Xb1 l,flat,cnPs]
theorem Qay:∀l,flats (l.map .ef)=efPs l
 |[]=>rfl
 |x::l=>by simp[flats,Qay l,flat,efPs]
theorem XcE(p:Pt):flat p=p::flats p.kids:=by
 cases p with
 |ef x=>
  obtain⟨op,who,n,name,c,thn,els⟩:=x;have e:Pt.kids (.ef (.mk op who n name c thn els))=(if cntOp op then [.nm n] else [])++(if op=8 then .cn c::(thn.map .ef++els.map .ef) else []):=rfl;rw[e,Z2];simp only[flat,efP]
  congr 2
  ·by_cases h:cntOp op=true<;>simp[h,flats,flat]
  ·by_cases h:op=8<;>simp[h,flats,flat,Z2,Qay]
 |nm x=>cases x; simp[flat,nmP,Pt.kids,Nm.kids,Xbp]
 |cn x=>cases x; simp[flat,cnP,Pt.kids,Cn.nums,Cn.kids,Z2,Xbp,Xb1]
theorem Yb1(p:Pt):0<(flat p).length:=by rw[XcE]; simp
theorem QaX:∀ {l:List Pt} {p:Pt},p∈l→(flat p).length≤(flats l).length
 |q::l,p,h=>by
  simp only[flats,List.length_append];rcases List.mem_cons.1 h with rfl|h
  ·omega
  ·have:=QaX h; omega
theorem XaX:∀l:List Pt,l.length≤(flats l).length
 |[]=>by simp
 |p::l=>by
  have:=XaX l;have:=Yb1 p;simp[flats]; omega
theorem Ydo{p q:Pt}(h:p.fit=true)(hq:q∈p.kids):q.fit=true:=by
 cases p with
 |ef x=>
  simp only[Pt.kids,List.mem_append] at hq;rcases hq with hq|hq
  ·split at hq
   ·simp at hq; subst hq; exact Z4 h
   ·simp at hq
  ·split at hq
   ·simp only[List.mem_cons,List.mem_append,List.mem_map] at hq;rcases hq with rfl|⟨y,hy,rfl⟩|⟨y,hy,rfl⟩
    ·exact ZZ h
    ·exact YO (YJ h) hy
    ·exact YO (ZJ h) hy
   ·simp at hq
 |nm x=>
  simp only[Pt.kids,List.mem_map] at hq;obtain⟨y,hy,rfl⟩:=hq;exact XO h hy
 |cn x=>
  simp only[Pt.kids,List.mem_append,List.mem_map] at hq;rcases hq with ⟨y,hy,rfl⟩|⟨y,hy,rfl⟩
  ·exact QT h hy
  ·exact XT h hy
def runL{S:Type}(step:S→Pt→S×Bool):S→List Pt→S×Bool
 |s,[]=>(s,true)
 |s,p::l=>if (step s p).2=true then runL step (step s p).1 l else ((step s p).1,false)
theorem Yad{S:Type}(step:S→Pt→S×Bool):∀(a:List Pt) (s:S) (b:List Pt),runL step s (a++b)=if (runL step s a).2=true then runL step (runL step s a).1 b else ((runL step s a).1,false)
 |[],s,b=>by simp[runL]
 |p::a,s,b=>by
  simp only[List.cons_append,runL];by_cases h:(step s p).2=true<;>simp_all [Yad]
def Bt(b:Nat)(σ σ':List ABlk):Prop:=σ.length≤σ'.length∧∀c,c<σ.length→c≠b→hget σ' c=hget σ c
theorem Bt.refl(b:Nat)(σ:List ABlk):Bt b σ σ:=⟨Nat.le_refl _,λ_ _ _=>rfl⟩
theorem Bt.trans{b:Nat}{x y z:List ABlk}(h:Bt b x y)(k:Bt b y z):Bt b x z:=⟨Nat.le_trans h.1 k.1,λc hc hb=>by rw[k.2 c (by have:=h.1; omega) hb,h.2 c hc hb]⟩
theorem Bt.old{b:Nat}{σ σ':List ABlk}(h:Bt b σ σ'){c:Nat}{x:ABlk}(hx:hget σ c=x)(hd:x≠.dead)(hc:c≠b):hget σ' c=x:=by
 rw[h.2 c (Xh hx hd) hc]; exact hx
theorem Bt.gr{σ σ':List ABlk}(b:Nat)(h1:σ.length≤σ'.length)(h:∀c,c<σ.length→hget σ' c=hget σ c):Bt b σ σ':=⟨h1,λc hc _=>h c hc⟩
def Clo{S:Type}(clo:AVal)(b:Nat)(enc:S→List AVal)(step:S→Pt→S×Bool):Prop:=
 ∀p v,PtV v p→∀s σ K,hget σ b=.box (enc s)→(∀σ',Bt b σ σ'→hget σ' b=.box (enc (step s p).1)→K (.bool (step s p).2) σ')→VV.call .callv [clo,v] σ K
inductive PtL:List AVal→List Pt→Prop
 |nil:PtL [] []
 |snoc (vs:List AVal) (ps:List Pt) (v:AVal) (p:Pt):PtL vs ps→PtV v p→PtL (vs++[v]) (ps++[p])
theorem PtL.length{vs:List AVal}{ps:List Pt}(h:PtL vs ps):vs.length=ps.length:=by
 induction h<;>simp_all
theorem PtL.get{vs:List AVal}{ps:List Pt}(h:PtL vs ps):∀i (h1:i<vs.length) (h2:i<ps.length),PtV vs[i] ps[i]:=by
 induction h with
 |nil=>intro i h; simp at h
 |snoc vs ps v p h hv ih=>
  intro i h1 h2;have hl:=h.length
  grind
def one(v:AVal):List AVal:=[v]
end Go.Ah.Tz
end
section
namespace Go.Ah.Tz
open Go.Proofs.Tryz (prog)
attribute [local irreducible] Ans.rd Ans.pu Ans.wr Ans.dr Ans.gr Ans.gw Ans.gl Ans.gd Ans.opt joinK W
set_option maxHeartbeats 2000000
def efPt(x:Ef):List AVal:=[.iface 219 (.agg [.rptr (efC x) 0])]
def nmPt(x:Nm):List AVal:=[.iface 234 (.agg [.rptr (nmC x) 0])]
def cnPt(x:Cn):List AVal:=[.iface 236 (.agg [.rptr (cnC x) 0])]
theorem XdF{σ0 σ:List ABlk}{k:Nat}{rows:List (List AVal)}{v:AVal}(l:List Ef)(hl:k+l.length≤1000000000)(hg:Gr σ0 1 rows k v σ){K:List AVal→List ABlk→Prop}
 (hK:∀v' σ' w,Gr σ0 1 (rows++l.map efPt) (k+l.length) v' σ'→K [w,v'] σ') :
  VV.loop (λag v55 σ=>VV.rd (Yn .lss false [(h0 v55),iv l.length] σ) λt72_56=>VV.test t72_56 (
   VV.rd (Zo 14 [efV l,(h0 v55)] σ) λt77_57=>VV.rd (ZS [.nilp] [(0,1)] [t77_57] σ) λt78_58=>VV.rd (QB 219 [t78_58] σ) λt79_59=>
   VV.wr (ZD 1 1 [.nili] [(0,1)] [t79_59] σ) σ λt80_60 σ=>VV.wr (Zn 1 16 [(h1 v55),t80_60] σ) σ λt81_61 σ=>
   VV.rd (Yn .add false [(h0 v55),(.int .i64 1)] σ) λt82_62=>ag [t82_62,t81_61] σ) (K v55 σ)) [(.int .i64 0),v] σ:=by
 refine Xj (ι:=Nat) (λi vs s=>∃v,vs=[iv i,v]∧i≤l.length∧Gr σ0 1 (rows++(l.take i).map efPt) (k+i) v s) (λi=>l.length-i) 0 ⟨v,rfl,by omega,by simpa using hg⟩ ?_;rintro i vs s again ⟨v,rfl,hi,hg⟩ hag;refine Za rfl (Zb (λh=>?_) (λh=>?_))
 ·have h:i<l.length:=by simpa using h
  refine Za (Yo _ efC _ _ _ l _ i h) (Za rfl (Za rfl ?_));refine hg.put (cs:=efPt l[i]) rfl rfl rfl (by omega) (λv' σ' hg'=>?_);refine Za (Yh ..) ?_;rw[Qd (n:=i) (by omega)];refine hag (i+1) _ _ (by omega) ⟨v',rfl,by omega,?_⟩
  grind [YW]
 grind
theorem efPtL{vs:List AVal}{ps:List Pt}(h:PtL vs ps):∀l:List Ef,PtL (vs++(l.map efPt).flatten) (ps++l.map .ef):=by
 intro l
 induction l generalizing vs ps with
 |nil=>simpa using h
 |cons x l ih=>
  have:=ih (PtL.snoc _ _ _ _ h (.ef x));simpa[efPt] using this
theorem nmPtL{vs:List AVal}{ps:List Pt}(h:PtL vs ps):∀l:List Nm,PtL (vs++(l.map nmPt).flatten) (ps++l.map .nm):=by
 intro l
 induction l generalizing vs ps with
 |nil=>simpa using h
 |cons x l ih=>
  have:=ih (PtL.snoc _ _ _ _ h (.nm (nmC x) 0 x (nmAt x)));simpa[nmPt] using this
theorem cnPtL{vs:List AVal}{ps:List Pt}(h:PtL vs ps):∀l:List Cn,PtL (vs++(l.map cnPt).flatten) (ps++l.map .cn):=by
 intro l
 induction l generalizing vs ps with
 |nil=>simpa using h
 |cons x l ih=>
  have:=ih (PtL.snoc _ _ _ _ h (.cn (cnC x) 0 x (cnAt x)));simpa[cnPt] using this
theorem XaQ{α:Type}{f:α→List AVal}(h:∀x,∃v,f x=[v]):∀l:List α,l.map f=((l.map f).flatten).map one
 |[]=>rfl
 |x::l=>by
  obtain⟨v,hv⟩:=h x;have:=XaQ h l
  grind [one]
theorem YaQ(l:List Ef):l.map efPt=((l.map efPt).flatten).map one:=XaQ (λ_=>⟨_,rfl⟩) l
theorem Qb5(l:List Nm):l.map nmPt=((l.map nmPt).flatten).map one:=XaQ (λ_=>⟨_,rfl⟩) l
theorem Qc5(l:List Cn):l.map cnPt=((l.map cnPt).flatten).map one:=XaQ (λ_=>⟨_,rfl⟩) l
theorem c208{S:Type}{enc:S→List AVal}{step:S→Pt→S×Bool}{clo:AVal}{b:Nat}(hc:Clo clo b enc step):∀(k:Nat) (p:Pt),(flat p).length≤k→p.fit=true→(flat p).length≤500000000→∀v,PtV v p→∀s σ K,hget σ b=.box (enc s) →
  (∀σ',Bt b σ σ'→hget σ' b=.box (enc (runL step s (flat p)).1)→K (.bool (runL step s (flat p)).2) σ')→g139.u VV [v,clo] σ K
 |0,p,h,_,_=>by have:=Yb1 p; omega
 |k+1,p,hk,hf,hN=>by
  intro v hv s σ K hb hK;rw[XcE] at hk hN hK;simp only[List.length_cons] at hk hN;have hkl:=XaX p.kids;rw[H2.e]; unfold g139; dsimp only;refine hc p v hv s σ _ hb (λσ1 t1 b1=>?_);simp only[runL] at hK;refine Za rfl (Zb (λh=>?_) (λh=>?_))
  ·simp_all
  have h:(step s p).2=true:=by simpa using h
  rw[h,if_pos rfl] at hK;generalize (step s p).1=s1 at hK b1;refine Zi λk2 hk2=>?_;have kk:∀v2 σ2 vs,PtL vs p.kids→Gr σ1 1 (vs.map one) vs.length v2 σ2→k2 [v2] σ2:=by
   intro v2 σ2 vs hp hg;rw[hk2]; clear hk2 k2;have hlen:=hp.length;have hb2:=hg.old b1 (by simp);have t2:Bt b σ1 σ2:=⟨hg.1,λc hc _=>hg.2.1 c hc⟩;refine Za (hg.grows.len _) ?_;refine Xj (ι:=Nat) (λi ws σ3=>∃s',ws=[iv i]∧i≤p.kids.length∧hget σ3 b=.box (enc s')∧Bt b σ2 σ3∧runL step s1 (flats p.kids)=runL step s' (flats (p.kids.drop i))) (λi=>p.kids.length-i) 0 ⟨s1,rfl,by omega,hb2,Bt.refl _ _,by simp⟩ ?_;rintro i ws σ3 again ⟨s',rfl,hi,hb3,t3,hr⟩ hag;refine Za rfl (Zb (λh=>?_) (λh=>?_))
   ·have h:i<vs.length:=by simpa using h
    have h':i<p.kids.length:=by omega
    have hg3:Grows 1 (vs.map one) vs.length v2 σ3:=by
     rcases hg.2.2 with h|⟨q1,c,q2,q3,q4,q5⟩
     ·exact .inl h
     ·refine .inr ⟨q1,c,q3,?_,q5⟩;have hcb:c≠b:=by
       grind
      exact t3.old q4 (by simp) hcb
    obtain⟨c,e1,hj,e2⟩:=hg3.at .i64 i h;refine Za e1 (Za (e2 false 1 vs[i] (by simp[one])) ?_);have hmem:p.kids[i]∈p.kids:=List.getElem_mem h';have hfl:=QaX hmem;have hdr:p.kids.drop i=p.kids[i]::p.kids.drop (i+1):=YLD h';rw[hdr,flats,Yad] at hr;refine Xg hP rfl g139.ok rfl ?_;refine c208 hc k p.kids[i] (by omega) (Ydo hf hmem) (by omega) _ (hp.get i h h') s' σ3 _ hb3 (λσ4 t4 b4=>?_);refine Za rfl (Zb (λh5=>?_) (λh5=>?_))
    ·have h5:(runL step s' (flat p.kids[i])).2=false:=by simpa using h5
     rw[h5] at hr;have:=hK σ4 ((t1.trans t2).trans (t3.trans t4)) (by rw[hr]; exact b4);rw[hr] at this; exact this
    ·have h5:(runL step s' (flat p.kids[i])).2=true:=by simpa using h5
     rw[h5,if_pos rfl] at hr;refine Za (Yh ..) ?_;rw[Qd (n:=i) (by omega)];exact hag (i+1) _ _ (by omega) ⟨_,rfl,by omega,b4,t3.trans t4,hr⟩
   ·have h:i=p.kids.length:=by simp at h; omega
    subst h;rw[List.drop_length,flats,runL] at hr;have:=hK σ3 ((t1.trans t2).trans t3) (by rw[hr]; exact hb3);rw[hr] at this; exact this
  clear hk2 hK hb hc;cases hv with
  |ef x=>
   refine Za rfl (Za rfl (Za rfl (Qc ?_)));refine Yx (row:=[.rptr (efC x) 0]) rfl rfl rfl ?_;have hB:=Qf σ1 (ABlk.box [.rptr (efC x) 0]);have hlt:σ1.length<(σ1++[ABlk.box [.rptr (efC x) 0]]).length:=by simp
   have kb:∀v2 σ2 vs,PtL vs (Pt.ef x).kids→Gr (σ1++[ABlk.box [.rptr (efC x) 0]]) 1 (vs.map one) vs.length v2 σ2→k2 [v2] σ2:=λv2 σ2 vs h1 h2=>kk v2 σ2 vs h1 h2.base;clear kk b1 t1;generalize σ1++[ABlk.box [.rptr (efC x) 0]]=τ at hB hlt kb ⊢;generalize σ1.length=c at hB hlt ⊢;refine Za rfl (Za (ld hB rfl) (Za rfl (Za rfl (Za (ldr (efLd0 _)) ?_))));refine Xb (c210 _) rfl g109.ok.plain rfl ?_;refine Zi λk14 hk14=>?_;have k1:∀v σ2 vs,PtL vs (if cntOp x.op then [.nm x.n] else [])→Gr τ 1 (vs.map one) vs.length v σ2→k14 [v] σ2:=by
    intro v σ2 vs hp hg;rw[hk14]; clear hk14 k14;have hB2:=hg.old hB (by simp);have hvl:vs.length≤1:=by rw[hp.length]; split<;>simp
    refine Za rfl (Za (ld hB2 rfl) (Za rfl (Za rfl (Za (ldr (efLd0 _)) (Za (Xd ..) ?_)))));refine Zb (λh=>?_) (λh=>?_);rotate_left
    ·have h:¬x.op=8:=by simpa using h
     refine kb _ _ vs ?_ hg;simp_all [Pt.kids]
    have h:x.op=8:=by simpa using h
    have hkids:(Pt.ef x).kids=(if cntOp x.op then [.nm x.n] else [])++(.cn x.c::(x.thn.map .ef++x.els.map .ef)):=by simp only[Pt.kids,if_pos h]
    have hlen2:x.thn.length+x.els.length+1≤500000000:=by
     grind
    refine Za rfl (Za (ld hB2 rfl) (Za rfl (Za rfl (Za rfl (Za rfl ?_)))));refine hg.put (cs:=[.iface 236 (.agg [.rptr (efC x) 7])]) rfl rfl rfl (by omega) (λv' σ' hg'=>?_);have hB3:=hg'.old hB (by simp);refine Za rfl (Za (ld hB3 rfl) (Za rfl (Za rfl (Za (ldr (Yp _)) ?_))));refine Za rfl (Za (ld hB3 rfl) (Za rfl (Za rfl (Za (ldr (Xp _)) ?_))));refine Za rfl ?_;refine XM 3 (Yl (Za rfl (Qc (Za rfl ?_))));refine Za (v:=iv x.thn.length) (rd:=[]) (by simp[Yf]) ?_;refine XdF x.thn (by omega) hg' (λv3 σ3 w hg3=>?_);refine Za rfl (Yl (Za rfl (Qc (Za rfl ?_))));refine Za (v:=iv x.els.length) (rd:=[]) (by simp[Yf]) ?_;refine XdF x.els (by omega) hg3 (λv4 σ4 w hg4=>?_);refine Za rfl (Yl (Za rfl (Yd ?_)));refine kb _ _ ((vs++[.iface 236 (.agg [.rptr (efC x) 7])])++(x.thn.map efPt).flatten++(x.els.map efPt).flatten) ?_ ?_
    ·rw[hkids];have:=efPtL (efPtL (PtL.snoc _ _ _ _ hp (.cn (efC x) 7 x.c (cnAt7 x))) x.thn) x.els;simpa using this
    ·have e1:((vs++[AVal.iface 236 (.agg [.rptr (efC x) 7])])++(x.thn.map efPt).flatten++(x.els.map efPt).flatten).map one=List.map one vs++[[AVal.iface 236 (.agg [.rptr (efC x) 7])]]++List.map efPt x.thn++List.map efPt x.els:=by
      rw[List.map_append,List.map_append,←YaQ,←YaQ,List.map_append]; rfl
     have e2:((vs++[AVal.iface 236 (.agg [.rptr (efC x) 7])])++(x.thn.map efPt).flatten++(x.els.map efPt).flatten).length=vs.length+1+x.thn.length+x.els.length:=by
      have l1:=congrArg List.length (YaQ x.thn);have l2:=congrArg List.length (YaQ x.els)
      grind
     rw[e1,e2]; exact hg4
   clear hk14;refine Zb (λh=>?_) (λh=>?_)
   ·refine Za rfl (Za (ld hB rfl) (Za rfl (Za rfl (Za rfl (Za rfl ?_)))));refine(Gr.nil 1 τ).put (cs:=[.iface 234 (.agg [.rptr (efC x) 2])]) rfl rfl rfl (by omega) (λv' σ' hg'=>?_);refine k1 _ _ [.iface 234 (.agg [.rptr (efC x) 2])] ?_ hg';rw[if_pos h];exact PtL.snoc [] [] _ _ .nil (.nm (efC x) 2 x.n (nmAt2 x))
   ·refine k1 _ _ [] ?_ (Gr.nil 1 τ);rw[h]; exact .nil
  |nm row j x hx=>
   refine Za rfl (Za rfl (Za rfl (Yd ?_)));refine Za rfl (Za rfl (Za rfl (Qc ?_)));refine Yx (row:=[.rptr row j]) rfl rfl rfl ?_;have hB:=Qf σ1 (ABlk.box [.rptr row j]);have kb:∀v2 σ2 vs,PtL vs (Pt.nm x).kids→Gr (σ1++[ABlk.box [.rptr row j]]) 1 (vs.map one) vs.length v2 σ2→k2 [v2] σ2:=λv2 σ2 vs h1 h2=>kk v2 σ2 vs h1 h2.base;clear kk b1 t1;generalize σ1++[ABlk.box [.rptr row j]]=τ at hB kb ⊢;generalize σ1.length=c at hB ⊢;have hlen2:x.kids.length≤500000000:=by
    grind [Pt.kids]
   refine Za rfl (Za (ld hB rfl) (Za rfl (Za rfl (Za (ldr hx.h3) ?_))));refine Za (v:=iv x.kids.length) (rd:=[]) (by simp[Yf]) ?_;refine Xj (ι:=Nat) (λi vs s=>∃v,vs=[iv i,v]∧i≤x.kids.length∧Gr τ 1 ((x.kids.take i).map nmPt) i v s) (λi=>x.kids.length-i) 0 ⟨_,rfl,by omega,by simpa using Gr.nil 1 τ⟩ ?_;rintro i vs s again ⟨v,rfl,hi,hg⟩ hag;refine Za rfl (Zb (λh=>?_) (λh=>?_))
   ·have h:i<x.kids.length:=by simpa using h
    refine Za rfl (Za (ld (hg.old hB (by simp)) rfl) (Za rfl (Za rfl (Za (ldr hx.h3) ?_))));refine Za (Yo _ nmC _ _ _ x.kids _ i h) (Za rfl (Za rfl ?_));refine hg.put (cs:=nmPt x.kids[i]) rfl rfl rfl (by omega) (λv' σ' hg'=>?_);refine Za (Yh ..) ?_;rw[Qd (n:=i) (by omega)];refine hag (i+1) _ _ (by omega) ⟨v',rfl,by omega,?_⟩
    grind [YW]
   ·have h:i=x.kids.length:=by simp at h; omega
    subst h;rw[List.take_length] at hg;refine kb _ _ (x.kids.map nmPt).flatten ?_ ?_
    ·have:=nmPtL .nil x.kids;simpa[Pt.kids] using this
    ·have e1:=Qb5 x.kids;have e2:=congrArg List.length e1;rw[←e1];simp only[List.length_map] at e2;rw[←e2]; exact hg
  |cn row j x hx=>
   refine Za rfl (Za rfl (Za rfl (Yd ?_)));refine Za rfl (Za rfl (Za rfl (Yd ?_)));refine Za rfl (Za rfl (Za rfl (Qc ?_)));refine Yx (row:=[.rptr row j]) rfl rfl rfl ?_;have hB:=Qf σ1 (ABlk.box [.rptr row j]);have kb:∀v2 σ2 vs,PtL vs (Pt.cn x).kids→Gr (σ1++[ABlk.box [.rptr row j]]) 1 (vs.map one) vs.length v2 σ2→k2 [v2] σ2:=λv2 σ2 vs h1 h2=>kk v2 σ2 vs h1 h2.base;clear kk b1 t1;generalize σ1++[ABlk.box [.rptr row j]]=τ at hB kb ⊢;generalize σ1.length=c at hB ⊢;have hlen2:x.nums.length+x.kids.length≤500000000:=by
    grind [Pt.kids]
   refine Za rfl (Za (ld hB rfl) (Za rfl (Za rfl (Za (ldr hx.h3) ?_))));refine Za (v:=iv x.nums.length) (rd:=[]) (by simp[Yf]) ?_;refine Xj (ι:=Nat) (λi vs s=>∃v,vs=[iv i,v]∧i≤x.nums.length∧Gr τ 1 ((x.nums.take i).map nmPt) i v s) (λi=>x.nums.length-i) 0 ⟨_,rfl,by omega,by simpa using Gr.nil 1 τ⟩ ?_;rintro i vs s again ⟨v,rfl,hi,hg⟩ hag;refine Za rfl (Zb (λh=>?_) (λh=>?_))
   ·have h:i<x.nums.length:=by simpa using h
    refine Za rfl (Za (ld (hg.old hB (by simp)) rfl) (Za rfl (Za rfl (Za (ldr hx.h3) ?_))));refine Za (Yo _ nmC _ _ _ x.nums _ i h) (Za rfl (Za rfl ?_));refine hg.put (cs:=nmPt x.nums[i]) rfl rfl rfl (by omega) (λv' σ' hg'=>?_);refine Za (Yh ..) ?_;rw[Qd (n:=i) (by omega)];refine hag (i+1) _ _ (by omega) ⟨v',rfl,by omega,?_⟩
    grind [YW]
   have h:i=x.nums.length:=by simp at h; omega
   subst h;rw[List.take_length] at hg;clear hag;refine Za rfl (Za (ld (hg.old hB (by simp)) rfl) (Za rfl (Za rfl (Za (ldr hx.h4) ?_))));refine Za (v:=iv x.kids.length) (rd:=[]) (by simp[Yf]) ?_;refine Xj (ι:=Nat) (λi vs s=>∃v,vs=[iv i,v]∧i≤x.kids.length∧Gr τ 1 (x.nums.map nmPt++(x.kids.take i).map cnPt) (x.nums.length+i) v s) (λi=>x.kids.length-i) 0 ⟨_,rfl,by omega,by simpa[h1,hdV,tlV] using hg⟩ ?_;clear hg;rintro i vs s again ⟨v,rfl,hi,hg⟩ hag;refine Za rfl (Zb (λh=>?_) (λh=>?_))
   ·have h:i<x.kids.length:=by simpa using h
    refine Za rfl (Za (ld (hg.old hB (by simp)) rfl) (Za rfl (Za rfl (Za (ldr hx.h4) ?_))));refine Za (Yo _ cnC _ _ _ x.kids _ i h) (Za rfl (Za rfl ?_));refine hg.put (cs:=cnPt x.kids[i]) rfl rfl rfl (by omega) (λv' σ' hg'=>?_);refine Za (Yh ..) ?_;rw[Qd (n:=i) (by omega)];refine hag (i+1) _ _ (by omega) ⟨v',rfl,by omega,?_⟩
    grind [YW]
   ·have h:i=x.kids.length:=by simp at h; omega
    subst h;rw[List.take_length] at hg;refine kb _ _ ((x.nums.map nmPt).flatten++(x.kids.map cnPt).flatten) ?_ ?_
    ·have:=cnPtL (nmPtL .nil x.nums) x.kids;simpa[Pt.kids] using this
    ·have e1:((x.nums.map nmPt).flatten++(x.kids.map cnPt).flatten).map one=x.nums.map nmPt++x.kids.map cnPt:=by
      grind [Qb5,Qc5]
     have e2:=congrArg List.length e1;simp only[List.length_map,List.length_append] at e2;simp_all
end Go.Ah.Tz
end
section
namespace Go.Ah.Tz
open Go.Proofs.Tryz (prog)
mutual
theorem ZcK:∀x:Nm,nmW x=min ((nmP x).length:Int) 1073741824
 |.mk op n who kids=>by
  simp only[nmW,nmP,List.length_cons]
  rw[YcK 1 kids (by omega) (by omega)]; omega
theorem YcK:∀(n:Int) (l:List Nm),0≤n→n≤1073741824→nmWs n l=min (n+((nmPs l).length:Int)) 1073741824
 |n,[],h1,h2=>by simp only[nmWs,nmPs,List.length_nil]; omega
 |n,x::l,h1,h2=>by
  simp only[nmWs,nmPs,List.length_append]
  rw[ZcK x,YcK _ l (by omega) (by omega)]; omega
end
mutual
theorem Xdx:∀x:Cn,cnW x=min ((cnP x).length:Int) 1073741824
 |.mk op who name nums kids=>by
  simp only[cnW,cnP,List.length_cons,List.length_append]
  rw[YcK 1 nums (by omega) (by omega),Zdd _ kids (by omega) (by omega)]; omega
theorem Zdd:∀(n:Int) (l:List Cn),0≤n→n≤1073741824→cnWs n l=min (n+((cnPs l).length:Int)) 1073741824
 |n,[],h1,h2=>by simp only[cnWs,cnPs,List.length_nil]; omega
 |n,x::l,h1,h2=>by
  simp only[cnWs,cnPs,List.length_append]
  rw[Xdx x,Zdd _ l (by omega) (by omega)]; omega
end
mutual
theorem efW_P:∀(n:Int) (x:Ef),0≤n→n≤1073741824→efW n x=min (n+((efP x).length:Int)) 1073741824
 |n,.mk op who nn name c thn els,h1,h2=>by
  simp only[efW,efP,List.length_cons,List.length_append]
  rw[ZcK nn,Xdx c,Zbd 0 thn (by omega) (by omega),Zbd 0 els (by omega) (by omega)]
  generalize cntOp op=cb
  by_cases h:op=8
  ·simp only[if_pos h]
   cases cb<;>simp only[if_true,if_false,List.length_append,List.length_nil,Bool.false_eq_true]<;>omega
  ·simp only[if_neg h]
   cases cb<;>simp only[if_true,if_false,List.length_nil,Bool.false_eq_true]<;>omega
theorem Zbd:∀(n:Int) (l:List Ef),0≤n→n≤1073741824→efsW n l=min (n+((efPs l).length:Int)) 1073741824
 |n,[],h1,h2=>by simp only[efsW,efPs,List.length_nil]; omega
 |n,x::l,h1,h2=>by
  simp only[efsW,efPs,List.length_append]
  rw[efW_P n x h1 h2,Zbd _ l (by omega) (by omega)]; omega
end
def cdP(c:Cd):List Pt:=efPs c.played++(efPs c.dead++efPs c.dawn)
theorem XcY(c:Cd):cdW c=min ((cdP c).length:Int) 1073741824:=by
 rw[cdW,Zbd 0 _ (by omega) (by omega),Zbd 0 _ (by omega) (by omega),Zbd 0 _ (by omega) (by omega),cdP];simp only[List.length_append]; omega
attribute [local irreducible] Ans.rd Ans.pu Ans.wr Ans.dr Ans.gr Ans.gw Ans.gl Ans.gd Ans.opt joinK W
set_option maxHeartbeats 1000000
theorem YcD(l:List Ef):efPs l=flats (l.map .ef):=(Qay l).symm
theorem XcH{S:Type}{enc:S→List AVal}{step:S→Pt→S×Bool}{clo:AVal}{b:Nat}(hc:Clo clo b enc step)(l:List Ef)(hf:lsFit l=true)(hN:(efPs l).length≤500000000){s:S}{σ:List ABlk}(hb:hget σ b=.box (enc s)){R:List ABlk→Prop}{K:List AVal→List ABlk→Prop}
 (hR:∀σ',Bt b σ σ'→hget σ' b=.box (enc (runL step s (efPs l)).1)→(runL step s (efPs l)).2=false→R σ')(hK:∀w σ',Bt b σ σ'→hget σ' b=.box (enc (runL step s (efPs l)).1)→(runL step s (efPs l)).2=true→K w σ') :
  VV.loop (λag15 v16 σ=>VV.rd (Yn .lss false [(h0 v16),iv l.length] σ) λt26_17=>VV.test t26_17 (
   VV.rd (Zo 14 [efV l,(h0 v16)] σ) λt30_18=>VV.rd (ZS [.nilp] [(0,1)] [t30_18] σ) λt31_19=>VV.rd (QB 219 [t31_19] σ) λt32_20=>
   VV.call (.call 139) [t32_20,clo] σ λt34_21 σ=>VV.rd (Za9 .not [t34_21] σ) λt35_22=>VV.test t35_22 (R σ) (
   VV.rd (Yn .add false [(h0 v16),(.int .i64 1)] σ) λt36_23=>ag15 [t36_23] σ)) (K v16 σ)) [(.int .i64 0)] σ:=by
 have hl:=XaX (l.map .ef);rw[Qay,List.length_map] at hl;rw[YcD] at hR hK;refine Xj (ι:=Nat) (λi ws σ3=>∃s',ws=[iv i]∧i≤l.length∧hget σ3 b=.box (enc s')∧Bt b σ σ3∧runL step s (flats (l.map .ef))=runL step s' (flats ((l.drop i).map .ef))) (λi=>l.length-i) 0 ⟨s,rfl,by omega,hb,Bt.refl _ _,by simp⟩ ?_;rintro i ws σ3 again ⟨s',rfl,hi,hb3,t3,hr⟩ hag;refine Za rfl (Zb (λh=>?_) (λh=>?_))
 ·have h:i<l.length:=by simpa using h
  refine Za (Yo _ efC _ _ _ l _ i h) (Za rfl (Za rfl ?_));have hdr:l.drop i=l[i]::l.drop (i+1):=YLD h;rw[hdr,List.map_cons,flats,Yad] at hr;refine Xg hP rfl g139.ok rfl ?_;have hm:=QaX (l:=l.map .ef) (p:=.ef l[i]) (List.mem_map_of_mem (List.getElem_mem h));rw[Qay] at hm;refine c208 hc _ (.ef l[i]) (Nat.le_refl _) (YO hf (List.getElem_mem h)) (by omega) _ (.ef _) s' σ3 _ hb3 (λσ4 t4 b4=>?_);refine Za rfl (Zb (λh5=>?_) (λh5=>?_))
  ·have h5:(runL step s' (flat (.ef l[i]))).2=false:=by simpa using h5
   rw[h5] at hr;exact hR σ4 (t3.trans t4) (by rw[hr]; exact b4) (by rw[hr]; rfl)
  ·have h5:(runL step s' (flat (.ef l[i]))).2=true:=by simpa using h5
   rw[h5,if_pos rfl] at hr;refine Za (Yh ..) ?_;rw[Qd (n:=i) (by omega)];exact hag (i+1) _ _ (by omega) ⟨_,rfl,by omega,b4,t3.trans t4,hr⟩
 ·have h:i=l.length:=by simp at h; omega
  subst h;rw[List.drop_length,List.map_nil,flats,runL] at hr;exact hK _ σ3 t3 (by rw[hr]; exact hb3) (by rw[hr])
theorem c155{S:Type}{enc:S→List AVal}{step:S→Pt→S×Bool}{clo:AVal}{b:Nat}(hc:Clo clo b enc step)(c:Cd)(f1:lsFit c.played=true)(f2:lsFit c.dead=true)(f3:lsFit c.dawn=true)(hN:(cdP c).length≤500000000){s:S}{σ:List ABlk}{cb:Nat}(hcb:hget σ cb=.box (cdC c))(hb:hget σ b=.box (enc s)){K:AVal→List ABlk→Prop}
 (hK:∀σ',Bt b σ σ'→hget σ' b=.box (enc (runL step s (cdP c)).1)→K (.tup []) σ'):g106.u VV [.bptr cb 0,clo] σ K:=by
 simp only[cdP,List.length_append] at hN;simp only[cdP,Yad] at hK;rw[H2.e]; unfold g106; dsimp only;refine Za rfl (Za rfl (Za (ld hcb rfl) (Za rfl (Za rfl (Za (ld hcb rfl) (Za rfl (Za rfl (Za (ld hcb rfl) (Za rfl ?_)))))))));refine XM 4 (Yl (Za rfl (Qc (Za rfl ?_))));refine Za (v:=iv c.played.length) (rd:=[]) (by simp[Yf]) ?_;refine XcH hc c.played f1 (by omega) hb (λσ1 t1 b1 h1=>?_) (λw σ1 t1 b1 h1=>?_)
 ·rw[h1] at hK; exact hK σ1 t1 b1
 rw[h1,if_pos rfl] at hK;refine Za rfl (Yl (Za rfl (Qc (Za rfl ?_))));refine Za (v:=iv c.dead.length) (rd:=[]) (by simp[Yf]) ?_;refine XcH hc c.dead f2 (by omega) b1 (λσ2 t2 b2 h2=>?_) (λw σ2 t2 b2 h2=>?_)
 ·rw[h2] at hK; exact hK σ2 (t1.trans t2) b2
 rw[h2,if_pos rfl] at hK;refine Za rfl (Yl (Za rfl (Qc (Za rfl ?_))));refine Za (v:=iv c.dawn.length) (rd:=[]) (by simp[Yf]) ?_;refine XcH hc c.dawn f3 (by omega) b2 (λσ3 t3 b3 h3=>?_) (λw σ3 t3 b3 h3=>?_)
 ·exact hK σ3 ((t1.trans t2).trans t3) b3
 refine Za rfl (Yl (Za rfl (Yd ?_)));exact hK σ3 ((t1.trans t2).trans t3) b3
def cntS(n:Int)(_:Pt):Int×Bool:=(IntKind.i64.wrap (n+1),decide (IntKind.i64.wrap (n+1)<1073741824))
theorem QcN:∀(l:List Pt) (n:Int),0≤n→n+(l.length:Int)<1073741824→runL cntS n l=(n+(l.length:Int),true)
 |[],n,_,_=>by simp[runL]
 |p::l,n,h1,h2=>by
  simp only[List.length_cons] at h2;have hw:IntKind.i64.wrap (n+1)=n+1:=wrapI (by omega) (by omega);simp only[runL,cntS,hw];rw[if_pos (by simp; omega),QcN l (n+1) (by omega) (by omega),List.length_cons]
  congr 1; omega
theorem clo156(b:Nat):Clo (.func (.func 107) [] [.bptr b 0]) b (λn:Int=>[iv n]) cntS:=by
 intro p v hv s σ K hb hK;refine Xg hP rfl g107.ok rfl ?_;show g107.u VV [v,.bptr b 0] σ K;rw[H2.e]; unfold g107; dsimp only;have hlt:=Xh hb (by simp);refine Za (ld hb rfl) (Za (Yh ..) (Yc (stv hb rfl rfl rfl) (Yj _ hlt) ?_));have hb2:hget (σ.set b (.box [iv (IntKind.i64.wrap (s+1))])) b=.box [iv (IntKind.i64.wrap (s+1))]:=Qg _ hlt;refine Za (ld hb2 rfl) (Za (XP ..) ?_);exact hK _ ⟨by simp,λc hc hne=>Ye _ hc hne⟩ hb2
theorem c124(c:Cd)(f1:lsFit c.played=true)(f2:lsFit c.dead=true)(f3:lsFit c.dawn=true)(hN:(cdP c).length≤500000000):PC 77 [.agg (cdC c)] (iv (cdW c)):=by
 refine Qb hP g77.ok rfl rfl ?_;rw[H1.e]; unfold g77; dsimp only;refine Yc rfl rfl (Yc rfl rfl (Yc rfl rfl (Za rfl ?_)));refine Xg hP rfl g106.ok rfl ?_;refine c155 (clo156 1) c f1 f2 f3 hN (s:=0) rfl rfl (λσ' _ hb=>?_);rw[QcN _ 0 (by omega) (by omega)] at hb;refine Za (ld hb rfl) ?_;rw[XcY]
 congr 1; omega
end Go.Ah.Tz
end
section
namespace Go.Ah.Tz
open Go.Proofs.Tryz (prog)
attribute [local irreducible] Ans.rd Ans.pu Ans.wr Ans.dr Ans.gr Ans.gw Ans.gl Ans.gd Ans.opt joinK W
set_option maxHeartbeats 1000000
theorem Yaa(σ:List ABlk)(x:Ef):Qaf [.agg (efC x)] σ=.ok (.bptr σ.length 0) [] [(σ.length,.box (efC x))]:=by rw[ZA]; rfl
def idxF{α:Type}(f:α→Bool):List α→Int→Int
 |[],_=>-1
 |x::l,n=>if f x=true then n else idxF f l (n+1)
theorem QaP{α:Type}(f:α→Bool):∀(l:List α) (n:Int),0≤n→decide (0≤idxF f l n)=l.any f
 |[],_,_=>rfl
 |x::l,n,h=>by
  by_cases hf:f x=true
  ·simp_all [idxF]
  ·have e:idxF f (x::l) n=idxF f l (n+1):=if_neg hf;have hf':f x=false:=by simpa using hf
   rw[e,QaP f l (n+1) (by omega),List.any_cons,hf']; rfl
theorem Zbu{P:Program}{GL:Globs}{c d:Bool}{K:AVal→Prop}{r1:SRes}{f2 f3 f4:AVal→SRes}{σ:List ABlk}{v1 v2 v3:AVal}{q1 q2 q3 q4:List Nat}(h1:r1=.ok v1 q1 [])(h2:f2 v1=.ok v2 q2 [])(h3:f3 v2=.ok v3 q3 [])(h4:f4 v3=.ok (.bool d) q4 [])(hK:K (.bool (c&&d))) :
  (W P GL).gr (.bool c) true (λk=>(W P GL).rd r1 k) λt1=>(W P GL).gr (.bool c) true (λk=>(W P GL).rd (f2 t1) k) λt2=>(W P GL).gr (.bool c) true (λk=>(W P GL).rd (f3 t2) k) λt3=>(W P GL).gr (.bool c) true (λk=>(W P GL).rd (f4 t3) k) λt4=>(W P GL).rd (Xm [.bool c,t4,.bool false] σ) K:=by
 cases c with
 |true=>exact Ya (Za h1 (Ya (Za h2 (Ya (Za h3 (Ya (Za h4 (Za rfl hK))))))))
 |false=>exact Qa rfl (Qa rfl (Qa rfl (Qa rfl (Za rfl hK))))
theorem c255(l:List Ef)(hl:l.length≤big)(id:FuncId)(fs cs:List AVal)(hp:Yi prog id=true)(f:Ef→Bool)(hc:∀x∈l,PC id (fs++[.agg (efC x)]++cs) (.bool (f x)))(hr:∀x,roL (fs++[.agg (efC x)]++cs)=true) :
  PC 154 [efV l,.func (.func id) fs cs] (iv (idxF f l 0)):=by
 rw[bigE] at hl;refine Qb hP g154.ok rfl rfl ?_;rw[H2.e]; unfold g154; dsimp only;refine Za (v:=iv l.length) (rd:=[]) (by simp[Yf]) ?_;refine Xj (ι:=Nat) (λi vs s=>vs=[iv i]∧i≤l.length∧idxF f l 0=idxF f (l.drop i) i) (λi=>l.length-i) 0 ⟨rfl,by omega,by simp⟩ ?_;rintro i vs s again ⟨rfl,hi,hr'⟩ hag;refine Za rfl (Zb (λh=>?_) (λh=>?_))
 ·have h:i<l.length:=by simpa using h
  refine Za (Yo _ efC _ _ _ l _ i h) (Za (ldr (efLd _)) ?_);refine Xb (hc _ (List.getElem_mem h)) rfl hp (hr _) ?_;rw[YLD h,idxF] at hr';refine Zb (λh2=>?_) (λh2=>?_)
  ·rw[if_pos h2] at hr'; rw[hr']; rfl
  ·rw[if_neg (by rw[h2]; simp)] at hr';refine Za (Yh ..) ?_;rw[Qd (n:=i) (by omega)]
   grind
 grind [idxF]
theorem c239(l:List Ef)(hl:l.length≤big)(id:FuncId)(fs cs:List AVal)(hp:Yi prog id=true)(f:Ef→Bool)(hc:∀x∈l,PC id (fs++[.agg (efC x)]++cs) (.bool (f x)))(hr:∀x,roL (fs++[.agg (efC x)]++cs)=true)(hr2:roL [efV l,.func (.func id) fs cs]=true) :
  PC 134 [efV l,.func (.func id) fs cs] (.bool (l.any f)):=by
 refine Qb hP g134.ok rfl rfl ?_;rw[H2.e]; unfold g134; dsimp only;refine Xb (c255 l hl id fs cs hp f hc hr) rfl g154.ok.plain hr2 ?_;refine Za (Yah ..) ?_;rw[QaP f l 0 (by omega)]
def asksR(u:Int):List AVal:=[.func (.func 130) [.agg [iv8 u]] [],.func (.func 130) [.agg [iv8 u]] [],.func (.func 130) [.agg [iv8 u]] [],.func (.func 130) [.agg [iv8 u]] [],.func (.func 131) [.agg [iv8 u]] [],.func (.func 132) [.agg [iv8 u]] [],.func (.func 131) [.agg [iv8 u]] [],.func (.func 131) [.agg [iv8 u]] [],.func (.func 133) [.agg [iv8 u]] []]
theorem c240(u:Int)(x:Ef)(hf:efFit x=true)(h238:x.op=8→PC 133 [.agg [iv8 u],.agg (efC x)] (.bool (efL u x))):PC 135 [.agg (efC x),.rptr [iv8 u] 0,.rptr (asksR u) 0] (.bool (!efL u x)):=by
 have hop:=Xc2 hf;refine Qb hP g135.ok rfl rfl ?_;rw[H3.e]; unfold g135; dsimp only;refine Yc (Yaa _ _) rfl (Za rfl (Za rfl (Za rfl (Za (ld rfl (efLd0 x)) (Za (Yah ..) ?_)))));have p235:x.op=0∨x.op=1∨x.op=2∨x.op=3→PC 130 [.agg [iv8 u],.agg (efC x)] (.bool (efL u x)):=by
  intro h;have e:efL u x=decide (joinL u (nmL x.n)=0):=by rw[Xbz,if_neg (by omega),if_neg (by omega),if_pos h]
  rw[e]; exact c235 u x hf
 have p236:¬(x.op=0∨x.op=1∨x.op=2∨x.op=3)→x.op≠5→x.op≠8→PC 131 [.agg [iv8 u],.agg (efC x)] (.bool (efL u x)):=by
  intro h h5 h8;have e:efL u x=decide (lbN u=0):=by simp_all [Xbz,Qbe]
  rw[e]; exact c236 u x
 have p237:x.op=5→PC 132 [.agg [iv8 u],.agg (efC x)] (.bool (efL u x)):=by
  intro h;have e:efL u x=Xbd (joinL u (nmL x.n)) 1:=by rw[Xbz,if_pos h]
  rw[e]; exact c237 u x hf
 refine Zbu rfl (ld rfl (efLd0 x)) rfl (XP ..) ?_;rw[wrapI (n:=x.op) (by omega) (by omega)];refine Zi λk11 hk11=>?_;have hk:∀id,Yi prog id=true→PC id [.agg [iv8 u],.agg (efC x)] (.bool (efL u x))→k11 [.func (.func id) [.agg [iv8 u]] []] [.box (efC x)]:=by
  intro id hp hc;rw[hk11];refine Za (ld rfl (efLd x)) ?_;refine Xb hc rfl hp (efRo u x) ?_;exact Za rfl rfl
 clear hk11;refine Zb (λh=>?_) (λh=>?_)
 ·have h:0≤x.op∧x.op<9:=by simpa using h
  refine Za rfl (Za (ld rfl (efLd0 x)) ?_);have hcs:x.op=0∨x.op=1∨x.op=2∨x.op=3∨x.op=4∨x.op=5∨x.op=6∨x.op=7∨x.op=8:=by omega
  rcases hcs with e|e|e|e|e|e|e|e|e
  ·have q:=p235 (by omega); rw[e]; exact Za rfl (Za rfl (hk _ g130.ok.plain q))
  ·have q:=p235 (by omega); rw[e]; exact Za rfl (Za rfl (hk _ g130.ok.plain q))
  ·have q:=p235 (by omega); rw[e]; exact Za rfl (Za rfl (hk _ g130.ok.plain q))
  ·have q:=p235 (by omega); rw[e]; exact Za rfl (Za rfl (hk _ g130.ok.plain q))
  ·have q:=p236 (by omega) (by omega) (by omega); rw[e]; exact Za rfl (Za rfl (hk _ g131.ok.plain q))
  ·have q:=p237 e; rw[e]; exact Za rfl (Za rfl (hk _ g132.ok.plain q))
  ·have q:=p236 (by omega) (by omega) (by omega); rw[e]; exact Za rfl (Za rfl (hk _ g131.ok.plain q))
  ·have q:=p236 (by omega) (by omega) (by omega); rw[e]; exact Za rfl (Za rfl (hk _ g131.ok.plain q))
  ·have q:=h238 e; rw[e]; exact Za rfl (Za rfl (hk _ g133.ok.plain q))
 ·have h:0≤x.op→¬x.op<9:=by simpa using h
  exact hk _ g131.ok.plain (p236 (by omega) (by omega) (by omega))
theorem c238(u:Int)(x:Ef)(hf:efFit x=true)(h1:∀u',PC 102 [.agg [iv8 u'],efV x.thn] (.bool (efsL u' x.thn)))(h2:∀u',PC 102 [.agg [iv8 u'],efV x.els] (.bool (efsL u' x.els))) :
  PC 133 [.agg [iv8 u],.agg (efC x)] (.bool (efsL (joinL u (cnL x.c)) x.thn&&efsL (joinL u (cnL x.c)) x.els)):=by
 refine Qb hP g133.ok rfl rfl ?_;rw[H2.e]; unfold g133; dsimp only;refine Yc rfl rfl (Yc (Yaa _ _) rfl (Zd rfl (Zg rfl rfl (Zd rfl (Zg (ld rfl (efLdC x)) rfl ?_)))));refine Xf (c254 _ (ZZ hf)) rfl g153.ok.plain (cnRo _) ?_;refine Xf (c250 _ _) rfl g149.ok.plain rfl ?_;refine Zd rfl (Zg rfl rfl (Zg rfl rfl (Xr (by kernel_rfl) ?_)));refine Za rfl (Za rfl (Za (ld rfl (Yp x)) ?_));refine Xb (h1 _) rfl g102.ok.plain rfl ?_;rcases YBE (efsL (joinL u (cnL x.c)) x.thn) with h|h
 ·rw[h];refine Ya (Za rfl (Ya (Za rfl (Ya (Za (ld rfl (Xp x)) (Xa ?_))))));refine Xb (h2 _) rfl g102.ok.plain rfl ?_;exact Za rfl rfl
 ·rw[h];exact Qa rfl (Qa rfl (Qa rfl (Yb rfl (Za rfl rfl))))
theorem Yb0(u:Int):∀l,efsL u l=l.all (efL u)
 |[]=>rfl
 |x::l=>by simp[efsL,Yb0 u l]
theorem c222'(k:Nat):∀(l:List Ef) (u:Int),SizeOf.sizeOf l≤k→lsFit l=true→PC 102 [.agg [iv8 u],efV l] (.bool (efsL u l)):=by
 induction k with
 |zero=>intro l _ h _; cases l<;>simp at h
 |succ k c222'=>
  intro l u hk hf;refine Qb hP g102.ok rfl rfl ?_;rw[H2.e]; unfold g102; dsimp only;refine Yc rfl rfl (Za rfl (Za rfl (Za rfl (Za rfl (Za rfl (Za rfl (Za rfl (Za rfl (Za rfl (Za rfl (Za rfl (Za rfl (Za rfl (Za rfl (Za rfl (Za rfl (Za rfl (Za rfl (Za rfl (Yc rfl rfl (Yc rfl rfl (Za rfl ?_))))))))))))))))))))));have hc:∀x∈l,PC 135 ([]++[.agg (efC x)]++[.rptr [iv8 u] 0,.rptr (asksR u) 0]) (.bool (!efL u x)):=by
   intro x hx;have hfx:=YO hf hx;refine c240 u x hfx (λh8=>?_);have e:efL u x=(efsL (joinL u (cnL x.c)) x.thn&&efsL (joinL u (cnL x.c)) x.els):=by simp[h8,Xbz]
   have hs:=List.sizeOf_lt_of_mem hx;have hs2:=X1 x;rw[e];exact c238 u x hfx (λu'=>c222' x.thn u' (by omega) (YJ hfx)) (λu'=>c222' x.els u' (by omega) (ZJ hfx))
  refine YC (c239 l (XB hf) 135 [] [.rptr [iv8 u] 0,.rptr (asksR u) 0] g135.ok.plain (λx=>!efL u x) hc (λx=>by rw[ZA]; rfl) rfl) rfl g134.ok.plain rfl rfl ?_;refine Za rfl ?_;simp[Yb0,List.any_eq_not_all_not]
theorem c222(l:List Ef)(u:Int)(hf:lsFit l=true):PC 102 [.agg [iv8 u],efV l] (.bool (efsL u l)):=c222' _ l u (Nat.le_refl _) hf
theorem c182(cs:List Cd)(hf:XG cs=true):PC 70 [cdV cs] (.agg [iv (cdsL cs).1,iv (cdsL cs).2]):=by
 simp only[XG,Bool.and_eq_true,decide_eq_true_eq] at hf;obtain⟨f0,f1⟩:=hf;rw[bigE] at f0;refine Qb hP g70.ok rfl rfl ?_;rw[H1.e]; unfold g70; dsimp only;refine Yc rfl rfl (Za rfl (Yc rfl rfl (Yc rfl rfl ?_)));refine Za (v:=iv cs.length) (rd:=[]) (by simp[Yf]) ?_;refine Xj (ι:=Nat) (λi vs σ=>vs=[iv i]∧hget σ 0=.box [iv 0,iv 0]∧hget σ 1=.box [iv8 0]∧0<σ.length∧i≤cs.length∧cdsL cs=cdsL (cs.drop i)) (λi=>cs.length-i) 0 ⟨rfl,rfl,rfl,by simp,by omega,by simp⟩ ?_;rintro i vs σ again ⟨rfl,hz,ho,hz2,hi,hu⟩ hag;refine Za rfl ?_;refine Zb (λh=>?_) (λh=>?_);rotate_left
 ·have h:i=cs.length:=by simp at h; omega
  subst h;rw[List.drop_length,cdsL] at hu;refine Za rfl (Yc (stv hz rfl rfl rfl) (Yj _ hz2) (Qi (XD hz2 rfl) ?_));rw[hu]
 have hi:i<cs.length:=by simpa using h
 have hdr:cs.drop i=cs[i]::cs.drop (i+1):=by rw[YLD hi]
 have hix:=λ(s:List ABlk)=>Yo s cdC false false 12 cs .i64 i hi;have hfi:=List.all_eq_true.1 f1 _ (List.getElem_mem hi);generalize cs[i]=c at hdr hix hfi;rw[hdr,cdsL] at hu;simp only[cdFit,Bool.and_eq_true,decide_eq_true_eq] at hfi;obtain⟨g0,g1,g2,g9993⟩:=hfi;refine Za (hix _) (Za (ldr (cdLd _)) (Yx (row:=cdC c) (row':=cdC c) rfl rfl rfl ?_));have hB0:=Qf σ (ABlk.box (cdC c));have hz':hget (σ++[ABlk.box (cdC c)]) 0=.box [iv 0,iv 0]:=Zf _ hz (by simp);have ho':hget (σ++[ABlk.box (cdC c)]) 1=.box [iv8 0]:=Zf _ ho (by simp);have hz2':0<(σ++[ABlk.box (cdC c)]).length:=by simp
 generalize σ++[ABlk.box (cdC c)]=base at hB0 hz' ho' hz2' ⊢;generalize σ.length=b at hB0 ⊢;clear hz hz2 ho;refine Za (ld ho' rfl) (Za rfl (Za (ld hB0 rfl) ?_));refine Xb (c222 _ 0 g1) rfl g102.ok.plain rfl ?_;refine Za rfl ?_;apply cutF (cdL c=false)
 ·intro hR;have good:cdL c=true→VV.rd (Yn .add false [iv i,(.int .i64 1)] base) λt10_26=>again [t10_26] base:=by
   intro hc;rw[hc,if_pos rfl] at hu;refine Za (Yh ..) ?_;rw[Qd (n:=i) (by omega)];exact hag (i+1) _ _ (by omega) ⟨rfl,hz',ho',hz2',by omega,hu⟩
  rcases YBE (!efsL 0 c.played) with a1|a1
  ·rw[a1];repeat first|refine Ya ?_|refine Xa ?_|refine Qa rfl ?_|refine Yb rfl ?_|refine Zc rfl ?_|refine Xc rfl ?_|refine Za (ld hB0 rfl) ?_|refine Za rfl ?_
   refine Qc (hR ?_);have a1:efsL 0 c.played=false:=by simpa using a1
   simp[cdL,a1]
  rw[a1];repeat first|refine Ya ?_|refine Xa ?_|refine Za (ld ho' rfl) ?_|refine Za (ld hB0 rfl) ?_|refine Za rfl ?_
  have a1:efsL 0 c.played=true:=by simpa using a1
  refine Xb (c222 _ 0 g2) rfl g102.ok.plain rfl ?_;repeat first|refine Ya ?_|refine Xa ?_|refine Za (ld ho' rfl) ?_|refine Za (ld hB0 rfl) ?_|refine Za rfl ?_
  rcases YBE (!efsL 0 c.dead) with a2|a2
  ·rw[a2];repeat first|refine Ya ?_|refine Xa ?_|refine Qa rfl ?_|refine Yb rfl ?_|refine Zc rfl ?_|refine Xc rfl ?_|refine Za (ld hB0 rfl) ?_|refine Za rfl ?_
   refine Qc (hR ?_);have a2:efsL 0 c.dead=false:=by simpa using a2
   simp[cdL,a2]
  rw[a2];repeat first|refine Ya ?_|refine Xa ?_|refine Za (ld ho' rfl) ?_|refine Za (ld hB0 rfl) ?_|refine Za rfl ?_
  have a2:efsL 0 c.dead=true:=by simpa using a2
  refine Xb (c222 _ 0 g9993) rfl g102.ok.plain rfl ?_;repeat first|refine Ya ?_|refine Xa ?_|refine Za (ld hB0 rfl) ?_|refine Za rfl ?_
  refine Zb (λa3=>hR ?_) (λa3=>good ?_)
  ·have a3:efsL 0 c.dawn=false:=by simpa using a3
   simp[cdL,a3]
  ·have a3:efsL 0 c.dawn=true:=by simpa using a3
   simp[cdL,a1,a2,a3]
 intro hc;rw[hc] at hu
 replace hu:cdsL cs=(140,c.pl):=hu
 refine Za rfl (Za (ld hB0 rfl) (Za rfl (Yc (stv hz' rfl rfl rfl) (Yj _ hz2') (Qi (XD hz2' rfl) ?_))));rw[hu]
theorem c259(l:List Cd)(hl:l.length≤big)(id:FuncId)(fs cs:List AVal)(hp:Yi prog id=true)(f:Cd→Bool)(hc:∀x∈l,PC id (fs++[.agg (cdC x)]++cs) (.bool (f x)))(hr:∀x,roL (fs++[.agg (cdC x)]++cs)=true) :
  PC 50 [cdV l,.func (.func id) fs cs] (iv (idxF f l 0)):=by
 rw[bigE] at hl;refine Qb hP g50.ok rfl rfl ?_;rw[H2.e]; unfold g50; dsimp only;refine Za (v:=iv l.length) (rd:=[]) (by simp[Yf]) ?_;refine Xj (ι:=Nat) (λi vs s=>vs=[iv i]∧i≤l.length∧idxF f l 0=idxF f (l.drop i) i) (λi=>l.length-i) 0 ⟨rfl,by omega,by simp⟩ ?_;rintro i vs s again ⟨rfl,hi,hr'⟩ hag;refine Za rfl (Zb (λh=>?_) (λh=>?_))
 ·have h:i<l.length:=by simpa using h
  refine Za (Yo _ cdC _ _ _ l _ i h) (Za (ldr (cdLd _)) ?_);refine Xb (hc _ (List.getElem_mem h)) rfl hp (hr _) ?_;rw[YLD h,idxF] at hr';refine Zb (λh2=>?_) (λh2=>?_)
  ·rw[if_pos h2] at hr'; rw[hr']; rfl
  ·rw[if_neg (by rw[h2]; simp)] at hr';refine Za (Yh ..) ?_;rw[Qd (n:=i) (by omega)];exact hag (i+1) _ _ (by omega) ⟨rfl,by omega,by rw[hr']; push_cast; rfl⟩
 ·have h:i=l.length:=by simp at h; omega
  subst h;rw[List.drop_length,idxF] at hr';rw[hr']
theorem YcF(t:Tx):∀(l:List Cd) (n:Nat),((fndI n l t).2=true∧n≤(fndI n l t).1∧(fndI n l t).1<n+l.length∧idxF (λc=>c.name==t) l (n:Int)=((fndI n l t).1:Int))∨((fndI n l t)=(0,false)∧idxF (λc=>c.name==t) l (n:Int) = -1)
 |[],n=>.inr ⟨rfl,rfl⟩
 |c::l,n=>by
  by_cases h:c.name==t
  ·left;have e1:fndI n (c::l) t=(n,true):=if_pos h;have e2:idxF (λc:Cd=>c.name==t) (c::l) (n:Int)=n:=if_pos h;rw[e1,e2]; simp
  ·have e1:fndI n (c::l) t=fndI (n+1) l t:=if_neg h;have e2:idxF (λc:Cd=>c.name==t) (c::l) (n:Int)=idxF (λc:Cd=>c.name==t) l ((n+1:Nat):Int):=by
    have:=(if_neg h:(if (c.name==t)=true then (n:Int) else idxF (λc:Cd=>c.name==t) l ((n:Int)+1))=_)
    push_cast; exact this
   rw[e1,e2];rcases YcF t l (n+1) with ⟨q1,q2,q3,q4⟩|q
   ·exact .inl ⟨q1,by omega,by simp; omega,q4⟩
   ·exact .inr q
theorem c244(c:Cd)(t:Tx):PC 89 [.agg (cdC c),.rptr [.str t] 0] (.bool (c.name==t)):=by
 refine Qb hP g89.ok rfl rfl ?_;rw[H2.e]; unfold g89; dsimp only;exact Yc rfl rfl (Za rfl (Za (ld rfl rfl) (Za rfl (Za rfl rfl))))
theorem c243(l:List Cd)(hl:l.length≤big)(t:Tx)(x:ABlk)(K:AVal→List ABlk→Prop)(hK:∀cs σ,cs.all AVal.cell=true→cs.length=12→K (.tup [.agg cs,iv (fndI 0 l t).1,.bool (fndI 0 l t).2]) ([x,.box [.str t]]++σ)) :
  g88.u VV [cdV l,.func (.func 89) [] [.bptr 1 0]] [x,.box [.str t]] K:=by
 have hc:=c259 l hl 89 [] [.rptr [.str t] 0] g89.ok.plain (λc=>c.name==t) (λx _=>c244 x t) (λx=>rfl);rw[H2.e]; unfold g88; dsimp only;refine Yc rfl rfl ?_;refine YC hc rfl g50.ok.plain rfl rfl ?_;clear hc;rcases YcF t l 0 with ⟨q1,q2,q3,q4⟩|⟨q1,q4⟩
 ·rw[Nat.zero_add] at q3;have q4:idxF (λc=>c.name==t) l 0=((fndI 0 l t).1:Int):=q4;rw[q4];rw[q1] at hK;generalize (fndI 0 l t).1=i at q2 q3 hK ⊢;refine Za (XP ..) ?_;rw[decide_eq_false (by omega)];refine Yd (Za (Yo _ cdC _ _ _ l _ i q3) (Za (ldr (cdLd _)) (Yc rfl rfl (Qi rfl ?_))));exact hK (cdC l[i]) _ rfl rfl
 ·have q4:idxF (λc=>c.name==t) l 0 = -1:=q4;rw[q4];rw[q1] at hK;refine Za rfl ?_;refine Qc (Za rfl (Yc rfl rfl (Qi rfl ?_)));exact hK [.str [],.bool false,iv 0,iv 0,iv 0,iv 0,iv 0,iv 0,.nils,.nils,.nils,iv 0] _ rfl rfl
theorem Xdl(cs:List AVal)(h:cs.all AVal.cell=true):cellsOf (.agg cs)=some cs:=by simp[cellsOf,h]
theorem Qbj{α:Type}:∀(a b:List α),a.length=b.length→splice 0 a b=some a
 |[],[],_=>rfl
 |x::a,y::b,h=>by simp only[splice,Qbj a b (by simpa using h)]
theorem c224(b:Bk)(hl:b.cards.length≤big)(t:Tx):PC 60 [bkV b,.str t] (.tup [iv (fndI 0 b.cards t).1,.bool (fndI 0 b.cards t).2]):=by
 refine Qb hP g60.ok rfl rfl ?_;rw[H2.e]; unfold g60; dsimp only;refine Yc rfl rfl (Yc rfl rfl (Za rfl (Za rfl (Za rfl ?_))));refine Xg hP rfl g88.ok rfl (c243 b.cards hl t _ _ (λcs σ h1 h2=>?_));refine Za rfl (Za rfl (Za rfl ?_));refine Yx (row:=cs) (row':=cs) (Xdl cs h1) (by rw[h2]; rfl) (Qbj _ _ (by rw[h2]; rfl)) ?_;rfl
theorem QcR{P:Program}{GL:Globs}{c d:Bool}{K:AVal→Prop}{r1:SRes}{σ:List ABlk}(h1:r1=.ok (.bool d) [] [])(hK:K (.bool (c&&d))) :
  (W P GL).gr (.bool c) true (λk=>(W P GL).rd r1 k) λt1=>(W P GL).rd (Xm [.bool c,t1,.bool false] σ) K:=by
 cases c with
 |true=>exact Ya (Za h1 (Za rfl hK))
 |false=>exact Qa rfl (Za rfl hK)
theorem YcS{P:Program}{GL:Globs}{c d:Bool}{K:AVal→Prop}{r1 r2:SRes}{f3:AVal→AVal→SRes}{f4:AVal→SRes}{σ:List ABlk}{v1 v2 v3:AVal}{q1 q2 q3 q4:List Nat}(h1:r1=.ok v1 q1 [])(h2:r2=.ok v2 q2 [])(h3:f3 v1 v2=.ok v3 q3 [])(h4:f4 v3=.ok (.bool d) q4 [])(hK:K (.bool (c&&d))) :
  (W P GL).gr (.bool c) true (λk=>(W P GL).rd r1 k) λt1=>(W P GL).gr (.bool c) true (λk=>(W P GL).rd r2 k) λt2=>(W P GL).gr (.bool c) true (λk=>(W P GL).rd (f3 t1 t2) k) λt3=>(W P GL).gr (.bool c) true (λk=>(W P GL).rd (f4 t3) k) λt4=>(W P GL).rd (Xm [.bool c,t4,.bool false] σ) K:=by
 cases c with
 |true=>exact Ya (Za h1 (Ya (Za h2 (Ya (Za h3 (Ya (Za h4 (Za rfl hK))))))))
 |false=>exact Qa rfl (Qa rfl (Qa rfl (Qa rfl (Za rfl hK))))
theorem XcS{P:Program}{GL:Globs}{c d:Bool}{K:AVal→Prop}{r1 r3:SRes}{f2 f4:AVal→SRes}{f5:AVal→AVal→SRes}{σ:List ABlk}{v1 v2 v3 v4:AVal}{q1 q2 q3 q4 q5:List Nat}(h1:r1=.ok v1 q1 [])(h2:f2 v1=.ok v2 q2 [])(h3:r3=.ok v3 q3 [])(h4:f4 v3=.ok v4 q4 [])(h5:f5 v2 v4=.ok (.bool d) q5 [])(hK:K (.bool (c&&d))) :
  (W P GL).gr (.bool c) true (λk=>(W P GL).rd r1 k) λt1=>(W P GL).gr (.bool c) true (λk=>(W P GL).rd (f2 t1) k) λt2=>(W P GL).gr (.bool c) true (λk=>(W P GL).rd r3 k) λt3=>(W P GL).gr (.bool c) true (λk=>(W P GL).rd (f4 t3) k) λt4=>(W P GL).gr (.bool c) true (λk=>(W P GL).rd (f5 t2 t4) k) λt5=>(W P GL).rd (Xm [.bool c,t5,.bool false] σ) K:=by
 cases c with
 |true=>exact Ya (Za h1 (Ya (Za h2 (Ya (Za h3 (Ya (Za h4 (Ya (Za h5 (Za rfl hK))))))))))
 |false=>exact Qa rfl (Qa rfl (Qa rfl (Qa rfl (Qa rfl (Za rfl hK)))))
theorem QcS{P:Program}{GL:Globs}{c d:Bool}{K:AVal→Prop}{r1 r2:SRes}{f3:AVal→SRes}{f4:AVal→AVal→SRes}{f5:AVal→SRes}{σ:List ABlk}{v1 v2 v3 v4:AVal}{q1 q2 q3 q4 q5:List Nat}(h1:r1=.ok v1 q1 [])(h2:r2=.ok v2 q2 [])(h3:f3 v2=.ok v3 q3 [])(h4:f4 v1 v3=.ok v4 q4 [])(h5:f5 v4=.ok (.bool d) q5 [])(hK:K (.bool (c&&d))) :
  (W P GL).gr (.bool c) true (λk=>(W P GL).rd r1 k) λt1=>(W P GL).gr (.bool c) true (λk=>(W P GL).rd r2 k) λt2=>(W P GL).gr (.bool c) true (λk=>(W P GL).rd (f3 t2) k) λt3=>(W P GL).gr (.bool c) true (λk=>(W P GL).rd (f4 t1 t3) k) λt4=>(W P GL).gr (.bool c) true (λk=>(W P GL).rd (f5 t4) k) λt5=>(W P GL).rd (Xm [.bool c,t5,.bool false] σ) K:=by
 cases c with
 |true=>exact Ya (Za h1 (Ya (Za h2 (Ya (Za h3 (Ya (Za h4 (Ya (Za h5 (Za rfl hK))))))))))
 |false=>exact Qa rfl (Qa rfl (Qa rfl (Qa rfl (Qa rfl (Za rfl hK)))))
theorem ZcS{P:Program}{GL:Globs}{c d:Bool}{K:List ABlk→AVal→Prop}{r1:SRes}{f2:AVal→SRes}{f3:AVal→(AVal→List ABlk→Prop)→Prop}{g:List ABlk→List ABlk}{σ:List ABlk}{v1 v2:AVal}{q1 q2:List Nat}(h1:r1=.ok v1 q1 [])(h2:f2 v1=.ok v2 q2 [])(h3:∀k:AVal→List ABlk→Prop,k (.bool d) σ→f3 v2 k)(hK:K σ (.bool (c&&d))) :
  (W P GL).gr (.bool c) true (λk=>(W P GL).rd r1 k) λt1=>(W P GL).gr (.bool c) true (λk=>(W P GL).rd (f2 t1) k) λt2=>(W P GL).gw (.bool c) true (λk=>f3 t2 k) σ λt3 σ'=>(W P GL).rd (Xm [.bool c,t3,.bool false] (g σ')) (K σ'):=by
 cases c with
 |true=>exact Ya (Za h1 (Ya (Za h2 (Xa (h3 _ (Za rfl hK))))))
 |false=>exact Qa rfl (Qa rfl (Yb rfl (Za rfl hK)))
def Old(σ σ':List ABlk):Prop:=σ.length≤σ'.length∧∀c,c<σ.length→hget σ' c=hget σ c
theorem Old.trans{a b c:List ABlk}(h:Old a b)(k:Old b c):Old a c:=⟨Nat.le_trans h.1 k.1,λi hi=>by rw[k.2 i (by have:=h.1; omega),h.2 i hi]⟩
theorem Old.app(σ l:List ABlk):Old σ (σ++l):=⟨by simp,λ_ h=>Ym l h⟩
theorem Old.get{σ σ':List ABlk}(h:Old σ σ'){c:Nat}{x:ABlk}(hx:hget σ c=x)(hd:x≠.dead):hget σ' c=x:=by
 rw[h.2 c (Xh hx hd)]; exact hx
theorem Bt.past{σ σ':List ABlk}{x:ABlk}(h:Bt σ.length (σ++[x]) σ'):Old σ σ':=by
 obtain⟨h1,h2⟩:=h;simp only[List.length_append,List.length_singleton] at h1 h2;exact⟨by omega,λc hc=>by rw[h2 c (by omega) (by omega),Ym _ hc]⟩
def SeenT(m:List (Tx×Bool))(l:List Tx):Prop:=∀t,(tlook t m).getD false=l.any λd=>d==t
theorem SeenT.nil:SeenT [] []:=λt=>by simp[tlook]
theorem SeenT.put{m:List (Tx×Bool)}{l:List Tx}(h:SeenT m l)(c:Tx):SeenT (tput c true m) (l++[c]):=by
 intro t;rw[YX,List.any_append,←h t]
 grind
theorem YcL{α:Type}(l:List α)(f:α→Bool):(!l.any f)=l.all λx=>!f x:=by
 grind
theorem Xdf(b:Bk)(hc:b.cards.length≤big)(l:List Tx)(hl:l.length≤big)(ok:Bool){σ:List ABlk}(h0':hget σ 0=.box [cdV b.cards,foV b.formats]){K:List AVal→List ABlk→Prop}
 (hK:∀w σ',Old σ σ'→K [w,.bool (ok&&nmsGo b.cards [] l)] σ') :
  VV.loop (λag56 v57 τ=>VV.rd (Yn .lss false [(h0 v57),iv l.length] τ) λt76_58=>VV.test t76_58 (
   VV.rd (Zo 1 [txV l,(h0 v57)] τ) λt77_59=>VV.rd (Xk false 1 [t77_59] τ) λt78_60=>VV.rd (Xk true 2 [.bptr 0 0] τ) λt80_61=>
   VV.call (.call 60) [t80_61,t78_60] τ λt82_62 τ=>VV.rd (Xo 0 [t82_62] τ) λt83_63=>VV.rd (Xo 1 [t82_62] τ) λt84_64=>
   VV.gr (h1 v57) true (λk=>VV.rd (Z5 [t84_64] τ) k) λt87_65=>VV.rd (Xm [(h1 v57),t87_65,(.bool false)] τ) λt88_66=>
   VV.gr t88_66 true (λk=>VV.rd (Z5 [.map σ.length] τ) k) λt90_67=>VV.gr t88_66 true (λk=>VV.rd (Z5 [t78_60] τ) k) λt91_68=>
   VV.gr t88_66 true (λk=>VV.rd (Qu true false (.bool false) [t90_67,t91_68] τ) k) λt92_69=>VV.gr t88_66 true (λk=>VV.rd (Za9 .not [t92_69] τ) k) λt93_70=>
   VV.rd (Xm [t88_66,t93_70,(.bool false)] τ) λt94_71=>VV.wr (XC true [.map σ.length,t78_60,(.bool true)] τ) τ λ_ τ=>
   VV.rd (Yn .add false [(h0 v57),(.int .i64 1)] τ) λt97_72=>ag56 [t97_72,t94_71] τ) (K v57 τ)) [(.int .i64 0),.bool ok] (σ ++ [.map []]):=by
 rw[bigE] at hl;have hnew:hget (σ++[.map []]) σ.length=.map (mpE []):=Qf _ _;have hlen:σ.length<(σ++[ABlk.map []]).length:=by simp
 refine Xj (ι:=Nat) (λi vs s=>∃ok' m,vs=[iv i,.bool ok']∧i≤l.length∧hget s σ.length=.map (mpE m)∧SeenT m (l.take i)∧Bt σ.length (σ++[.map []]) s∧(ok&&nmsGo b.cards [] l)=(ok'&&nmsGo b.cards (l.take i) (l.drop i))) (λi=>l.length-i) 0 ⟨ok,[],rfl,by omega,hnew,by simpa using SeenT.nil,Bt.refl _ _,by simp⟩ ?_;rintro i vs s again ⟨ok',m,rfl,hi,hm,hse,hbt,hr⟩ hag;have h0'':hget s 0=.box [cdV b.cards,foV b.formats]:=hbt.past.get h0' (by simp);refine Za rfl (Zb (λh=>?_) (λh=>?_))
 ·have h:i<l.length:=by simpa using h
  refine Za (Yo _ txC _ _ _ l _ i h) (Za (ldr (txLd _)) (Za (ld h0'' rfl) ?_));refine Xb (c224 b hc _) rfl g60.ok.plain rfl ?_;refine Za rfl (Za rfl (QcR rfl ?_));refine YcS rfl rfl (Xbo hm _) rfl ?_;refine Yc (Qbc hm _ _) (Yj _ (Xh hm (by simp))) (Za (Yh ..) ?_);rw[Qd (n:=i) (by omega)];have hml:=Xh hm (by simp);refine hag (i+1) _ _ (by omega) ⟨_,_,rfl,by omega,Qg _ hml,by rw[Zu _ _ h]; exact hse.put _,hbt.trans ⟨by simp,λc hc hne=>Ye _ hc hne⟩,?_⟩;rw[hr,YLD h,nmsGo,Zu _ _ h,hse,YcL];simp only[Bool.and_assoc]
 ·have h:i=l.length:=by simp at h; omega
  subst h;rw[List.drop_length,nmsGo,Bool.and_true] at hr;have:=hK (iv (l.length:Int)) s hbt.past;rw[hr] at this; exact this
def SeenF(m:List (Tx×Bool))(l:List Fo):Prop:=∀t,(tlook t m).getD false=l.any λd=>d.name==t
theorem SeenF.put{m:List (Tx×Bool)}{l:List Fo}(h:SeenF m l)(c:Fo):SeenF (tput c.name true m) (l++[c]):=by
 intro t;rw[YX,List.any_append,←h t]
 grind
theorem c184(b:Bk)(hf:bkFit b=true):PC 72 [bkV b] (.agg [iv (fmtGo b [] b.formats).1,iv (fmtGo b [] b.formats).2]):=by
 simp only[bkFit,XG,Bool.and_eq_true,decide_eq_true_eq] at hf;obtain⟨⟨fc,_⟩,fl,fa⟩:=hf;have fl':=fl;rw[bigE] at fl';refine Qb hP g72.ok rfl rfl ?_;rw[H1.e]; unfold g72; dsimp only;refine Yc rfl rfl (Yc rfl rfl (Yc rfl rfl (Za rfl (Za rfl ?_))));refine Za (v:=iv b.formats.length) (rd:=[]) (by simp[Yf]) ?_;refine Xj (ι:=Nat) (λi vs σ=>∃m,vs=[iv i]∧i≤b.formats.length∧hget σ 0=.box [cdV b.cards,foV b.formats]∧hget σ 1=.box [iv 0,iv 0]∧hget σ 2=.map (mpE m)∧SeenF m (b.formats.take i)∧fmtGo b [] b.formats=fmtGo b (b.formats.take i) (b.formats.drop i)) (λi=>b.formats.length-i) 0 ⟨[],rfl,by omega,rfl,rfl,rfl,λt=>by simp[tlook],by simp⟩ ?_;rintro i vs σ again ⟨m,rfl,hi,hb0,hb1,hb2,hse,hr⟩ hag;refine Za rfl (Zb (λh=>?_) (λh=>?_));rotate_left
 ·have h:i=b.formats.length:=by simp at h; omega
  subst h;rw[List.drop_length,fmtGo] at hr;refine Za rfl (Yc (stv hb1 rfl rfl rfl) (Yj _ (Xh hb1 (by simp))) (Qi (XD (Xh hb1 (by simp)) rfl) ?_));rw[hr]
 have h:i<b.formats.length:=by simpa using h
 have hix:=λ(s:List ABlk)=>Yo s foC false false 7 b.formats .i64 i h;have hfo:=List.all_eq_true.1 fa _ (List.getElem_mem h);have htk:=Zu _ _ h;rw[YLD h,fmtGo] at hr;generalize b.formats[i]=f at hix hfo htk hr;simp only[foFit,Bool.and_eq_true,decide_eq_true_eq] at hfo;obtain⟨fo1,fo2,fo3⟩:=hfo;refine Za (hix _) (Za (ldr (foLd f)) (Yx (row:=foC f) (row':=foC f) rfl rfl rfl ?_));have hB:=Qf σ (ABlk.box (foC f));have hb0':hget (σ++[ABlk.box (foC f)]) 0=.box [cdV b.cards,foV b.formats]:=Zf _ hb0 (by simp);have hb1':hget (σ++[ABlk.box (foC f)]) 1=.box [iv 0,iv 0]:=Zf _ hb1 (by simp);have hb2':hget (σ++[ABlk.box (foC f)]) 2=.map (mpE m):=Zf _ hb2 (by simp);generalize σ++[ABlk.box (foC f)]=τ at hB hb0' hb1' hb2' ⊢;generalize σ.length=c at hB ⊢;clear hb0 hb1 hb2;refine Za (XP ..) ?_;refine ZcS (g:=λs=>s) (σ:=τ) (d:=nameOk f.name) rfl (ld hB rfl) (λk hk=>Xb (c223 _ fo1) rfl g76.ok.plain rfl hk) ?_;refine QcS rfl rfl (ld hB rfl) (Xbo hb2' _) rfl ?_;refine Yao rfl (ld hB rfl) (Yah ..) ?_;refine XcS rfl (ld hB rfl) rfl (ld hB rfl) (Qcz ..) ?_;refine Yao rfl (ld hB rfl) (Qcz ..) ?_;refine Yao rfl (ld hB rfl) (Yah ..) ?_;refine Yao rfl (ld hB rfl) (Qcz ..) ?_;refine Za rfl (Za (ld hB rfl) (Za rfl (Za (ld hB rfl) (Za rfl ?_))));refine XM 3 (Yl (Za rfl (Qc (Za rfl (Yc rfl (Xl _ _) ?_)))));refine Za (v:=iv f.banned.length) (rd:=[]) (by simp[Yf]) ?_;refine Xdf b fc f.banned fo2 _ hb0' (λw τ2 o2=>?_);refine Za rfl (Yl (Za rfl (Qc (Za rfl (Yc rfl (Xl _ _) ?_)))));refine Za (v:=iv f.single.length) (rd:=[]) (by simp[Yf]) ?_;refine Xdf b fc f.single fo3 _ (o2.get hb0' (by simp)) (λw τ3 o3=>?_);have o:=o2.trans o3;refine Za rfl (Yl (Za rfl (Yd ?_)));have hok:((((((((((decide ((i:Int)<240)&&nameOk f.name) && !(tlook f.name m).getD false)&&decide (0≤f.least))&&decide (f.least≤f.most))&&decide (f.most≤60))&&decide (0≤f.copies))&&decide (f.copies≤999))&&nmsGo b.cards [] f.banned)&&nmsGo b.cards [] f.single))=fmtOk b (b.formats.take i) f:=by
  have hti:(b.formats.take i).length=i:=by rw[List.length_take]; omega
  have e:decide ((i:Int)<240)=decide (i<240):=by congr 1; simp; omega
  rw[fmtOk,hti,hse,e];generalize (List.take i b.formats).any (λg=>g.name==f.name)=x1;generalize decide (i<240)=x2;generalize nameOk f.name=x3;cases x1<;>cases x2<;>cases x3<;>simp[Bool.and_assoc]
 have hb1'':=o.get hb1' (by simp);have hb2'':=o.get hb2' (by simp);have hB'':=o.get hB (by simp);have hb0'':=o.get hb0' (by simp);refine Za (v:=.bool (!fmtOk b (b.formats.take i) f)) (rd:=[]) (by rw[←hok]; rfl) ?_;refine Zb (λh2=>?_) (λh2=>?_)
 ·have h2:fmtOk b (b.formats.take i) f=false:=by simpa using h2
  rw[h2,if_neg (by simp)] at hr;refine Za rfl (Za (ld hB'' rfl) (Za rfl (Yc (stv hb1'' rfl rfl rfl) (Yj _ (Xh hb1'' (by simp))) (Qi (XD (Xh hb1'' (by simp)) rfl) ?_))));rw[hr]
 ·have h2:fmtOk b (b.formats.take i) f=true:=by simpa using h2
  rw[h2,if_pos rfl] at hr;refine Za rfl (Za (ld hB'' rfl) (Yc (Qbc hb2'' _ _) (Yj _ (Xh hb2'' (by simp))) (Za (Yh ..) ?_)));rw[Qd (n:=i) (by omega)];refine hag (i+1) _ _ (by omega) ⟨_,rfl,by omega,?_,?_,Qg _ (Xh hb2'' (by simp)),by rw[htk]; exact hse.put f,by rw[htk]; exact hr⟩
  ·exact Yg hb0'' (by simp) (by omega)
  ·exact Yg hb1'' (by simp) (by omega)
def Qj(l:List Cd):Prop:=∀c∈l,(cdP c).length≤500000000
theorem c180'(cs:List Cd)(hf:XG cs=true)(hs:Qj cs):PC 27 [cdV cs] (.agg [iv (cdsChk cs).1,iv (cdsChk cs).2]):=by
 refine c180 cs hf (λm hm c hc=>?_);have hfc:cdFit c=true:=by
  simp_all [XG]
 have hfc':=hfc;simp only[cdFit,Bool.and_eq_true,decide_eq_true_eq] at hfc';obtain⟨q0,q1,q2,q3⟩:=hfc';exact c221 m cs hm c hfc (c223 _ q0) (c124 c q1 q2 q3 (hs c hc))
theorem c143(b:Bk)(hf:bkFit b=true)(hs:Qj b.cards):PC 47 [bkV b] (.agg [iv (bkR b).1,iv (bkR b).2]):=by
 have hf':=hf;simp only[bkFit,Bool.and_eq_true] at hf';have hcf:=hf'.1;have p179:PC 68 [.rptr [cdV b.cards,foV b.formats] 0] (.agg [iv (cdsChk b.cards).1,iv (cdsChk b.cards).2]):=by
  refine Qb hP g68.ok rfl rfl ?_;rw[H1.e]; unfold g68; dsimp only;refine Yc rfl rfl (Za rfl (Za rfl ?_));refine Xb (c180' _ hcf hs) rfl g27.ok.plain rfl ?_;exact Yc rfl rfl (Qi rfl rfl)
 have p181:PC 69 [.rptr [cdV b.cards,foV b.formats] 0] (.agg [iv (cdsL b.cards).1,iv (cdsL b.cards).2]):=by
  refine Qb hP g69.ok rfl rfl ?_;rw[H1.e]; unfold g69; dsimp only;refine Yc rfl rfl (Za rfl (Za rfl ?_));refine Xb (c182 _ hcf) rfl g70.ok.plain rfl ?_;exact Yc rfl rfl (Qi rfl rfl)
 have p183:PC 71 [.rptr [cdV b.cards,foV b.formats] 0] (.agg [iv (fmtGo b [] b.formats).1,iv (fmtGo b [] b.formats).2]):=by
  refine Qb hP g71.ok rfl rfl ?_;rw[H1.e]; unfold g71; dsimp only;refine Yc rfl rfl (Za rfl ?_);refine Xb (c184 b hf) rfl g72.ok.plain rfl ?_;exact Yc rfl rfl (Qi rfl rfl)
 refine Qb hP g47.ok rfl rfl ?_;rw[H1.e]; unfold g47; dsimp only;refine Yc rfl rfl (Yc rfl rfl (Za rfl (Za rfl (Za rfl (Za rfl ?_)))));refine XM 4 (Yl (Za rfl (Qc (Za rfl ?_))));refine YC p179 rfl g68.ok.plain rfl rfl (Yc rfl rfl (Yc rfl rfl (Za rfl (Za rfl (Za (Qaa ..) (Zb (λh=>?_) (λh=>Za rfl ?_)))))))
 ·refine Za rfl (Yc rfl rfl (Qi rfl ?_));rw[bkR,if_pos (by simpa using h)]
 refine Yl (Za rfl (Qc (Za rfl ?_)));refine YC p181 rfl g69.ok.plain rfl rfl (Yc rfl rfl (Yc rfl rfl (Za rfl (Za rfl (Za (Qaa ..) (Zb (λh2=>?_) (λh2=>Za rfl ?_)))))))
 ·refine Za rfl (Yc rfl rfl (Qi rfl ?_));simp_all [bkR]
 refine Yl (Za rfl (Qc (Za rfl ?_)));refine YC p183 rfl g71.ok.plain rfl rfl (Yc rfl rfl (Yc rfl rfl (Za rfl (Za rfl (Za (Qaa ..) (Zb (λh3=>?_) (λh3=>Za rfl ?_)))))))
 ·refine Za rfl (Yc rfl rfl (Qi rfl ?_));simp_all [bkR]
 refine Yl (Za rfl (Yd (Za rfl (Yc rfl rfl (Qi rfl ?_)))));rw[bkR,if_neg (by simpa using h),if_neg (by simpa using h2)];have h3:(fmtGo b [] b.formats).1=0:=by simpa using h3
 have key:∀(l pre:List Fo),(fmtGo b pre l).1=0→(fmtGo b pre l).2=0:=by
  intro l
  induction l<;>grind [fmtGo]
 rw[h3,key _ _ h3]
end Go.Ah.Tz
end
section
namespace Go.Ah.Tz
open Go.Proofs.Tryz (prog)
theorem NCall.case1{P:Program}{GL:Globs}{f:FuncId}{e:Bool}{sz:Nat}{v:AVal}{bs:List ABlk}(h1:NCall P GL f [.nils] v bs)(h2:NCall P GL f [.rsl e true sz []] v bs):NCall P GL f [.rsl e false sz []] v bs:=by
 intro w M vs hM hg hx
 match vs,hx with
 |[u],⟨hu,_⟩=>
  have hu':Den M noOwn (.rsl e false sz []) u:=hu;cases hu' with
  |rsl _ _ _ _ _ a cap blk off f q1 q2 q3 q4 q5 q6 q7 q8=>
   cases a with
   |none=>
    have:=q4 rfl;subst this;exact h1 w M _ hM hg ⟨.nils _,trivial⟩
   |some p=>exact h2 w M _ hM hg ⟨.rsl _ e true sz [] (some p) cap blk off f q1 (λ_=>rfl) q3 q4 q5 q6 q7 q8,trivial⟩
attribute [local irreducible] Ans.rd Ans.pu Ans.wr Ans.dr Ans.gr Ans.gw Ans.gl Ans.gd Ans.opt joinK W
theorem c96(l:List Int)(hl:l.length≤1000000000):NCall prog GL0 31 [rowV l] (.sl 0 0 l.length false) [.rows 1 (l.map cel)]:=by
 cases l with
 |nil=>
  refine NCall.case1 ?_ ?_
  ·refine Qz hP g31.ok rfl ?_;rw[H1.e]; unfold g31; dsimp only;exact Za rfl (Qc (Tidy.ghost 1 (.inl rfl)))
  ·refine Qz hP g31.ok rfl ?_;rw[H1.e]; unfold g31; dsimp only;exact Za rfl (Yd (Za rfl (Yc rfl rfl (Tidy.trans (Tidy.weak λM c u d=>YS (.rsl true true 1 []) ⟨M,c⟩ u d) (Tidy.ghost 1 (.inr rfl))))))
 |cons x l=>
  refine Qz hP g31.ok rfl ?_;rw[H1.e]; unfold g31; dsimp only;refine Za rfl (Yd (Za rfl ?_));refine Yc (v:=.sl 0 0 (x :: l).length false) (rd:=[]) (up:=[(0,.rows 1 ((x :: l).map cel))]) ?_ rfl (Tidy.refl _ _);show (match Yr 1 [] (rowV (x :: l)) with
   |some (ys,rd)=>bif Xx ys&&Nat.ble ((2*(([]:List (List AVal)).length+ys.length)+192)*8) (2 ^ 48) then SRes.ok (.sl 0 0 (([]:List (List AVal)).length+ys.length) false) rd ([]++[(0,ABlk.rows 1 ([]++ys))]) else SRes.stop
   | none=>.stop)=_
  have h1:Yr 1 [] (rowV (x::l))=some ((x::l).map cel,[]):=rfl;have h2:∀q:List Int,Xx (q.map cel)=true:=by
   intro q; induction q with
   |nil=>rfl
   |cons y q ih=>simp only[List.map_cons,Xx,ih,Bool.and_true]; rfl
  have h3:Nat.ble ((2*(([]:List (List AVal)).length+((x::l).map cel).length)+192)*8) (2 ^ 48)=true:=Nat.ble_eq_true_of_le (by simp only[List.length_map,List.length_nil]; omega);simp only[h1,h2,h3,Bool.and_self,cond_true];simp
theorem w96{l:List Int}(hl:l.length≤1000000000){σ:List ABlk}{K:AVal→List ABlk→Prop}(hK:K (.sl σ.length 0 l.length false) (σ++[.rows 1 (l.map cel)])):VV.call (.call 31) [rowV l] σ K:=by
 refine Ybl (c96 l hl) rfl g31.ok.plain rfl ?_;simp only[Yy,List.map_cons,List.map_nil,YaB,AVal.ren,YH,Nat.zero_add];exact hK
theorem d96{l:List Int}(hl:l.length≤1000000000){σ:List ABlk}{K:AVal→List Nat×List Nat→List ABlk→Prop}(hK:K (.sl σ.length 0 l.length false) ([],[σ.length]) (σ++[.rows 1 (l.map cel)])):VV.dcall (.call 31) [rowV l] σ K:=by
 refine Zbv (c96 l hl) rfl g31.ok.plain rfl ?_;simp only[Yy,List.map_cons,List.map_nil,YaB,AVal.ren,YH,Nat.zero_add,Xab];exact hK
theorem c112(l:List Th)(hl:l.length≤1000000000):NCall prog GL0 32 [thV l] (.sl 0 0 l.length false) [.rows 4 (l.map thC)]:=by
 cases l with
 |nil=>
  refine NCall.case1 ?_ ?_
  ·refine Qz hP g32.ok rfl ?_;rw[H1.e]; unfold g32; dsimp only;exact Za rfl (Qc (Tidy.ghost 4 (.inl rfl)))
  ·refine Qz hP g32.ok rfl ?_;rw[H1.e]; unfold g32; dsimp only;exact Za rfl (Yd (Za rfl (Yc rfl rfl (Tidy.trans (Tidy.weak λM c u d=>YS (.rsl true true 4 []) ⟨M,c⟩ u d) (Tidy.ghost 4 (.inr rfl))))))
 |cons x l=>
  refine Qz hP g32.ok rfl ?_;rw[H1.e]; unfold g32; dsimp only;refine Za rfl (Yd (Za rfl ?_));refine Yc (v:=.sl 0 0 (x :: l).length false) (rd:=[]) (up:=[(0,.rows 4 ((x :: l).map thC))]) ?_ rfl (Tidy.refl _ _);show (match Yr 4 [] (thV (x :: l)) with
   |some (ys,rd)=>bif Xx ys&&Nat.ble ((2*(([]:List (List AVal)).length+ys.length)+192)*32) (2 ^ 48) then SRes.ok (.sl 0 0 (([]:List (List AVal)).length+ys.length) false) rd ([]++[(0,ABlk.rows 4 ([]++ys))]) else SRes.stop
   | none=>.stop)=_
  have h1:Yr 4 [] (thV (x::l))=some ((x::l).map thC,[]):=rfl;have h2:∀q:List Th,Xx (q.map thC)=true:=by
   intro q; induction q with
   |nil=>rfl
   |cons y q ih=>simp only[List.map_cons,Xx,ih,Bool.and_true]; rfl
  have h3:Nat.ble ((2*(([]:List (List AVal)).length+((x::l).map thC).length)+192)*32) (2 ^ 48)=true:=Nat.ble_eq_true_of_le (by simp only[List.length_map,List.length_nil]; omega);simp only[h1,h2,h3,Bool.and_self,cond_true];simp
theorem d112{l:List Th}(hl:l.length≤1000000000){σ:List ABlk}{K:AVal→List Nat×List Nat→List ABlk→Prop}(hK:K (.sl σ.length 0 l.length false) ([],[σ.length]) (σ++[.rows 4 (l.map thC)])):VV.dcall (.call 32) [thV l] σ K:=by
 refine Zbv (c112 l hl) rfl g32.ok.plain rfl ?_;simp only[Yy,List.map_cons,List.map_nil,Zbt,AVal.ren,YH,Nat.zero_add,Xab];exact hK
theorem c59(s:St)(hs:StLe 1000000000 s):NCall prog GL0 18 [stV s] (.agg (stO s 0)) (stB s):=by
 refine Qz hP g18.ok rfl ?_;rw[H1.e]; unfold g18; dsimp only;have w1:IntKind.i64.wrap (0+1)=1:=by decide
 have w2:IntKind.i64.wrap (1+1)=2:=by decide
 repeat first|refine Za rfl ?_|refine Yc rfl rfl ?_|refine Zd rfl ?_|refine Zg rfl rfl ?_
 refine w96 hs.attack ?_;simp only[List.length_cons,List.length_nil,List.nil_append,List.cons_append,Nat.zero_add,Nat.reduceAdd];repeat first|refine Za rfl ?_|refine Yc rfl rfl ?_|refine Zd rfl ?_|refine Zg rfl rfl ?_
 refine XM 3 (Yl ?_);refine Za rfl (Qc ?_);repeat first|refine Za rfl ?_|refine Yc rfl rfl ?_|refine Zd rfl ?_|refine Zg rfl rfl ?_
 refine d96 hs.s0.deck ?_;simp only[List.length_cons,List.length_nil,List.nil_append,List.cons_append,Nat.zero_add,Nat.reduceAdd];repeat first|refine Za rfl ?_|refine Yc rfl rfl ?_|refine Zd rfl ?_|refine Zg rfl rfl ?_
 refine d96 hs.s0.hand ?_;simp only[List.length_cons,List.length_nil,List.nil_append,List.cons_append,Nat.zero_add,Nat.reduceAdd];repeat first|refine Za rfl ?_|refine Yc rfl rfl ?_|refine Zd rfl ?_|refine Zg rfl rfl ?_
 refine d96 hs.s0.grave ?_;simp only[List.length_cons,List.length_nil,List.nil_append,List.cons_append,Nat.zero_add,Nat.reduceAdd];repeat first|refine Za rfl ?_|refine Yc rfl rfl ?_|refine Zd rfl ?_|refine Zg rfl rfl ?_
 refine d96 hs.s0.told ?_;simp only[List.length_cons,List.length_nil,List.nil_append,List.cons_append,Nat.zero_add,Nat.reduceAdd];repeat first|refine Za rfl ?_|refine Yc rfl rfl ?_|refine Zd rfl ?_|refine Zg rfl rfl ?_
 refine d112 hs.s0.units ?_;simp only[List.length_cons,List.length_nil,List.nil_append,List.cons_append,Nat.zero_add,Nat.reduceAdd];repeat first|refine Za rfl ?_|refine Yc rfl rfl ?_|refine Zd rfl ?_|refine Zg rfl rfl ?_
 refine Xr (by kernel_rfl) (Za rfl ?_);rw[w1];refine Yl ?_;refine Za rfl (Qc ?_);repeat first|refine Za rfl ?_|refine Yc rfl rfl ?_|refine Zd rfl ?_|refine Zg rfl rfl ?_
 refine d96 hs.s1.deck ?_;simp only[List.length_cons,List.length_nil,List.nil_append,List.cons_append,Nat.zero_add,Nat.reduceAdd];repeat first|refine Za rfl ?_|refine Yc rfl rfl ?_|refine Zd rfl ?_|refine Zg rfl rfl ?_
 refine d96 hs.s1.hand ?_;simp only[List.length_cons,List.length_nil,List.nil_append,List.cons_append,Nat.zero_add,Nat.reduceAdd];repeat first|refine Za rfl ?_|refine Yc rfl rfl ?_|refine Zd rfl ?_|refine Zg rfl rfl ?_
 refine d96 hs.s1.grave ?_;simp only[List.length_cons,List.length_nil,List.nil_append,List.cons_append,Nat.zero_add,Nat.reduceAdd];repeat first|refine Za rfl ?_|refine Yc rfl rfl ?_|refine Zd rfl ?_|refine Zg rfl rfl ?_
 refine d96 hs.s1.told ?_;simp only[List.length_cons,List.length_nil,List.nil_append,List.cons_append,Nat.zero_add,Nat.reduceAdd];repeat first|refine Za rfl ?_|refine Yc rfl rfl ?_|refine Zd rfl ?_|refine Zg rfl rfl ?_
 refine d112 hs.s1.units ?_;simp only[List.length_cons,List.length_nil,List.nil_append,List.cons_append,Nat.zero_add,Nat.reduceAdd];repeat first|refine Za rfl ?_|refine Yc rfl rfl ?_|refine Zd rfl ?_|refine Zg rfl rfl ?_
 refine Xr (by kernel_rfl) (Za rfl ?_);rw[w2];refine Yl ?_;refine Za rfl (Yd ?_);repeat first|refine Za rfl ?_|refine Yc rfl rfl ?_|refine Zd rfl ?_|refine Zg rfl rfl ?_
 refine Qi rfl ?_;refine Tidy.gc [2,3,4,5,7,6,8,9,10,12,11] (by decide) (by simp) ?_ rfl;simp only[gcH,List.map_cons,List.map_nil,hget,YaB,Zbt]
end Go.Ah.Tz
end
section
namespace Go.Ah.Tz
open Go.Proofs.Tryz (prog)
def ilook{α:Type}(t:Int):List (Int×α)→Option α
 |[]=>none
 |p::l=>if t==p.1 then some p.2 else ilook t l
def mpG{α:Type}(f:α→AVal)(l:List (Int×α)):List (AVal×AVal):=l.map λp=>(iv p.1,f p.2)
theorem Qbv{α:Type}(f:α→AVal)(t:Int):∀l:List (Int×α),alook (iv t) (mpG f l)=some ((ilook t l).map f)
 |[]=>rfl
 |p::l=>by
  simp only[mpG,List.map_cons,alook,keyEq,ilook,ikEq,cond_true];cases h:t==p.1 with
  |true=>rfl
  |false=>exact Qbv f t l
theorem ZbX{α:Type}(f:α→AVal)(t:Int)(v:α):∀l:List (Int×α),ilook t l=none→aput (iv t) (f v) (mpG f l)=some (mpG f (l++[(t,v)]))
 |[],_=>rfl
 |p::l,h=>by
  rw[ilook] at h;split at h
  ·cases h
  ·rename_i h2;have h2:(t==p.1)=false:=by simpa using h2
   have:=ZbX f t v l h;simp only[mpG] at this;simp only[mpG,List.map_cons,List.cons_append,aput,keyEq,ikEq,cond_true,h2,this]
theorem XaI{α:Type}(t:Int):∀ (a b:List (Int × α)),ilook t (a ++ b)=(match ilook t a with
 |some v=>some v
 | none=>ilook t b)
 |[],b=>rfl
 |p::a,b=>by
  simp only[List.cons_append,ilook];split
  ·rfl
  ·exact XaI t a b
theorem YaE{α:Type}(t:Int):∀l:List (Int×α),(ilook t l).isSome=(l.map (·.1)).contains t
 |[]=>rfl
 |p::l=>by
  simp only[ilook,List.map_cons,List.contains_cons];cases h:t==p.1 with
  |true=>simp
  |false=>simp only[Bool.false_eq_true,if_false,Bool.false_or]; exact YaE t l
theorem ZbP{α:Type}(f:α→AVal)(z:AVal)(ok:Bool){σ:List ABlk}{b:Nat}{l:List (Int×α)}(h:hget σ b=.map (mpG f l))(t:Int):Qu false ok z [.map b,iv t] σ=.ok (lookV ok z ((ilook t l).map f)) [b] []:=by
 simp only[Qu,Qab,mapOf,h,Qbv,cond_true]
theorem Zde{α:Type}(f:α→AVal){σ:List ABlk}{b:Nat}{l:List (Int×α)}(h:hget σ b=.map (mpG f l))(t:Int)(v:α)(hn:ilook t l=none):XC false [.map b,iv t,f v] σ=.ok .junk [] [(b,.map (mpG f (l++[(t,v)])))]:=by
 simp only[XC,Qab,h,ZbX f t v l hn,cond_true]
structure SdAt (row:List AVal) (j:Nat) (x:Sd):Prop where
 h0:partA false (j+0) 1 row=some (iv x.life)
 h1:partA false (j+1) 1 row=some (iv x.mana)
 h2:partA false (j+2) 1 row=some (iv x.most)
 h3:partA false (j+3) 1 row=some (rowV x.deck)
 h4:partA false (j+4) 1 row=some (rowV x.hand)
 h5:partA false (j+5) 1 row=some (rowV x.grave)
 h6:partA false (j+6) 1 row=some (thV x.units)
 h7:partA false (j+7) 1 row=some (rowV x.told)
theorem sdAt0(s:St):SdAt (stC s) 7 s.s0:=⟨rfl,rfl,rfl,rfl,rfl,rfl,rfl,rfl⟩
theorem sdAt1(s:St):SdAt (stC s) 15 s.s1:=⟨rfl,rfl,rfl,rfl,rfl,rfl,rfl,rfl⟩
attribute [local irreducible] Ans.rd Ans.pu Ans.wr Ans.dr Ans.gr Ans.gw Ans.gl Ans.gd Ans.opt joinK W
set_option maxHeartbeats 2000000
theorem c120(l:List Int)(hl:l.length≤big)(id:FuncId)(fs cs:List AVal)(hp:Yi prog id=true)(f:Int→Bool)(hc:∀x∈l,PC id (fs++[iv x]++cs) (.bool (f x)))(hr:∀x,roL (fs++[iv x]++cs)=true) :
  PC 103 [rowV l,.func (.func id) fs cs] (iv (idxF f l 0)):=by
 rw[bigE] at hl;refine Qb hP g103.ok rfl rfl ?_;rw[H2.e]; unfold g103; dsimp only;refine Za (v:=iv l.length) (rd:=[]) (by simp[Yf]) ?_;refine Xj (ι:=Nat) (λi vs s=>vs=[iv i]∧i≤l.length∧idxF f l 0=idxF f (l.drop i) i) (λi=>l.length-i) 0 ⟨rfl,by omega,by simp⟩ ?_;rintro i vs s again ⟨rfl,hi,hr'⟩ hag;refine Za rfl (Zb (λh=>?_) (λh=>?_))
 ·have h:i<l.length:=by simpa using h
  refine Za (Yo _ cel _ _ _ l _ i h) (Za (ldr rfl) ?_);refine Xb (hc _ (List.getElem_mem h)) rfl hp (hr _) ?_;rw[YLD h,idxF] at hr';refine Zb (λh2=>?_) (λh2=>?_)
  ·rw[if_pos h2] at hr'; rw[hr']; rfl
  ·rw[if_neg (by rw[h2]; simp)] at hr';refine Za (Yh ..) ?_;rw[Qd (n:=i) (by omega)];exact hag (i+1) _ _ (by omega) ⟨rfl,by omega,by rw[hr']; push_cast; rfl⟩
 ·have h:i=l.length:=by simp at h; omega
  subst h;rw[List.drop_length,idxF] at hr';rw[hr']
theorem c185(l:List Int)(hl:l.length≤big)(id:FuncId)(fs cs:List AVal)(hp:Yi prog id=true)(f:Int→Bool)(hc:∀x∈l,PC id (fs++[iv x]++cs) (.bool (f x)))(hr:∀x,roL (fs++[iv x]++cs)=true)(hr2:roL [rowV l,.func (.func id) fs cs]=true) :
  PC 74 [rowV l,.func (.func id) fs cs] (.bool (l.any f)):=by
 refine Qb hP g74.ok rfl rfl ?_;rw[H2.e]; unfold g74; dsimp only;refine Xb (c120 l hl id fs cs hp f hc hr) rfl g103.ok.plain hr2 ?_;refine Za (Yah ..) ?_;rw[QaP f l 0 (by omega)]
theorem c186(b:Bk)(x:Int):PC 75 [iv x,.rptr [.rptr [cdV b.cards,foV b.formats] 0] 0] (.bool (decide (x<0)||decide ((b.cards.length:Int)≤x))):=by
 refine Qb hP g75.ok rfl rfl ?_;rw[H2.e]; unfold g75; dsimp only;refine Za (XP ..) ?_;refine Ybk (λ_=>rfl) (λ_=>ldr rfl) (λ_=>rfl) (λ_=>rfl) (λ_=>ldr rfl) (v6:=iv b.cards.length) (q6:=[]) (λ_=>by simp[Yf]) (λ_=>Yah ..) rfl
theorem Zcb(n:Nat)(l:List Int)(most:Int):(!(decide ((l.length:Int)>most)||l.any λx=>decide (x<0)||decide ((n:Int)≤x)))=Zm n l most:=by
 rw[Zm,Bool.not_or,YcL]
 congr 1
 ·rw[Bool.eq_iff_iff]; simp
 ·congr 1; funext x
  rw[Bool.eq_iff_iff]; simp
end Go.Ah.Tz
end
section
namespace Go.Ah.Tz
open Go.Proofs.Tryz (prog)
theorem Yc4(f:Int→AVal)(z:AVal)(o:Option Int):lookV true z (o.map f)=.tup [(o.map f).getD z,.bool o.isSome]:=by cases o<;>rfl
theorem Zcr{σ:List ABlk}{b:Nat}{row:List AVal}(h:hget σ b=.box [.rptr row 0])(l:List Int)(id:FuncId):Xu σ 1000 [rowV l,.func (.func id) [] [.bptr b 0]]=some ([rowV l,.func (.func id) [] [.rptr [.rptr row 0] 0]],[b]):=by
 simp_all [Xu]
attribute [local irreducible] Ans.rd Ans.pu Ans.wr Ans.dr Ans.gr Ans.gw Ans.gl Ans.gd Ans.opt joinK W
set_option maxHeartbeats 4000000
@[reducible] def bkC(b:Bk):List AVal:=[cdV b.cards,foV b.formats]
theorem Zb4(b:Bk)(l:List Int)(hl:l.length≤big)(most:Int){σ:List ABlk}{b4:Nat}(hb:hget σ b4=.box [.rptr (bkC b) 0]){R K:List ABlk→Prop}(hR:Zm b.cards.length l most=false→∀σ',Old σ σ'→R σ')(hK:Zm b.cards.length l most=true→∀σ',Old σ σ'→K σ') :
  VV.wr (Zy [.nils,(.int .i64 0)] [] σ) σ λt11_62 σ=>VV.wr (Qo 2 [t11_62,.agg [rowV l,iv most]] σ) σ λ_ σ=>
  VV.rd (Ze 0 [t11_62] σ) λt88_63=>VV.rd (Xk false 1 [t88_63] σ) λt89_64=>VV.rd (Qs [t89_64] σ) λt90_65=>
  VV.rd (Ze 1 [t11_62] σ) λt91_66=>VV.rd (Xk false 1 [t91_66] σ) λt92_67=>VV.rd (Yn .gtr false [t90_65,t92_67] σ) λt93_68=>
  VV.gr t93_68 false (λk=>VV.rd (Ze 0 [t11_62] σ) k) λt95_69=>VV.gr t93_68 false (λk=>VV.rd (Xk false 1 [t95_69] σ) k) λt96_70=>
  VV.gr t93_68 false (λk=>VV.rd (ZP (.func 75) 0 [.bptr b4 0] σ) k) λt97_71=>VV.gw t93_68 false (λk=>VV.call (.call 74) [t96_70,t97_71] σ k) σ λt98_72 σ=>
  VV.rd (Xm [t93_68,(.bool true),t98_72] σ) λt99_73=>VV.test t99_73 (R σ) (K σ):=by
 refine Yx (row:=[rowV l,iv most]) rfl rfl rfl ?_;have hB:=Qf σ (ABlk.box [rowV l,iv most]);have hb':hget (σ++[ABlk.box [rowV l,iv most]]) b4=.box [.rptr (bkC b) 0]:=Zf _ hb (by simp);have ho:=Old.app σ [ABlk.box [rowV l,iv most]];generalize σ++[ABlk.box [rowV l,iv most]]=τ at hB hb' ho ⊢;generalize σ.length=c at hB ⊢;refine Za rfl (Za (ld hB rfl) (Za (v:=iv l.length) (rd:=[]) (by simp[Yf]) (Za rfl (Za (ld hB rfl) (Za (Xaa ..) ?_)))));refine YcT (d:=l.any λx=>decide (x<0)||decide ((b.cards.length:Int)≤x)) (λ_=>rfl) (λ_=>ld hB rfl) (λ_=>rfl) (λ_ k hk=>?_) ?_
 ·exact YC (c185 l hl 75 [] [.rptr [.rptr (bkC b) 0] 0] g75.ok.plain (λx=>decide (x<0)||decide ((b.cards.length:Int)≤x)) (λx _=>c186 b x) (λx=>rfl) rfl) rfl g74.ok.plain (Zcr hb' l 75) rfl hk
 have he:=Zcb b.cards.length l most;refine Zb (λh=>hR ?_ _ ho) (λh=>hK ?_ _ ho)
 ·rw[←he,h]; rfl
 ·rw[←he,h]; rfl
theorem Qdu(b:Bk)(next:Int)(u:Th)(met:Bool) :
  (!((((((((met||decide (u.card<0))||decide ((b.cards.length:Int)≤u.card)) || !((b.cards[u.card.toNat]?).getD default).unit)||decide (u.harm<0))||decide (1000000<u.harm))||decide (u.id<1))||decide (next≤u.id))))=(Zp b next u && !met):=by
 rw[Zp]
 grind
theorem c144(b:Bk)(s:St)(side:Int)(j:Nat)(x:Sd)(hx:SdAt (stC s) j x)(hj:∀σ,Yw 2 8 [.rptr (stC s) (0+7),iv side] σ=.ok (.rptr (stC s) j) [] [])(hs:SdLe 1000000000 x)(ids:List (Int×Int)){m:Nat}{σ:List ABlk}(hm:hget σ m=.map (mpG iv ids)){K:AVal→List ABlk→Prop}
 (hF:(Zl b.cards.length x&&Yq b s.next (ids.map (·.1)) x.units)=false→∀σ',K (.bool false) σ')
 (hT:(Zl b.cards.length x&&Yq b s.next (ids.map (·.1)) x.units)=true→∀σ',Bt m σ σ'→hget σ' m=.map (mpG iv (ids++x.units.map λu=>(u.id,side)))→K (.bool true) σ') :
  g48.u VV [.rptr (bkC b) 0,.rptr (stC s) 0,iv side,.map m] σ K:=by
 rw[H4.e]; unfold g48; dsimp only;refine Yc rfl (Xl _ _) ?_;have hB:=Qf σ (ABlk.box [.rptr (bkC b) 0]);have hm':hget (σ++[ABlk.box [.rptr (bkC b) 0]]) m=.map (mpG iv ids):=Zf _ hm (by simp);have ho:=Old.app σ [ABlk.box [.rptr (bkC b) 0]];have hml:=Xh hm (by simp);have hne:m≠σ.length:=by omega
 generalize σ++[ABlk.box [.rptr (bkC b) 0]]=τ at hB hm' ho ⊢;generalize σ.length=c at hB hne ⊢;refine Za rfl (Za rfl (Za (hj _) (Za rfl (Za rfl (Za (ldr hx.h0) ?_)))));refine Xb (c57 _) rfl g73.ok.plain rfl (Za rfl ?_);refine ZbK (λ_=>rfl) (λ_=>rfl) (λ_=>rfl) (λ_=>ldr hx.h1) (λ_=>XP ..) ?_;refine XcT (λ_=>rfl) (λ_=>rfl) (λ_=>rfl) (λ_=>ldr hx.h1) (λ_ k hk=>Xb (c57 _) rfl g73.ok.plain rfl hk) (λ_=>rfl) ?_;refine ZbK (λ_=>rfl) (λ_=>rfl) (λ_=>rfl) (λ_=>ldr hx.h2) (λ_=>XP ..) ?_;refine ZbK (λ_=>rfl) (λ_=>rfl) (λ_=>rfl) (λ_=>ldr hx.h2) (λ_=>Xaa ..) ?_;refine Zdh (λ_=>rfl) (λ_=>rfl) (λ_=>rfl) (λ_=>ldr hx.h6) (v5:=iv x.units.length) (q5:=[]) (λ_=>by simp[Yf]) (λ_=>Xaa ..) ?_;refine Zb (λh=>hF ?_ _) (λh=>?_)
 ·have:Zl b.cards.length x=false:=by
   rw[Bool.eq_false_iff]; intro hh;simp only[Zl,Bool.and_eq_true,decide_eq_true_eq] at hh;obtain⟨p1,p2,p3,p4,p5,_,_,_,_,p6⟩:=hh;simp only[p1,p3,Bool.not_true,Bool.false_or,Bool.or_false,Bool.or_eq_true,decide_eq_true_eq] at h;omega
  rw[this]; rfl
 simp only[Bool.or_eq_false_iff,Bool.not_eq_false',decide_eq_false_iff_not] at h;obtain⟨⟨⟨⟨⟨p1,p2⟩,p3⟩,p4⟩,p5⟩,p6⟩:=h;have hh:Zl b.cards.length x=(Zm b.cards.length x.deck 60&&(Zm b.cards.length x.hand 10&&(Zm b.cards.length x.grave 1000000&&Zm b.cards.length x.told 1000000))):=by
  have q2:decide (0≤x.mana)=true:=by simp; omega
  have q4:decide (0≤x.most)=true:=by simp; omega
  have q5:decide (x.most≤10)=true:=by simp; omega
  have q6:decide (x.units.length≤7)=true:=by simp; omega
  rw[Zl,p1,p3,q2,q4,q5,q6]; simp
 rw[hh] at hF hT;clear hh p1 p2 p3 p4 p5 p6;refine Za rfl (Za rfl (Za (ldr hx.h3) (Za rfl (Za rfl (Za rfl (Za (ldr hx.h4) (Za rfl (Za rfl (Za rfl (Za (ldr hx.h5) (Za rfl (Za rfl (Za rfl (Za (ldr hx.h7) (Za rfl (Za rfl ?_))))))))))))))));have d1:=hs.deck;have d2:=hs.hand;have d3:=hs.grave;have d4:=hs.told;have d5:=hs.units;refine XM 5 (Yl (Za rfl (Qc (Za rfl ?_))));refine Zb4 b x.deck (by rw[bigE]; omega) 60 hB (λh _ _=>hF (by rw[h]; rfl) _) (λa1 σ1 o1=>Za rfl (Yl (Za rfl (Qc (Za rfl ?_)))));refine Zb4 b x.hand (by rw[bigE]; omega) 10 (o1.get hB (by simp)) (λh _ _=>hF (by rw[a1,h]; rfl) _) (λa2 σ2 o2=>Za rfl (Yl (Za rfl (Qc (Za rfl ?_)))))
 replace o2:=o1.trans o2
 refine Zb4 b x.grave (by rw[bigE]; omega) 1000000 (o2.get hB (by simp)) (λh _ _=>hF (by rw[a1,a2,h]; rfl) _) (λa3 σ3 o3=>Za rfl (Yl (Za rfl (Qc (Za rfl ?_)))))
 replace o3:=o2.trans o3
 refine Zb4 b x.told (by rw[bigE]; omega) 1000000 (o3.get hB (by simp)) (λh _ _=>hF (by rw[a1,a2,a3,h]; rfl) _) (λa4 σ4 o4=>Za rfl (Yl (Za rfl (Yd ?_))))
 replace o4:=o3.trans o4
 rw[a1,a2,a3,a4] at hF hT;simp only[Bool.and_self,Bool.true_and] at hF hT;have hB4:=o4.get hB (by simp);have hm4:=o4.get hm' (by simp);have oo:=ho.trans o4;clear o1 o2 o3 o4 ho hB hm' hm;refine Za rfl (Za rfl (Za (ldr hx.h6) (Za (v:=iv x.units.length) (rd:=[]) (by simp[Yf]) ?_)));refine Xj (ι:=Nat) (λi vs τ=>vs=[iv i]∧i≤x.units.length∧hget τ c=.box [.rptr (bkC b) 0]∧hget τ m=.map (mpG iv (ids++(x.units.take i).map λu=>(u.id,side)))∧Bt m σ τ∧Yq b s.next (ids.map (·.1)) x.units=Yq b s.next ((ids++(x.units.take i).map λu=>(u.id,side)).map (·.1)) (x.units.drop i)) (λi=>x.units.length-i) 0
  ⟨rfl,by omega,hB4,by simpa using hm4,⟨oo.1,λc hc _=>oo.2 c hc⟩,by simp⟩ ?_
 clear hB4 hm4 oo;rintro i vs τ1 again ⟨rfl,hi,hB,hm,hbt,hr⟩ hag;refine Za rfl (Zb (λh=>?_) (λh=>?_));rotate_left
 ·have h:i=x.units.length:=by simp at h; omega
  subst h;rw[List.drop_length,Yq] at hr;rw[List.take_length] at hm;exact hT hr _ hbt hm
 have h:i<x.units.length:=by simpa using h
 have hix:=λ(s:List ABlk)=>Yo s thC false false 4 x.units .i64 i h;have htk:=Zu _ _ h;rw[YLD h,Yq] at hr;generalize x.units[i]=u at hix htk hr;generalize hq:ids++(x.units.take i).map (λu=>(u.id,side))=cur at hm hr;have hcur:ids++(x.units.take (i+1)).map (λu=>(u.id,side))=cur++[(u.id,side)]:=by rw[htk,List.map_append,←List.append_assoc,hq]; rfl
 refine Za (hix _) (Za (ldr rfl) (Yx (row:=thC u) (row':=thC u) rfl rfl rfl ?_));have hU:=Qf τ1 (ABlk.box (thC u));have hB':hget (τ1++[ABlk.box (thC u)]) c=.box [.rptr (bkC b) 0]:=Zf _ hB (by simp);have hm':hget (τ1++[ABlk.box (thC u)]) m=.map (mpG iv cur):=Zf _ hm (by simp);have hml':=Xh hm' (by simp);have hbt':Bt m σ (τ1++[ABlk.box (thC u)]):=hbt.trans (Bt.gr m (Old.app _ _).1 (Old.app _ _).2);generalize τ1++[ABlk.box (thC u)]=τ2 at hU hB' hm' hml' hbt' ⊢;generalize τ1.length=d at hU ⊢;refine Za rfl (Za (ld hU rfl) (Za (ZbP iv _ _ hm' _) ?_));rw[Yc4];refine Za rfl (Za rfl ?_);refine QaK (λ_=>rfl) (λ_=>ld hU rfl) (λ_=>XP ..) ?_;refine XdI (λ_=>rfl) (λ_=>ld hU rfl) (λ_=>ld hB' rfl) (λ_=>rfl) (λ_=>rfl) (λ_=>ldr rfl) (v7:=iv b.cards.length) (q7:=[]) (λ_=>by simp[Yf]) (λ_=>Yah ..) ?_;refine Xds (d:=!((b.cards[u.card.toNat]?).getD default).unit) (λ_=>ld hB' rfl) (λ_=>rfl) (λ_=>rfl) (λ_=>ldr rfl) (λ_=>rfl) (λ_=>ld hU rfl) (v7:=.rptr (cdC ((b.cards[u.card.toNat]?).getD default)) 0) (q7:=[]) (λhc=>?_) (λ_=>rfl) (λ_=>ldr (cdLd1 _)) (λ_=>rfl) ?_
 ·simp only[Bool.or_eq_false_iff,decide_eq_false_iff_not] at hc;have e3:u.card.toNat<b.cards.length:=by omega
  rw[List.getElem?_eq_getElem e3];exact Qa7 _ cdC _ _ _ b.cards _ u.card (by omega) e3
 refine QaK (λ_=>rfl) (λ_=>ld hU rfl) (λ_=>XP ..) ?_;refine QaK (λ_=>rfl) (λ_=>ld hU rfl) (λ_=>Xaa ..) ?_;refine QaK (λ_=>rfl) (λ_=>ld hU rfl) (λ_=>XP ..) ?_;refine Ybk (λ_=>rfl) (λ_=>ld hU rfl) (λ_=>rfl) (λ_=>rfl) (λ_=>rfl) (v6:=iv s.next) (q6:=[]) (λ_=>ldr rfl) (λ_=>Yah ..) ?_;have hue:=Qdu b s.next u (ilook u.id cur).isSome;have hk:=YaE u.id cur;refine Zb (λh2=>hF ?_ _) (λh2=>?_)
 ·rw[h2] at hue;rw[hr,←hk];have hue:(Zp b s.next u && !(ilook u.id cur).isSome)=false:=hue.symm;cases h5:Zp b s.next u with
  |false=>rfl
  |true=>
   rw[h5] at hue;have:(ilook u.id cur).isSome=true:=by simpa using hue
   rw[this]; rfl
 ·rw[h2] at hue;have hue:(Zp b s.next u && !(ilook u.id cur).isSome)=true:=hue.symm;simp only[Bool.and_eq_true,Bool.not_eq_true'] at hue;have hnone:ilook u.id cur=none:=by
   have:=hue.2;cases h5:ilook u.id cur with
   |none=>rfl
   |some v=>rw[h5] at this; cases this
  rw[hue.1,←hk,hue.2,Bool.not_false,Bool.true_and,Bool.true_and] at hr;refine Za rfl (Za (ld hU rfl) (Yc (Zde iv hm' _ side hnone) (Yj _ hml') (Za (Yh ..) ?_)));rw[Qd (n:=i) (by omega)];refine hag (i+1) _ _ (by omega) ⟨rfl,by omega,Yg hB' (by simp) (λe=>hne e),?_,hbt'.trans ⟨by simp,λc hc hne=>Ye _ hc hne⟩,?_⟩
  ·rw[hcur]; exact Qg _ hml'
  ·rw[hcur,hr,List.map_append]; rfl
end Go.Ah.Tz
end
section
namespace Go.Ah.Tz
open Go.Proofs.Tryz (prog)
theorem Zbr(k:Int)(a:Int):∀l:List Th,ilook a (l.map λu=>(u.id,k))=(fnd l a).map λ_=>k
 |[]=>rfl
 |u::l=>by
  have:=Zbr k a l;simp only[List.map_cons,ilook,fnd,List.findIdx?_cons];by_cases h:u.id=a
  ·simp_all
  ·have h2:(a==u.id)=false:=by simp; exact λe=>h e.symm
   simp only[h2,Bool.false_eq_true,if_false,decide_eq_false h,this,fnd,Option.map_map];rfl
theorem ZcH(s:St)(a:Int):ilook a (s.s0.units.map (λu=>(u.id,(0:Int)))++s.s1.units.map (λu=>(u.id,(1:Int))))=if (unitR s a).2.2=true then some (unitR s a).1 else none:=by
 rw[XaI,Zbr,Zbr,unitR]
 grind
attribute [local irreducible] Ans.rd Ans.pu Ans.wr Ans.dr Ans.gr Ans.gw Ans.gl Ans.gd Ans.opt joinK W
set_option maxHeartbeats 4000000
theorem bkLd(b:Bk):partA true 0 2 (bkC b)=some (bkV b):=rfl
theorem Xt{e:Int}{b:Bk}{s:St}{bare:Bool}(h:mayR e b s bare=true):e=0∧1≤s.turn∧s.turn≤4096∧0≤s.mover∧s.mover≤1∧0≤s.phase∧s.phase≤2∧0≤s.result∧s.result≤3∧((s.result==0)==(s.phase != 2))=true∧1≤s.next∧s.next≤1000000∧s.attack.length≤7:=by
 simp only[mayR,Bool.and_eq_true,decide_eq_true_eq] at h
 grind
theorem QcG(o:Option Int):lookV true (iv 0) (o.map iv)=.tup [iv (o.getD 0),.bool o.isSome]:=by cases o<;>rfl
theorem XcG(o:Option Bool):lookV false (.bool false) (o.map AVal.bool)=.bool (o.getD false):=by cases o<;>rfl
theorem Qb3(t:Int):∀l:List Int,(ilook t (l.map λa=>(a,true))).getD false=l.contains t
 |[]=>rfl
 |a::l=>by
  simp only[List.map_cons,ilook,List.contains_cons];cases h:t==a<;>simp_all [Qb3]
theorem c111(b:Bk)(hf:bkFit b=true)(hsm:Qj b.cards)(s:St)(hs:StLe 1000000000 s)(bare:Bool):PC 25 [.rptr (bkC b) 0,.rptr (stC s) 0,.bool bare] (.bool (mayR (bkR b).1 b s bare)):=by
 have h143:=c143 b hf hsm;generalize (bkR b).1=e at h143 ⊢;generalize (bkR b).2=ep at h143;have hat:=hs.attack;refine Qb hP g25.ok rfl rfl ?_;rw[H3.e]; unfold g25; dsimp only;refine Za rfl (Za rfl (Za (ldr rfl) (Za (XP ..) ?_)));refine Zi λk4 hk4=>?_;have kbad:(mayR e b s bare=true→False)→k4 [.bool true] []:=by
  intro h; rw[hk4]; refine Qc ?_;rw[Bool.eq_false_iff.2 (λhm=>h hm)]
 apply cutF (R:=k4 [.bool false] []) (1≤s.turn∧s.turn≤4096∧0≤s.mover∧s.mover≤1∧0≤s.phase∧s.phase≤2∧0≤s.result∧s.result≤3∧((s.result==0)==(s.phase != 2))=true∧1≤s.next∧s.next≤1000000∧s.attack.length≤7∧e=0)
 ·intro hR;clear hk4;refine Zb (λh=>by rw[h]; exact kbad (λhm=>by have:=Xt hm; simp at h; omega)) (λb1=>Za rfl (Za rfl (Za (ldr rfl) (Za (Xaa ..) ?_))));refine Zb (λh=>by rw[h]; exact kbad (λhm=>by have:=Xt hm; simp at h; omega)) (λb2=>Za rfl (Za rfl (Za (ldr rfl) (Za (XP ..) ?_))));refine Zb (λh=>by rw[h]; exact kbad (λhm=>by have:=Xt hm; simp at h; omega)) (λb3=>Za rfl (Za rfl (Za (ldr rfl) (Za (Xaa ..) ?_))));refine Zb (λh=>by rw[h]; exact kbad (λhm=>by have:=Xt hm; simp at h; omega)) (λb4=>Za rfl (Za rfl (Za (ldr rfl) (Za (XP ..) ?_))));refine Zb (λh=>by rw[h]; exact kbad (λhm=>by have:=Xt hm; simp at h; omega)) (λb5=>Za rfl (Za rfl (Za (ldr rfl) (Za (Xaa ..) ?_))));refine Zb (λh=>by rw[h]; exact kbad (λhm=>by have:=Xt hm; simp at h; omega)) (λb6=>Za rfl (Za rfl (Za (ldr rfl) (Za (XP ..) ?_))));refine Zb (λh=>by rw[h]; exact kbad (λhm=>by have:=Xt hm; simp at h; omega)) (λb7=>Za rfl (Za rfl (Za (ldr rfl) (Za (Xaa ..) ?_))));refine Zb (λh=>by rw[h]; exact kbad (λhm=>by have:=Xt hm; simp at h; omega)) (λb8=>Za rfl (Za rfl (Za (ldr rfl) (Za (Xd ..) (Za rfl (Za rfl (Za (ldr rfl) (Za (Qaa ..) (Za (YdC ..) ?_)))))))));have hx:(!(decide (s.result=0)==decide (s.phase≠2))) = !((s.result==0)==(s.phase != 2)):=by
   congr 1
   have e1:decide (s.result=0)=(s.result==0):=by rw[Bool.eq_iff_iff]; simp
   have e2:decide (s.phase≠2)=(s.phase != 2):=by rw[Bool.eq_iff_iff]; simp
   rw[e1,e2]
  rw[hx];refine Zb (λh=>by rw[h]; exact kbad (λhm=>by have:=(Xt hm).2.2.2.2.2.2.2.2.2.1; rw[this] at h; cases h)) (λb9=>Za rfl (Za rfl (Za (ldr rfl) (Za (XP ..) ?_))));refine Zb (λh=>by rw[h]; exact kbad (λhm=>by have:=Xt hm; simp at h; omega)) (λb10=>Za rfl (Za rfl (Za (ldr rfl) (Za (Xaa ..) ?_))));refine Zb (λh=>by rw[h]; exact kbad (λhm=>by have:=Xt hm; simp at h; omega)) (λb11=>Za rfl (Za rfl (Za (ldr rfl) (Za (v:=iv s.attack.length) (rd:=[]) (by simp[Yf]) (Za (Xaa ..) ?_)))));refine Zb (λh=>by rw[h]; exact kbad (λhm=>by have:=Xt hm; simp at h; omega)) (λb12=>Za rfl (Za (ldr (bkLd b)) ?_));refine Xb h143 rfl g47.ok.plain rfl (Za rfl (Za (Qaa ..) ?_));by_cases he:e=0
  ·rw[show decide (e≠0)=false by simp[he]];simp at b1 b2 b3 b4 b5 b6 b7 b8 b10 b11 b12;exact hR ⟨by omega,by omega,by omega,by omega,by omega,by omega,by omega,by omega,by simpa using b9,by omega,by omega,by omega,he⟩
  ·rw[show decide (e≠0)=true by simp[he]];exact kbad (λhm=>he (Xt hm).1)
 rintro⟨p1,p2,p3,p4,p5,p6,p7,p8,p9,p10,p11,p12,p13⟩;rw[hk4]; clear hk4 kbad k4;have hmay:mayR e b s bare=(Qt b s&&(if s.phase≠1 then decide (s.attack.length=0) else !(decide (s.attack.length=0) && !bare)&&(s.struck&&attOk s [] s.attack))):=by
  rw[mayR,decide_eq_true p13,decide_eq_true p1,decide_eq_true p2,decide_eq_true p3,decide_eq_true p4,decide_eq_true p5,decide_eq_true p6,decide_eq_true p7,decide_eq_true p8,p9,decide_eq_true p10,decide_eq_true p11,decide_eq_true p12];rfl
 rw[hmay]; clear hmay h143 p1 p2 p3 p4 p5 p6 p7 p8 p9 p10 p11 p13;have w1:IntKind.i64.wrap (0+1)=1:=by decide
 have w2:IntKind.i64.wrap (1+1)=2:=by decide
 refine Yd (Yc rfl rfl (XM 3 (Yl (Za rfl (Qc ?_)))));refine Xg hP rfl g48.ok rfl (c144 b s 0 7 s.s0 (sdAt0 s) (λ_=>rfl) hs.s0 [] (by rfl) (λh σ1=>?_) (λh σ1 t1 m1=>?_))
 ·refine Za rfl (Qc ?_);have h:(Zl b.cards.length s.s0&&Yq b s.next [] s.s0.units)=false:=h;have:Qt b s=false:=by
   rw[Qt,←Bool.and_assoc,h]; rfl
  rw[this]; rfl
 refine Za rfl (Yd (Za rfl ?_));rw[w1];refine Yl (Za rfl (Qc ?_));refine Xg hP rfl g48.ok rfl (c144 b s 1 15 s.s1 (sdAt1 s) (λ_=>rfl) hs.s1 _ m1 (λh2 σ2=>?_) (λh2 σ2 t2 m2=>?_))
 ·refine Za rfl (Qc ?_);have e0:(([]++s.s0.units.map λu=>(u.id,(0:Int))):List (Int×Int)).map (·.1)=s.s0.units.map Th.id:=by simp[Function.comp_def]
  rw[e0] at h2;have:Qt b s=false:=by
   rw[Qt,h2]; simp
  rw[this]; rfl
 have hso:Qt b s=true:=by
  have e0:(([]++s.s0.units.map λu=>(u.id,(0:Int))):List (Int×Int)).map (·.1)=s.s0.units.map Th.id:=by simp[Function.comp_def]
  rw[e0] at h2;have h:(Zl b.cards.length s.s0&&Yq b s.next [] s.s0.units)=true:=h;rw[Qt,←Bool.and_assoc,h,h2]; rfl
 rw[hso,Bool.true_and];clear hso h h2 m1 t1 t2;refine Za rfl (Yd (Za rfl ?_));rw[w2];refine Yl (Za rfl (Yd (Za rfl (Za rfl (Za (ldr rfl) (Za (Qaa ..) ?_))))));refine Zb (λhp=>?_) (λhp=>?_)
 ·have hp:s.phase≠1:=by simpa using hp
  rw[if_pos hp];refine Za rfl (Za rfl (Za (ldr rfl) (Za (v:=iv s.attack.length) (rd:=[]) (by simp[Yf]) (Za (Xd ..) ?_))))
  congr 1
  rw[Bool.eq_iff_iff]; simp
 have hp:¬s.phase≠1:=by simpa using hp
 rw[if_neg hp];refine Yc rfl (Xl _ _) (Za rfl (Za rfl (Za (ldr rfl) (Za (v:=iv s.attack.length) (rd:=[]) (by simp[Yf]) ?_))));have hnew:hget (σ2++[ABlk.map []]) σ2.length=.map (mpG AVal.bool (([]:List Int).map λa=>(a,true))):=Qf _ _;have hold:=Zf [ABlk.map []] m2 (by simp);have hne:σ2.length≠0:=by have:=Xh m2 (by simp); omega
 generalize σ2++[ABlk.map []]=τ at hnew hold ⊢;generalize σ2.length=mb at hnew hne ⊢;refine Xj (ι:=Nat) (λi vs τ=>vs=[iv i]∧i≤s.attack.length∧hget τ 0=.map (mpG iv (([]++s.s0.units.map λu=>(u.id,(0:Int)))++s.s1.units.map λu=>(u.id,(1:Int))))∧hget τ mb=.map (mpG AVal.bool ((s.attack.take i).map λa=>(a,true)))∧attOk s [] s.attack=attOk s (s.attack.take i) (s.attack.drop i)) (λi=>s.attack.length-i) 0
  ⟨rfl,by omega,hold,by simpa using hnew,by simp⟩ ?_
 clear hnew hold m2;rintro i vs τ1 again ⟨rfl,hi,hm0,hmb,hr⟩ hag;refine Za rfl (Zb (λh=>?_) (λh=>?_));rotate_left
 ·have h:i=s.attack.length:=by simp at h; omega
  subst h;rw[List.drop_length,attOk] at hr;rw[hr,Bool.and_true];refine Za rfl (Za rfl (Za (ldr rfl) ?_));cases hst:s.struck with
  |false=>
   refine Qa rfl (Qa rfl (Zc rfl (Zc rfl (Zc rfl (Zc rfl (Zc rfl (Zc rfl (Qa rfl (Za rfl ?_)))))))));simp
  |true=>
   refine Ya (Za rfl (Ya (Za rfl ?_)));cases bare with
   |true=>
    refine Qa rfl (Qa rfl (Qa rfl (Qa rfl (Qa rfl (Qa rfl (Ya (Za rfl (Za rfl ?_))))))));simp
   |false=>
    refine Ya (Za rfl (Ya (Za rfl (Ya (Za rfl (Ya (Za (ldr rfl) (Ya (Za (v:=iv s.attack.length) (rd:=[]) (by simp[Yf]) (Ya (Za (Xaa ..) (Ya (Za rfl (Za rfl ?_))))))))))))));show AVal.bool _=_
    congr 1
    rw[Bool.eq_iff_iff];simp[List.length_pos_iff]
 have h:i<s.attack.length:=by simpa using h
 have htk:=Zu _ _ h;rw[YLD h,attOk] at hr;refine Za (Yo _ cel _ _ _ s.attack _ i h) (Za (ldr rfl) (Za (ZbP iv _ _ hm0 _) ?_));rw[QcG,List.nil_append,ZcH];generalize s.attack[i]=a at htk hr ⊢;generalize ho:(if (unitR s a).2.2=true then some (unitR s a).1 else none)=o;have ho1:o.isSome=(unitR s a).2.2:=by rw[←ho]; cases (unitR s a).2.2<;>rfl
 have ho2:(unitR s a).2.2=true→o.getD 0=(unitR s a).1:=by intro q; rw[←ho,if_pos q]; rfl
 refine Za rfl (Za rfl (Za rfl ?_));refine Zdh (λ_=>rfl) (λ_=>rfl) (λ_=>rfl) (λ_=>rfl) (λ_=>ldr rfl) (λ_=>Qaa ..) ?_;refine QaK (d:=(ilook a ((s.attack.take i).map λa=>(a,true))).getD false) (λ_=>rfl) (λ_=>rfl) (λ_=>by rw[ZbP AVal.bool _ _ hmb,XcG]) ?_;have hmet:=Qb3 a (s.attack.take i);refine Zb (λh2=>?_) (λh2=>?_)
 ·have:attOk s [] s.attack=false:=by
   rw[hr,Bool.eq_false_iff]; intro q;simp only[Bool.and_eq_true,decide_eq_true_eq,Bool.not_eq_true'] at q;obtain⟨⟨q1,q2⟩,q3,q4⟩:=q;rw[ho1,ho2 q1,q1,q2,hmet,q3] at h2;simp at h2
  rw[this]; simp
 ·simp only[Bool.or_eq_false_iff,Bool.not_eq_false',decide_eq_false_iff_not,Decidable.not_not] at h2;obtain⟨⟨q1,q2⟩,q3⟩:=h2;rw[ho1] at q1;rw[ho2 q1] at q2;have hnone:ilook a ((s.attack.take i).map λa=>(a,true))=none:=by
   have:=YaE a ((s.attack.take i).map λa=>(a,true));simp only[List.map_map,Function.comp_def,List.map_id'] at this;rw[←hmet,q3] at this;cases h5:ilook a ((s.attack.take i).map λa=>(a,true)) with
   |none=>rfl
   |some v=>rw[h5] at this; cases this
  rw[hmet] at q3;rw[q1,q2,q3] at hr;have hml:=Xh hmb (by simp);refine Yc (Zde AVal.bool hmb a true hnone) (Yj _ hml) (Za (Yh ..) ?_);rw[Qd (n:=i) (by omega)];refine hag (i+1) _ _ (by omega) ⟨rfl,by omega,Yg hm0 (by simp) (λe=>hne e),?_,?_⟩
  ·rw[htk,List.map_append]; exact Qg _ hml
  ·rw[htk,hr]; simp
end Go.Ah.Tz
end
section
namespace Go.Ah.Tz
open Go.Proofs.Tryz (prog)
def RI(σ:List ABlk)(rd:List Nat)(v:AVal)(l:List Int):Prop:=Bor (hp σ) rd v (rowV l)
def RT(σ:List ABlk)(rd:List Nat)(v:AVal)(l:List Th):Prop:=Bor (hp σ) rd v (thV l)
theorem Zdc:∀ {l:List Int},∀r∈l.map cel,roL r=true:=by
 intro l r hr;obtain⟨x,_,rfl⟩:=List.mem_map.1 hr; rfl
theorem th_ro:∀ {l:List Th},∀r∈l.map thC,roL r=true:=by
 intro l r hr;obtain⟨x,_,rfl⟩:=List.mem_map.1 hr; rfl
theorem RI.own{σ:List ABlk}{rd:List Nat}{b:Nat}{ex:Bool}{l:List Int}{n:Nat}(hb:hget σ b=.rows 1 (l.map cel))(hin:b∈rd)(hn:n=l.length):RI σ rd (.sl b 0 n ex) l:=
 Bor.own hb hin (by simp[hn]) (Yax _ _ (by simp[hn])) Zdc
theorem RI.tail{σ:List ABlk}{rd:List Nat}{b:Nat}{ex:Bool}{x:Int}{l:List Int}{n:Nat}(hb:hget σ b=.rows 1 ((x::l).map cel))(hin:b∈rd)(hn:n=l.length):RI σ rd (.sl b 1 n ex) l:=
 Bor.own hb hin (by simp[hn]; omega) (YcZ _ _ _ (by simp[hn])) Zdc
theorem RI.nils{σ:List ABlk}{rd:List Nat}:RI σ rd .nils []:=Bor.weak (Bor.ro rfl) (λM u d=>d.nils_rsl 1)
theorem RT.nils{σ:List ABlk}{rd:List Nat}:RT σ rd .nils []:=Bor.weak (Bor.ro rfl) (λM u d=>d.nils_rsl 4)
theorem RT.own{σ:List ABlk}{rd:List Nat}{b:Nat}{ex:Bool}{l:List Th}{n:Nat}(hb:hget σ b=.rows 4 (l.map thC))(hin:b∈rd)(hn:n=l.length):RT σ rd (.sl b 0 n ex) l:=
 Bor.own hb hin (by simp[hn]) (Yax _ _ (by simp[hn])) th_ro
@[reducible] def stQ(s:St)(a d0 h0 g0 u0 t0 d1 h1 g1 u1 t1:AVal):List AVal:=[iv s.turn,iv s.mover,iv8 s.phase,.bool s.struck,iv8 s.result,a,iv s.next,
 iv s.s0.life,iv s.s0.mana,iv s.s0.most,d0,h0,g0,u0,t0,iv s.s1.life,iv s.s1.mana,iv s.s1.most,d1,h1,g1,u1,t1]
def SB(σ:List ABlk)(rd:List Nat)(cs:List AVal)(s:St):Prop:=BorL (hp σ) rd cs (stC s)
theorem SB.mk{σ:List ABlk}{rd:List Nat}{s:St}{a d0 h0 g0 u0 t0 d1 h1 g1 u1 t1:AVal}(x1:RI σ rd a s.attack)(x2:RI σ rd d0 s.s0.deck)(x3:RI σ rd h0 s.s0.hand)(x4:RI σ rd g0 s.s0.grave)(x5:RT σ rd u0 s.s0.units)(x6:RI σ rd t0 s.s0.told)
 (y2:RI σ rd d1 s.s1.deck)(y3:RI σ rd h1 s.s1.hand)(y4:RI σ rd g1 s.s1.grave)(y5:RT σ rd u1 s.s1.units)(y6:RI σ rd t1 s.s1.told):SB σ rd (stQ s a d0 h0 g0 u0 t0 d1 h1 g1 u1 t1) s:=
 .cons (Bor.ro rfl) <| .cons (Bor.ro rfl) <| .cons (Bor.ro rfl) <| .cons (Bor.ro rfl) <| .cons (Bor.ro rfl) <| .cons x1 <| .cons (Bor.ro rfl) <| .cons (Bor.ro rfl) <| .cons (Bor.ro rfl) <| .cons (Bor.ro rfl) <| .cons x2 <| .cons x3 <| .cons x4 <| .cons x5 <| .cons x6 <|
 .cons (Bor.ro rfl) <| .cons (Bor.ro rfl) <| .cons (Bor.ro rfl) <| .cons y2 <| .cons y3 <| .cons y4 <| .cons y5 <| .cons y6 .nil
theorem SB.agg{σ:List ABlk}{rd:List Nat}{cs:List AVal}{s:St}(h:SB σ rd cs s):Bor (hp σ) rd (.agg cs) (stV s):=Bor.agg h
def zSd:Sd:=⟨0,0,0,[],[],[],[],[]⟩
def zSt:St:=⟨0,0,0,false,0,[],0,zSd,zSd⟩
theorem SB.zero{σ:List ABlk}{rd:List Nat}:SB σ rd (stQ zSt .nils .nils .nils .nils .nils .nils .nils .nils .nils .nils .nils) zSt:=SB.mk .nils .nils .nils .nils .nils .nils .nils .nils .nils .nils .nils
structure Ev where
 kind:Int
 side:Int
 card:Int
 id:Int
 other:Int
 n:Int
 cards:List Int
 deriving DecidableEq,Inhabited
@[reducible] def evC(e:Ev):List AVal:=[iv8 e.kind,iv e.side,iv e.card,iv e.id,iv e.other,iv e.n,rowV e.cards]
@[reducible] def evV(e:Ev):AVal:=.agg (evC e)
def zEv:Ev:=⟨0,0,0,0,0,0,[]⟩
theorem evB{σ:List ABlk}{rd:List Nat}{e:Ev}{v:AVal}(h:RI σ rd v e.cards):Bor (hp σ) rd (.agg [iv8 e.kind,iv e.side,iv e.card,iv e.id,iv e.other,iv e.n,v]) (evV e):=
 Bor.agg (.cons (Bor.ro rfl) <| .cons (Bor.ro rfl) <| .cons (Bor.ro rfl) <| .cons (Bor.ro rfl) <| .cons (Bor.ro rfl) <| .cons (Bor.ro rfl) <| .cons h .nil)
attribute [local irreducible] Ans.rd Ans.pu Ans.wr Ans.dr Ans.gr Ans.gw Ans.gl Ans.gd Ans.opt joinK W
set_option maxHeartbeats 1000000
theorem c56(b:Bk)(hf:bkFit b=true)(hsm:Qj b.cards)(s:St)(hs:StLe 1000000000 s){σ:List ABlk}{bb sb:Nat}(h1:hget σ bb=.box (bkC b))(h2:hget σ sb=.box (stC s)){K:AVal→List ABlk→Prop}
 (hF:mayR (bkR b).1 b s true=false→K .nilp σ)(hT:mayR (bkR b).1 b s true=true→K (.bptr (σ++stB s).length 0) (σ++stB s++[.box (.bptr bb 0::stO s σ.length)])):g86.u VV [.bptr bb 0,.bptr sb 0] σ K:=by
 rw[H2.e]; unfold g86; dsimp only;have hb1:hp σ bb=some (.box (bkC b)):=Y2 h1 (by simp);have hb2:hp σ sb=some (.box (stC s)):=Y2 h2 (by simp);refine ZC (rd:=[bb,sb]) (c111 b hf hsm s hs true) rfl g25.ok.plain (.cons (Bor.box hb1 (by simp) (BorL.ro rfl)) <| .cons (Bor.box hb2 (by simp) (BorL.ro rfl)) <| .cons (Bor.ro rfl) .nil) rfl ?_;refine Za rfl (Zb (λh=>?_) (λh=>?_))
 ·exact hF (by simpa using h)
 refine Za rfl (Za (ld h2 rfl) ?_);refine Ybl (c59 s hs) rfl g18.ok.plain rfl ?_;have e1:(AVal.agg (stO s 0)).ren (YH σ.length)=.agg (stO s σ.length):=by
  simp[AVal.ren,renL,YH,Nat.add_comm]; omega
 have e2:Yy σ.length (stB s)=stB s:=by
  simp only[Yy,stB,sdB,List.map_cons,List.map_append,List.map_nil,YaB,Zbt]
 rw[e1,e2];refine Za rfl (Yc rfl (Xl _ _) ?_);exact hT (by simpa using h)
def tailV(b:Nat):List Int→AVal
 |[]=>.rsl false true 1 []
 |y::l=>.sl b 1 (y::l).length false
theorem Xdr{τ:List ABlk}{bf:Nat}{x:Int}{l:List Int}(hbf:hget τ bf=.rows 1 ((x::l).map cel)):∃rd,ZL 1 [.sl bf 0 (l.length+1) false,iv 1] τ=.ok (tailV bf l) rd []:=by
 cases l with
 |nil=>
  refine⟨[],?_⟩;show (match hget τ bf with
   |.rows s _=>bif Nat.beq s 1 then (bif Nat.blt 1 1 then SRes.ok (.sl bf (0+1) (1-1) false) [bf] [] else bif Nat.beq 1 1 then .ok (.rsl false true 1 []) [] [] else .stop) else .stop
   | _=>.stop)=_
  rw[hbf]; rfl
 |cons y l=>
  refine⟨[bf],?_⟩;show (match hget τ bf with
   |.rows s _=>bif Nat.beq s 1 then (bif Nat.blt 1 ((y::l).length+1) then SRes.ok (.sl bf (0+1) ((y::l).length+1-1) false) [bf] [] else bif Nat.beq 1 ((y::l).length+1) then .ok (.rsl false true 1 []) [] [] else .stop) else .stop
   | _=>.stop)=_
  rw[hbf];rfl
theorem RI.tailV{σ:List ABlk}{rd:List Nat}{b:Nat}{x:Int}{l:List Int}(hb:hget σ b=.rows 1 ((x::l).map cel))(hin:b∈rd):RI σ rd (Tz.tailV b l) l:=by
 cases l with
 |nil=>
  refine Bor.weak (Bor.ro (x:=.rsl false true 1 []) rfl) (λM u d=>?_);cases d with
  |rsl _ _ _ _ _ a cap blk off f q1 q2 q3 q4 q5 q6 q7 q8=>exact .rsl _ _ _ _ _ a cap blk off f q1 (λh=>by cases h) q3 q4 q5 q6 q7 q8
 |cons y l=>exact RI.tail hb hin rfl
theorem c58{τ:List ABlk}{mb jf jt bf bt n k:Nat}{row row1 row2:List AVal}{x:Int}{l t:List Int}{vf:AVal}(hm:hget τ mb=.box row)(hf:partA false jf 1 row=some (.sl bf 0 n false))(hn:n=l.length+1)(ht:partA false jt 1 row1=some (.sl bt 0 k false))(hk:k=t.length)(hkl:t.length≤1000000000)
 (hbf:hget τ bf=.rows 1 ((x::l).map cel))(hbt:hget τ bt=.rows 1 (t.map cel))(hne:mb≠bf)(hne2:mb≠bt)(hvf:vf=tailV bf l)
 (h1:splice jf [vf] row=some row1)(h2:splice jt [.sl (τ.length+1) 0 (k+1) false] row1=some row2){K:AVal→List ABlk→Prop}
 (hK:K (iv x) (((((τ.set mb (.box row1)).set bt .dead)++[ABlk.rows 1 [cel x]])++[ABlk.rows 1 ((t++[x]).map cel)]).set mb (.box row2))):g87.u VV [.bptr mb jf,.bptr mb jt] τ K:=by
 subst hn; subst hk;have hml:=Xh hm (by simp);have hbl:=Xh hbt (by simp);rw[H2.e]; unfold g87; dsimp only;refine Za rfl (Za (ld hm hf) ?_);have hx:Zo 1 [.sl bf 0 (l.length+1) false,iv ((0:Nat):Int)] τ=.ok (.ptr bf (0+0) 0) [bf] []:=Ycz τ bf 0 _ false 1 _ .i64 0 (by omega) hbf;refine Za hx ?_;refine Za (v:=iv x) (rd:=[bf]) ?_ ?_
 ·show (match hget τ bf with
   |.rows _ rs=>match nth rs 0 with
    |some row=>match partA false 0 1 row with
     |some v=>SRes.ok v [bf] []
     |none=>.stop
    |none=>.stop
   | _=>.stop)=_
  rw[hbf]; rfl
 refine Za rfl (Za (ld hm hf) ?_);have hvc:cellsOf vf=some [vf]:=by subst hvf; cases l<;>rfl
 obtain⟨rd,hsl⟩:=Xdr hbf;rw[←hvf] at hsl;refine Za hsl ?_;refine Za rfl (Yc (stv hm hvc rfl h1) (Yj _ hml) (Za rfl (Za (ld (Qg _ hml) ht) ?_)));have hbt':hget (τ.set mb (.box row1)) bt=.rows 1 (t.map cel):=Yg hbt (by simp) hne2;rw[Xaw _ _ _ _ _ (cel x) rfl rfl,YbM _ 1 8 (τ.set mb (.box row1)) bt t.length false _ (cel x) hbt' (by simp) rfl (by omega)];refine Za rfl ?_;have hz:t.map cel++[cel x]=(t++[x]).map cel:=by simp
 have hlen:(τ.set mb (ABlk.box row1)).length=τ.length:=by simp
 have hm3:hget ((((τ.set mb (.box row1)).set bt .dead)++[ABlk.rows 1 [cel x]])++[ABlk.rows 1 ((t++[x]).map cel)]) mb=.box row1:=by
  grind [Ym,Ye,Qg]
 rw[hz,hlen];refine Yc (stv hm3 rfl rfl h2) (Yj _ (by simp; omega)) ?_;exact hK
end Go.Ah.Tz
end
section
namespace Go.Ah.Tz
open Go.Proofs.Tryz (prog)
theorem Yds(s:St)(n:Nat):(AVal.agg (stO s 0)).ren (YH n)=.agg (stO s n):=by
 simp[AVal.ren,renL,YH,Nat.add_comm]; omega
theorem Zds(s:St)(n:Nat):Yy n (stB s)=stB s:=by
 simp only[Yy,stB,sdB,List.map_cons,List.map_append,List.map_nil,YaB,Zbt]
theorem Xb5:∀l:List Int,XW (l.map cel)=true
 |[]=>rfl
 |x::l=>by simp only[List.map_cons,XW,Xb5 l,Bool.and_true]; rfl
theorem ZcL:∀l:List Th,XW (l.map thC)=true
 |[]=>rfl
 |x::l=>by simp only[List.map_cons,XW,ZcL l,Bool.and_true]; rfl
theorem Yda(s:St):YaJ (stB s)=true:=by
 simp only[stB,sdB,List.cons_append,List.nil_append,YaJ,ABlk.nosh,Xb5,ZcL,Bool.and_self]
theorem d59{s:St}(hs:StLe 1000000000 s){σ:List ABlk}{rd:List Nat}{cs:List AVal}(h:SB σ rd cs s){K:AVal→List Nat×List Nat→List ABlk→Prop}(hK:K (.agg (stO s σ.length)) (rd,Xab σ.length (stB s)) (σ++stB s)):VV.dcall (.call 18) [.agg cs] σ K:=by
 refine Qb9 (c59 s hs) rfl g18.ok.plain (.cons (SB.agg h) .nil) rfl (Yda s) ?_;rw[Yds,Zds]; exact hK
theorem SdLe.mono{n m:Nat}{s:Sd}(h:SdLe n s)(k:n≤m):SdLe m s:=⟨Nat.le_trans h.1 k,Nat.le_trans h.2 k,Nat.le_trans h.3 k,Nat.le_trans h.4 k,Nat.le_trans h.5 k⟩
theorem StLe.mono{n m:Nat}{s:St}(h:StLe n s)(k:n≤m):StLe m s:=⟨Nat.le_trans h.1 k,h.2.mono k,h.3.mono k⟩
theorem Xaz{e:Int}{b:Bk}{s:St}{bare:Bool}(h:mayR e b s bare=true):Qt b s=true:=by
 simp only[mayR,Bool.and_eq_true] at h;exact h.2.2.2.2.2.2.2.2.2.2.2.2.1
theorem QcI{e:Int}{b:Bk}{s:St}{bare:Bool}(h:mayR e b s bare=true):wIn s.s0.life=true:=by
 have:=Xaz h;simp only[Qt,Zl,Bool.and_eq_true] at this;exact this.1.1
theorem ZcJ{e:Int}{b:Bk}{s:St}{bare:Bool}(h:mayR e b s bare=true):wIn s.s1.life=true:=by
 have:=Xaz h;simp only[Qt,Zl,Bool.and_eq_true] at this;exact this.2.2.1.1
theorem Yal{n:Int}:wIn n=true↔-1000000≤n∧n≤1000000:=by simp[wIn]
theorem SB.copy{σ:List ABlk}{rd:List Nat}{s:St}{n:Nat}(key:∀i x,(stB s)[i]?=some x→hget σ (n+i)=x)(hin:∀i,i<11→n+i∈rd):SB σ rd (stO s n) s:=
 SB.mk (RI.own (key 0 _ rfl) (hin 0 (by decide)) rfl) (RI.own (key 1 _ rfl) (hin 1 (by decide)) rfl) (RI.own (key 2 _ rfl) (hin 2 (by decide)) rfl) (RI.own (key 3 _ rfl) (hin 3 (by decide)) rfl) (RT.own (key 4 _ rfl) (hin 4 (by decide)) rfl) (RI.own (key 5 _ rfl) (hin 5 (by decide)) rfl)
  (RI.own (key 6 _ rfl) (hin 6 (by decide)) rfl) (RI.own (key 7 _ rfl) (hin 7 (by decide)) rfl) (RI.own (key 8 _ rfl) (hin 8 (by decide)) rfl) (RT.own (key 9 _ rfl) (hin 9 (by decide)) rfl) (RI.own (key 10 _ rfl) (hin 10 (by decide)) rfl)
theorem c56n(b:Bk)(hf:bkFit b=true)(hsm:Qj b.cards)(s:St)(hs:StLe 1000000000 s){σ:List ABlk}{bb sb n0 n:Nat}(hn0:σ.length=n0)(hn:n0+11=n)(h1:hget σ bb=.box (bkC b))(h2:hget σ sb=.box (stC s)){K:AVal→List ABlk→Prop}
 (hF:mayR (bkR b).1 b s true=false→K .nilp σ)(hT:mayR (bkR b).1 b s true=true→K (.bptr n 0) (σ++stB s++[.box (.bptr bb 0::stO s n0)])):VV.call (.call 86) [.bptr bb 0,.bptr sb 0] σ K:=by
 subst hn0; subst hn;refine Xg hP rfl g86.ok rfl (c56 b hf hsm s hs h1 h2 hF (λh=>?_));have:(σ++stB s).length=σ.length+11:=by simp[stB,sdB]
 rw[this]; exact hT h
def St.side(s:St)(k:Int):Sd:=if k=0 then s.s0 else s.s1
def St.put(s:St)(k:Int)(d:Sd):St:=if k=0 then { s with s0:=d } else { s with s1:=d }
@[reducible] def resX(s:St)(e:Ev)(x:AVal):AVal:=.tup [stV s,evV e,x]
@[reducible] def resV(r:St×Ev×Int):AVal:=resX r.1 r.2.1 (iv r.2.2)
theorem resXB{σ:List ABlk}{rd:List Nat}{cs ec:List AVal}{s:St}{e:Ev}{x:AVal}(h1:SB σ rd cs s)(h2:Bor (hp σ) rd (.agg ec) (evV e))(hx:x.ro=true):Bor (hp σ) rd (.tup [.agg cs,.agg ec,x]) (resX s e x):=
 Bor.tup (.cons (SB.agg h1) <| .cons h2 <| .cons (Bor.ro hx) .nil)
theorem resB{σ:List ABlk}{rd:List Nat}{cs ec:List AVal}{r:St×Ev×Int}(h1:SB σ rd cs r.1)(h2:Bor (hp σ) rd (.agg ec) (evV r.2.1)):Bor (hp σ) rd (.tup [.agg cs,.agg ec,iv r.2.2]) (resV r):=resXB h1 h2 rfl
@[reducible] def zStC:List AVal:=stQ zSt .nils .nils .nils .nils .nils .nils .nils .nils .nils .nils .nils
@[reducible] def zEvC:List AVal:=[iv8 0,iv 0,iv 0,iv 0,iv 0,iv 0,.nils]
theorem resZ{σ:List ABlk}{rd:List Nat}(e:Int):Bor (hp σ) rd (.tup [.agg zStC,.agg zEvC,iv e]) (resV (zSt,zEv,e)):=
 resB (r:=(zSt,zEv,e)) SB.zero (evB (e:=zEv) RI.nils)
theorem resZX{σ:List ABlk}{rd:List Nat}{x:AVal}(hx:x.ro=true):Bor (hp σ) rd (.tup [.agg zStC,.agg zEvC,x]) (resX zSt zEv x):=
 resXB SB.zero (evB (e:=zEv) RI.nils) hx
end Go.Ah.Tz
end
section
namespace Go.Ah
theorem Qdr{σ:List ABlk}{n c k:Nat}{ex2:Bool}{rs2:List (List AVal)}(hc:hget σ c=.rows n rs2)(hl2:rs2.length=k):Yr n σ (.sl c 0 k ex2)=some (rs2,[c]):=by
 simp only[Yr,hc];simp[cut,hl2];rw[show Nat.ble k k=true from Nat.ble_eq_true_of_le (Nat.le_refl _)];simp[←hl2]
theorem Qcy(n by_:Nat){σ:List ABlk}{b c len k:Nat}{ex ex2:Bool}{rs rs2:List (List AVal)}(hb:hget σ b=.rows n rs)(hc:hget σ c=.rows n rs2)(hl:rs.length=len)(hl2:rs2.length=k)(hr:Xx rs2=true)(hroom:(2*(len+k)+192)*by_≤2 ^ 48) :
  Zn n by_ [.sl b 0 len ex,.sl c 0 k ex2] σ=.ok (.sl σ.length 0 (len+k) false) [c] ([(b,.dead)]++[(σ.length,.rows n (rs++rs2))]):=by
 have h2:Nat.ble ((2*(len+k)+192)*by_) (2 ^ 48)=true:=Nat.ble_eq_true_of_le hroom;have:Zn n by_ [.sl b 0 len ex,.sl c 0 k ex2] σ=QN n by_ σ rs [(b,.dead)] (.sl c 0 k ex2):=by
  simp[Zn,Zal,hb,hl]
 rw[this];unfold QN;simp only[Qdr hc hl2,hr,hl2,h2,Bool.and_self,cond_true,hl]
end Go.Ah
namespace Go.Ah.Tz
open Go.Proofs.Tryz (prog)
set_option maxRecDepth 100000
theorem in40{n:Nat}(h:Nat.blt n 40=true):n∈List.range 40:=List.mem_range.2 (YNL h)
theorem SB.lit{σ:List ABlk}{rd:List Nat}{cs:List AVal}{s:St}{a d0 h0 g0 u0 t0 d1 h1 g1 u1 t1:AVal}(e:cs=stQ s a d0 h0 g0 u0 t0 d1 h1 g1 u1 t1)
 (x0:RI σ rd a s.attack:=by exact RI.own rfl (in40 rfl) rfl)
 (x1:RI σ rd d0 s.s0.deck:=by exact RI.own rfl (in40 rfl) rfl)
 (x2:RI σ rd h0 s.s0.hand:=by exact RI.own rfl (in40 rfl) rfl)
 (x3:RI σ rd g0 s.s0.grave:=by exact RI.own rfl (in40 rfl) rfl)
 (x4:RT σ rd u0 s.s0.units:=by exact RT.own rfl (in40 rfl) rfl)
 (x5:RI σ rd t0 s.s0.told:=by exact RI.own rfl (in40 rfl) rfl)
 (x6:RI σ rd d1 s.s1.deck:=by exact RI.own rfl (in40 rfl) rfl)
 (x7:RI σ rd h1 s.s1.hand:=by exact RI.own rfl (in40 rfl) rfl)
 (x8:RI σ rd g1 s.s1.grave:=by exact RI.own rfl (in40 rfl) rfl)
 (x9:RT σ rd u1 s.s1.units:=by exact RT.own rfl (in40 rfl) rfl)
 (x10:RI σ rd t1 s.s1.told:=by exact RI.own rfl (in40 rfl) rfl):SB σ rd cs s:=by
 subst e; exact SB.mk x0 x1 x2 x3 x4 x5 x6 x7 x8 x9 x10
theorem Qbt{σ:List ABlk}{b c len:Nat}{ex ex2:Bool}{l:List Int}{x:Int}{K:AVal→List Nat×List Nat→List ABlk→Prop}(hb:hget σ b=.rows 1 (l.map cel))(hc:hget σ c=.rows 1 [[iv x]])(hl:len=l.length)(hroom:l.length≤1000000000)(hK:K (.sl σ.length 0 (l++[x]).length false) ([c],[b,σ.length]) (σ.set b .dead++[.rows 1 ((l++[x]).map cel)])) :
  VV.dr (Zn 1 8 [.sl b 0 len ex,.sl c 0 1 ex2] σ) σ K:=by
 refine Zg (Qcy 1 8 (rs2:=[[iv x]]) hb hc (by simp[hl]) rfl rfl (by omega)) (Qbu _ _ (Xh hb (by simp))) ?_;rw[hl];simpa[cel] using hK
attribute [local irreducible] Ans.rd Ans.pu Ans.wr Ans.dr Ans.gr Ans.gw Ans.gl Ans.gd Ans.opt joinK W
set_option maxHeartbeats 8000000
theorem au{A B:Prop}(k:B)(h:B→A:=by intro k; (repeat (first|refine Za (Zaf ..) ?_|refine Za (YF ..) ?_|refine Za rfl ?_|refine Yc rfl rfl ?_|refine Qi rfl ?_|refine Zd rfl ?_|refine Zg rfl rfl ?_|refine Qc ?_|refine Yd ?_|refine Ya ?_|refine Qa rfl ?_|refine Xa ?_|refine Yb rfl ?_|refine Xr rfl ?_|refine ZV ?_)); exact k):A:=h k
end Go.Ah.Tz
end
section
namespace Go.Ah.Tz
open Go.Proofs.Tryz (prog)
set_option maxRecDepth 100000
abbrev mv4(s:St):List AVal:=[.bptr 0 0,iv s.turn,iv s.mover,iv8 s.phase,.bool s.struck,iv8 s.result,.sl 4 0 s.attack.length false,iv s.next,iv s.s0.life,iv s.s0.mana,iv s.s0.most,.sl 5 0 s.s0.deck.length false,.sl 6 0 s.s0.hand.length false,.sl 7 0 s.s0.grave.length false,.sl 8 0 s.s0.units.length false,.sl 9 0 s.s0.told.length false,iv s.s1.life,iv s.s1.mana,iv s.s1.most,.sl 10 0 s.s1.deck.length false,.sl 11 0 s.s1.hand.length false,.sl 12 0 s.s1.grave.length false,.sl 13 0 s.s1.units.length false,.sl 14 0 s.s1.told.length false]
abbrev st4(s:St):List AVal:=[iv s.turn,iv s.mover,iv8 s.phase,.bool s.struck,iv8 s.result,.sl 4 0 s.attack.length false,iv s.next,iv s.s0.life,iv s.s0.mana,iv s.s0.most,.sl 5 0 s.s0.deck.length false,.sl 6 0 s.s0.hand.length false,.sl 7 0 s.s0.grave.length false,.sl 8 0 s.s0.units.length false,.sl 9 0 s.s0.told.length false,iv s.s1.life,iv s.s1.mana,iv s.s1.most,.sl 10 0 s.s1.deck.length false,.sl 11 0 s.s1.hand.length false,.sl 12 0 s.s1.grave.length false,.sl 13 0 s.s1.units.length false,.sl 14 0 s.s1.told.length false]
abbrev sg4(b:Bk)(s:St):List ABlk:=[.box (bkC b),.box (stC s),.box zStC,.box zEvC,.rows 1 (s.attack.map cel),.rows 1 (s.s0.deck.map cel),.rows 1 (s.s0.hand.map cel),.rows 1 (s.s0.grave.map cel),.rows 4 (s.s0.units.map thC),.rows 1 (s.s0.told.map cel),.rows 1 (s.s1.deck.map cel),.rows 1 (s.s1.hand.map cel),.rows 1 (s.s1.grave.map cel),.rows 4 (s.s1.units.map thC),.rows 1 (s.s1.told.map cel)]
def drawF(s:St)(k:Int):St×Ev×Int:=
 match (s.side k).deck with
 |[]=>if wIn ((s.side k).life-1) then (s.put k { s.side k with life:=(s.side k).life-1 },⟨3,k,-1,0,0,0,[]⟩,0) else (zSt,zEv,171)
 |c::l=>if 10≤(s.side k).hand.length then
   ({ s with s0:={ s.s0 with told:=s.s0.told++[c] },s1:={ s.s1 with told:=s.s1.told++[c] } } |> λs'=>s'.put k { s'.side k with deck:=l,grave:=(s.side k).grave++[c] },⟨4,k,c,0,0,0,[]⟩,0)
  else (s.put k { s.side k with deck:=l,hand:=(s.side k).hand++[c],told:=(s.side k).told++[c] },⟨3,k,c,0,0,0,[]⟩,0)
attribute [local irreducible] Ans.rd Ans.pu Ans.wr Ans.dr Ans.gr Ans.gw Ans.gl Ans.gd Ans.opt joinK W
set_option maxHeartbeats 8000000
theorem c18(b:Bk)(hf:bkFit b=true)(hsm:Qj b.cards)(s:St)(hs:StLe 2000000 s)(hm:mayR (bkR b).1 b s true=true)(k:Int)(h01:k=0∨k=1):PC 56 [bkV b,stV s,iv k] (resV (drawF s k)):=by
 have hl0:=Yal.1 (QcI hm);have hl1:=Yal.1 (ZcJ hm);have hs9:StLe 1000000000 s:=hs.mono (by decide);have hm':=hm;refine Xv hP g56.ok rfl ?_;rcases h01 with rfl|rfl
 rotate_left;obtain⟨tu,mo,ph,st,re,at_,ne,⟨l',m',o',d',h',g',u',t'⟩,⟨l,m,o,d,h,g,u,t⟩⟩:=s;obtain⟨ha,⟨p1,p2,p3,p4,p5⟩,⟨q1,q2,q3,q4,q5⟩⟩:=hs;have hl:=hl1
 let mk:Sd→List Int→St:=λx y=>⟨tu,mo,ph,st,re,at_,ne,⟨l',m',o',d',h',g',u',y⟩,x⟩
 have hmk:∀l m o (d h g:List Int) u (t y:List Int),d.length≤1000000000→h.length≤1000000000→g.length≤1000000000→u.length≤1000000000→t.length≤1000000000→y.length≤1000000000→StLe 1000000000 (mk ⟨l,m,o,d,h,g,u,t⟩ y):=λ_ _ _ _ _ _ _ _ _ a b c d e f=>⟨hs9.1,⟨hs9.2.1,hs9.2.2,hs9.2.3,hs9.2.4,f⟩,⟨a,b,c,d,e⟩⟩;rotate_left;obtain⟨tu,mo,ph,st,re,at_,ne,⟨l,m,o,d,h,g,u,t⟩,⟨l',m',o',d',h',g',u',t'⟩⟩:=s;obtain⟨ha,⟨q1,q2,q3,q4,q5⟩,⟨p1,p2,p3,p4,p5⟩⟩:=hs;have hl:=hl0
 let mk:Sd→List Int→St:=λx y=>⟨tu,mo,ph,st,re,at_,ne,x,⟨l',m',o',d',h',g',u',y⟩⟩
 have hmk:∀l m o (d h g:List Int) u (t y:List Int),d.length≤1000000000→h.length≤1000000000→g.length≤1000000000→u.length≤1000000000→t.length≤1000000000→y.length≤1000000000→StLe 1000000000 (mk ⟨l,m,o,d,h,g,u,t⟩ y):=λ_ _ _ _ _ _ _ _ _ a b c d e f=>⟨hs9.1,⟨a,b,c,d,e⟩,⟨hs9.3.1,hs9.3.2,hs9.3.3,hs9.3.4,f⟩⟩
 all_goals
  simp only at ha q1 q2 q3 q4 q5 p1 p2 p3 p4 p5 hl;rw[H3.e]; unfold g56; dsimp only[stV,stC];refine au ?_;refine c56n b hf hsm _ hs9 (n0:=4) (n:=15) (bb:=0) (sb:=1) rfl rfl rfl rfl (λh=>by rw[hm] at h; cases h) (λ_=>?_);dsimp only[stO,stB,sdO,sdB];cases d with
  |nil=>
   refine au ?_;refine Xb (c57 _) rfl g73.ok.plain rfl ?_;refine au ?_;have e:IntKind.i64.wrap (l-1)=l-1:=wrapI (by omega) (by omega);refine Zb (λhw=>?_) (λhw=>?_)
   ·have hw:wIn (l-1)=false:=by rw[←e]; simpa using hw
    refine au ?_;refine⟨[],?_⟩;show Bor _ _ _ (resV (if wIn (l-1) then _ else (zSt,zEv,171)));rw[hw];exact resZ 171
   ·have hw:wIn (l-1)=true:=by rw[←e]; simpa using hw
    rw[e];refine au ?_;refine d59 (s:=mk ⟨l-1,m,o,[],h,g,u,t⟩ t') (rd:=List.range 40) (hmk _ _ _ _ _ _ _ _ _ (by simp) (by omega) (by omega) (by omega) (by omega) (by omega)) (SB.lit rfl) ?_;dsimp only[stO,stB,sdO,sdB,mk];refine au ?_;show ∃rd,Bor _ rd _ (resV (if wIn (l-1) then (_,(⟨3,_,-1,0,0,0,[]⟩:Ev),0) else (zSt,zEv,171)));rw[if_pos hw];exact⟨List.range 40,resB (r:=(_,⟨3,_,-1,0,0,0,[]⟩,0)) (SB.lit rfl) (evB (e:=⟨3,_,-1,0,0,0,[]⟩) RI.nils)⟩
  |cons c d2=>
   simp only[List.length_cons] at q1;refine au ?_;refine Zb (λhw=>?_) (λhw=>?_)
   ·have hw:10≤h.length:=by simp at hw; omega
    refine au ?_;refine Xg hP rfl g87.ok rfl (c58 (x:=c) (l:=d2) (t:=g) rfl rfl rfl rfl rfl (by omega) rfl rfl (by decide) (by decide) rfl rfl rfl ?_);rw[show g.length+1=(g++[c]).length by simp];refine au ?_;refine XM 3 (Yl ?_);refine au ?_;refine Qbt rfl rfl rfl (by omega) ?_;refine au ?_;refine Qbt rfl rfl rfl (by omega) ?_;refine au ?_;refine d59 (s:=mk ⟨l,m,o,d2,h,g++[c],u,t++[c]⟩ (t'++[c])) (rd:=List.range 40) (hmk _ _ _ _ _ _ _ _ _ (by omega) (by omega) (by simp; omega) (by omega) (by simp; omega) (by simp; omega)) (by first|exact SB.lit rfl (x1:=RI.tailV rfl (in40 rfl))|exact SB.lit rfl (x6:=RI.tailV rfl (in40 rfl))) ?_;dsimp only[stO,stB,sdO,sdB,mk];refine au ?_;show ∃rd,Bor _ rd _ (resV (if 10≤h.length then (_,(⟨4,_,c,0,0,0,[]⟩:Ev),0) else _));rw[if_pos hw];exact⟨List.range 40,resB (r:=(_,⟨4,_,c,0,0,0,[]⟩,0)) (SB.lit rfl) (evB (e:=⟨4,_,c,0,0,0,[]⟩) RI.nils)⟩
   ·have hw:¬10≤h.length:=by simp at hw; omega
    refine au ?_;refine Xg hP rfl g87.ok rfl (c58 (x:=c) (l:=d2) (t:=h) rfl rfl rfl rfl rfl (by omega) rfl rfl (by decide) (by decide) rfl rfl rfl ?_);rw[show h.length+1=(h++[c]).length by simp];refine au ?_;refine Qbt rfl rfl rfl (by omega) ?_;refine au ?_;refine d59 (s:=mk ⟨l,m,o,d2,h++[c],g,u,t++[c]⟩ t') (rd:=List.range 40) (hmk _ _ _ _ _ _ _ _ _ (by omega) (by simp; omega) (by omega) (by omega) (by simp; omega) (by omega)) (by first|exact SB.lit rfl (x1:=RI.tailV rfl (in40 rfl))|exact SB.lit rfl (x6:=RI.tailV rfl (in40 rfl))) ?_;dsimp only[stO,stB,sdO,sdB,mk];refine au ?_;show ∃rd,Bor _ rd _ (resV (if 10≤h.length then _ else (_,(⟨3,_,c,0,0,0,[]⟩:Ev),0)));rw[if_neg hw];exact⟨List.range 40,resB (r:=(_,⟨3,_,c,0,0,0,[]⟩,0)) (SB.lit rfl) (evB (e:=⟨3,_,c,0,0,0,[]⟩) RI.nils)⟩
theorem c18_0(b:Bk)(hf:bkFit b=true)(hsm:Qj b.cards)(s:St)(hs:StLe 2000000 s)(hm:mayR (bkR b).1 b s true=true):PC 56 [bkV b,stV s,iv 0] (resV (drawF s 0)):=c18 b hf hsm s hs hm 0 (.inl rfl)
theorem c18_1(b:Bk)(hf:bkFit b=true)(hsm:Qj b.cards)(s:St)(hs:StLe 2000000 s)(hm:mayR (bkR b).1 b s true=true):PC 56 [bkV b,stV s,iv 1] (resV (drawF s 1)):=c18 b hf hsm s hs hm 1 (.inr rfl)
end Go.Ah.Tz
end
section
namespace Go.Ah.Tz
open Go.Proofs.Tryz (prog)
def Yab(b:Bk)(s:St)(k c:Int):Bool:=((((decide (c<0)||decide ((b.cards.length:Int)≤c)) || !((b.cards[c.toNat]?).getD default).unit)||decide (7≤((s.side k).units.length:Int)))||decide (1000000≤s.next))
def QC(s:St)(k c:Int):St:={ s.put k { s.side k with units:=(s.side k).units++[⟨s.next,c,0,true⟩] } with next:=s.next+1 }
def Yay(b:Bk)(s:St)(k c:Int):AVal:=
 if Yab b s k c then resX zSt zEv (.bool false) else resX (QC s k c) ⟨2,k,c,s.next,0,0,[]⟩ (.bool true)
attribute [local irreducible] Ans.rd Ans.pu Ans.wr Ans.dr Ans.gr Ans.gw Ans.gl Ans.gd Ans.opt joinK W
set_option maxHeartbeats 4000000
theorem c21_0(b:Bk)(hf:bkFit b=true)(hsm:Qj b.cards)(s:St)(hs:StLe 2000000 s)(hm:mayR (bkR b).1 b s true=true)(c:Int):PC 61 [bkV b,stV s,iv 0,iv c] (Yay b s 0 c):=by
 have hfac:=Xt hm;have hw:IntKind.i64.wrap (s.next+1)=s.next+1:=IntWalk.i64_in _ (by omega);refine Xv hP g61.ok rfl ?_;rw[H4.e]; unfold g61; dsimp only;refine Yc (v:=.bptr 0 0) (rd:=[]) (up:=[(0,.box (bkC b))]) rfl rfl ?_;refine Yc (v:=.bptr 1 0) (rd:=[]) (up:=[(1,.box (stC s))]) rfl rfl ?_;refine Yc (v:=.bptr 2 0) (rd:=[]) (up:=[(2,.box zStC)]) rfl rfl ?_;refine Yc (v:=.bptr 3 0) (rd:=[]) (up:=[(3,.box zEvC)]) rfl rfl ?_;refine c56n b hf hsm s (hs.mono (by decide)) (n0:=4) (n:=15) rfl rfl rfl rfl (λh=>by rw[hm] at h; cases h) (λ_=>?_);refine Za rfl ?_;refine X0 (c:=false) (d:=false) (λ_=>rfl) (λ_=>rfl) ?_;refine X0 (c:=false) (d:=false) (λ_=>rfl) (λ_=>rfl) ?_;refine X0 (c:=false) (λ_=>rfl) (λ_=>XP ..) ?_;refine ZbK (c:=decide (c<0)) (λ_=>rfl) (λ_=>rfl) (λ_=>rfl) (v4:=iv b.cards.length) (q4:=[]) (λ_=>by simp[Yf]) (λ_=>Yah ..) ?_;refine Ybk (d:=!((b.cards[c.toNat]?).getD default).unit) (λ_=>rfl) (λ_=>rfl) (λ_=>rfl) (v4:=.rptr (cdC ((b.cards[c.toNat]?).getD default)) 0) (q4:=[]) (λhc=>?_) (λ_=>rfl) (λ_=>ldr (cdLd1 _)) (λ_=>rfl) ?_
 ·simp_all [Qa7]
 refine Ybk (λ_=>rfl) (λ_=>rfl) (λ_=>rfl) (λ_=>rfl) (λ_=>rfl) (v6:=iv s.s0.units.length) (q6:=[]) (λ_=>by simp[Yf]) (λ_=>Yah ..) ?_;refine QaK (λ_=>rfl) (λ_=>rfl) (λ_=>Yah ..) ?_;refine Zb (λh=>?_) (λh=>?_)
 ·refine Za rfl (Za rfl (Yc rfl rfl (Yc rfl rfl (Qi rfl (Qi rfl ?_)))));have hr:Yay b s 0 c=resX zSt zEv (.bool false):=if_pos h;rw[hr];exact⟨[],resZX rfl⟩
 have hr:Yay b s 0 c=resX (QC s 0 c) ⟨2,0,c,s.next,0,0,[]⟩ (.bool true):=if_neg (by rw[Bool.not_eq_true]; exact h);have hu:¬7≤(s.s0.units.length:Int):=by
  simp_all
 refine Za rfl (Za rfl (Za rfl (Za rfl ?_)));refine Zd rfl (Zd rfl (Zg (ld (row:=(mv4 s)) rfl rfl) (Qh _) ?_));refine Zd rfl (Zg (ld (row:=stC s) rfl rfl) (Qh _) (Zd rfl ?_));refine Zg (v:=.sl 16 0 1 true) (rd:=[]) (up:=[(16,.rows 4 [thC (⟨s.next,c,0,true⟩:Th)])]) rfl rfl ?_;refine Zg (v:=.sl 17 0 (s.s0.units.length+1) false) (rd:=[16]) (up:=[(8,.dead),(17,.rows 4 ((s.s0.units++[(⟨s.next,c,0,true⟩:Th)]).map thC))]) ?_ rfl ?_
 ·have:=XaO 4 32 (σ:=((sg4 b s).append [.box (mv4 s),.rows 4 [thC (⟨s.next,c,0,true⟩:Th)]])) (b:=8) (c:=16) (len:=s.s0.units.length) (ex:=false) (rs:=s.s0.units.map thC) (row:=thC (⟨s.next,c,0,true⟩:Th)) rfl rfl (by simp) rfl (by omega);simp_all
 refine Zd rfl (Zd rfl (Zg (v:=.junk) (rd:=[]) (up:=[(15,.box ((mv4 s).set 14 (.sl 17 0 (s.s0.units.length+1) false)))]) rfl rfl ?_));refine Xr (by kernel_rfl) ?_;refine Za rfl (Za rfl (Za rfl (Za (ld (row:=((mv4 s).set 14 (.sl 17 0 (s.s0.units.length+1) false))) rfl rfl) (Za (Yh ..) ?_))));rw[hw];refine Za rfl (Za rfl (Za rfl (Yc (v:=.junk) (rd:=[]) (up:=[(15,.box (((mv4 s).set 7 (iv (s.next+1))).set 14 (.sl 17 0 (s.s0.units.length+1) false)))]) rfl rfl ?_)));refine Zd rfl (Zd rfl (Zg (ld (row:=(((mv4 s).set 7 (iv (s.next+1))).set 14 (.sl 17 0 (s.s0.units.length+1) false))) rfl rfl) (Qh _) ?_));refine Zd rfl (Zg (ld (row:=stC s) rfl rfl) (Qh _) (Zd rfl ?_));refine Zg (v:=.junk) (rd:=[]) (up:=[(2,.box (((st4 s).set 6 (iv (s.next+1))).set 13 (.sl 17 0 (s.s0.units.length+1) false)))]) rfl rfl ?_;refine Zg (v:=.junk) (rd:=[]) (up:=[(3,.box [iv8 2,iv 0,iv c,iv s.next,iv 0,iv 0,.nils])]) rfl rfl ?_;refine Xr (by kernel_rfl) (Qi rfl (Qi rfl ?_));refine⟨List.range 18,?_⟩;rw[hr];refine resXB (cs:=(((st4 s).set 6 (iv (s.next+1))).set 13 (.sl 17 0 (s.s0.units.length+1) false))) (s:=QC s 0 c) ?_ (evB (e:=⟨2,0,c,s.next,0,0,[]⟩) RI.nils) rfl;refine SB.mk (rd:=List.range 18) (s:=QC s 0 c) ?_ ?_ ?_ ?_ ?_ ?_ ?_ ?_ ?_ ?_ ?_<;>first|exact RI.own rfl (by decide) rfl|exact RT.own rfl (by decide) rfl|exact RT.own (l:=s.s0.units++[(⟨s.next,c,0,true⟩:Th)]) rfl (by decide) (by simp)
theorem c21_1(b:Bk)(hf:bkFit b=true)(hsm:Qj b.cards)(s:St)(hs:StLe 2000000 s)(hm:mayR (bkR b).1 b s true=true)(c:Int):PC 61 [bkV b,stV s,iv 1,iv c] (Yay b s 1 c):=by
 have hfac:=Xt hm;have hw:IntKind.i64.wrap (s.next+1)=s.next+1:=IntWalk.i64_in _ (by omega);refine Xv hP g61.ok rfl ?_;rw[H4.e]; unfold g61; dsimp only;refine Yc (v:=.bptr 0 0) (rd:=[]) (up:=[(0,.box (bkC b))]) rfl rfl ?_;refine Yc (v:=.bptr 1 0) (rd:=[]) (up:=[(1,.box (stC s))]) rfl rfl ?_;refine Yc (v:=.bptr 2 0) (rd:=[]) (up:=[(2,.box zStC)]) rfl rfl ?_;refine Yc (v:=.bptr 3 0) (rd:=[]) (up:=[(3,.box zEvC)]) rfl rfl ?_;refine c56n b hf hsm s (hs.mono (by decide)) (n0:=4) (n:=15) rfl rfl rfl rfl (λh=>by rw[hm] at h; cases h) (λ_=>?_);refine Za rfl ?_;refine X0 (c:=false) (d:=false) (λ_=>rfl) (λ_=>rfl) ?_;refine X0 (c:=false) (d:=false) (λ_=>rfl) (λ_=>rfl) ?_;refine X0 (c:=false) (λ_=>rfl) (λ_=>XP ..) ?_;refine ZbK (c:=decide (c<0)) (λ_=>rfl) (λ_=>rfl) (λ_=>rfl) (v4:=iv b.cards.length) (q4:=[]) (λ_=>by simp[Yf]) (λ_=>Yah ..) ?_;refine Ybk (d:=!((b.cards[c.toNat]?).getD default).unit) (λ_=>rfl) (λ_=>rfl) (λ_=>rfl) (v4:=.rptr (cdC ((b.cards[c.toNat]?).getD default)) 0) (q4:=[]) (λhc=>?_) (λ_=>rfl) (λ_=>ldr (cdLd1 _)) (λ_=>rfl) ?_
 ·simp_all [Qa7]
 refine Ybk (λ_=>rfl) (λ_=>rfl) (λ_=>rfl) (λ_=>rfl) (λ_=>rfl) (v6:=iv s.s1.units.length) (q6:=[]) (λ_=>by simp[Yf]) (λ_=>Yah ..) ?_;refine QaK (λ_=>rfl) (λ_=>rfl) (λ_=>Yah ..) ?_;refine Zb (λh=>?_) (λh=>?_)
 ·refine Za rfl (Za rfl (Yc rfl rfl (Yc rfl rfl (Qi rfl (Qi rfl ?_)))));have hr:Yay b s 1 c=resX zSt zEv (.bool false):=if_pos h;rw[hr];exact⟨[],resZX rfl⟩
 have hr:Yay b s 1 c=resX (QC s 1 c) ⟨2,1,c,s.next,0,0,[]⟩ (.bool true):=if_neg (by rw[Bool.not_eq_true]; exact h);have hu:¬7≤(s.s1.units.length:Int):=by
  simp_all
 refine Za rfl (Za rfl (Za rfl (Za rfl ?_)));refine Zd rfl (Zd rfl (Zg (ld (row:=(mv4 s)) rfl rfl) (Qh _) ?_));refine Zd rfl (Zg (ld (row:=stC s) rfl rfl) (Qh _) (Zd rfl ?_));refine Zg (v:=.sl 16 0 1 true) (rd:=[]) (up:=[(16,.rows 4 [thC (⟨s.next,c,0,true⟩:Th)])]) rfl rfl ?_;refine Zg (v:=.sl 17 0 (s.s1.units.length+1) false) (rd:=[16]) (up:=[(13,.dead),(17,.rows 4 ((s.s1.units++[(⟨s.next,c,0,true⟩:Th)]).map thC))]) ?_ rfl ?_
 ·have:=XaO 4 32 (σ:=((sg4 b s).append [.box (mv4 s),.rows 4 [thC (⟨s.next,c,0,true⟩:Th)]])) (b:=13) (c:=16) (len:=s.s1.units.length) (ex:=false) (rs:=s.s1.units.map thC) (row:=thC (⟨s.next,c,0,true⟩:Th)) rfl rfl (by simp) rfl (by omega);simp_all
 refine Zd rfl (Zd rfl (Zg (v:=.junk) (rd:=[]) (up:=[(15,.box ((mv4 s).set 22 (.sl 17 0 (s.s1.units.length+1) false)))]) rfl rfl ?_));refine Xr (by kernel_rfl) ?_;refine Za rfl (Za rfl (Za rfl (Za (ld (row:=((mv4 s).set 22 (.sl 17 0 (s.s1.units.length+1) false))) rfl rfl) (Za (Yh ..) ?_))));rw[hw];refine Za rfl (Za rfl (Za rfl (Yc (v:=.junk) (rd:=[]) (up:=[(15,.box (((mv4 s).set 7 (iv (s.next+1))).set 22 (.sl 17 0 (s.s1.units.length+1) false)))]) rfl rfl ?_)));refine Zd rfl (Zd rfl (Zg (ld (row:=(((mv4 s).set 7 (iv (s.next+1))).set 22 (.sl 17 0 (s.s1.units.length+1) false))) rfl rfl) (Qh _) ?_));refine Zd rfl (Zg (ld (row:=stC s) rfl rfl) (Qh _) (Zd rfl ?_));refine Zg (v:=.junk) (rd:=[]) (up:=[(2,.box (((st4 s).set 6 (iv (s.next+1))).set 21 (.sl 17 0 (s.s1.units.length+1) false)))]) rfl rfl ?_;refine Zg (v:=.junk) (rd:=[]) (up:=[(3,.box [iv8 2,iv 1,iv c,iv s.next,iv 0,iv 0,.nils])]) rfl rfl ?_;refine Xr (by kernel_rfl) (Qi rfl (Qi rfl ?_));refine⟨List.range 18,?_⟩;rw[hr];refine resXB (cs:=(((st4 s).set 6 (iv (s.next+1))).set 21 (.sl 17 0 (s.s1.units.length+1) false))) (s:=QC s 1 c) ?_ (evB (e:=⟨2,1,c,s.next,0,0,[]⟩) RI.nils) rfl;refine SB.mk (rd:=List.range 18) (s:=QC s 1 c) ?_ ?_ ?_ ?_ ?_ ?_ ?_ ?_ ?_ ?_ ?_<;>first|exact RI.own rfl (by decide) rfl|exact RT.own rfl (by decide) rfl|exact RT.own (l:=s.s1.units++[(⟨s.next,c,0,true⟩:Th)]) rfl (by decide) (by simp)
end Go.Ah.Tz
end
section
namespace Go.Ah.Tz
open Go.Proofs.Tryz (prog)
attribute [local irreducible] Ans.rd Ans.pu Ans.wr Ans.dr Ans.gr Ans.gw Ans.gl Ans.gd Ans.opt joinK W
set_option maxHeartbeats 4000000
theorem c118(l:List Th)(hl:l.length≤1000000000)(id:FuncId)(fs cs:List AVal)(hp:Yi prog id=true)(f:Th→Bool)(hc:∀x∈l,PC id (fs++[.agg (thC x)]++cs) (.bool (f x)))(hr:∀x,roL (fs++[.agg (thC x)]++cs)=true) :
  PC 145 [thV l,.func (.func id) fs cs] (iv (idxF f l 0)):=by
 refine Qb hP g145.ok rfl rfl ?_;rw[H2.e]; unfold g145; dsimp only;refine Za (v:=iv l.length) (rd:=[]) (by simp[Yf]) ?_;refine Xj (ι:=Nat) (λi vs s=>vs=[iv i]∧i≤l.length∧idxF f l 0=idxF f (l.drop i) i) (λi=>l.length-i) 0 ⟨rfl,by omega,by simp⟩ ?_;rintro i vs s again ⟨rfl,hi,hr'⟩ hag;refine Za rfl (Zb (λh=>?_) (λh=>?_))
 ·have h:i<l.length:=by simpa using h
  refine Za (Yo _ thC _ _ _ l _ i h) (Za (ldr rfl) ?_);refine Xb (hc _ (List.getElem_mem h)) rfl hp (hr _) ?_;rw[YLD h,idxF] at hr';refine Zb (λh2=>?_) (λh2=>?_)
  ·rw[if_pos h2] at hr'; rw[hr']; rfl
  ·rw[if_neg (by rw[h2]; simp)] at hr';refine Za (Yh ..) ?_;rw[Qd (n:=i) (by omega)];exact hag (i+1) _ _ (by omega) ⟨rfl,by omega,by rw[hr']; push_cast; rfl⟩
 ·have h:i=l.length:=by simp at h; omega
  subst h;rw[List.drop_length,idxF] at hr';rw[hr']
theorem c119(u:Th)(id:Int):PC 146 [.agg (thC u),.rptr [iv id] 0] (.bool (decide (u.id=id))):=by
 refine Qb hP g146.ok rfl rfl ?_;rw[H2.e]; unfold g146; dsimp only;exact Yc rfl rfl (Za rfl (Za (ld rfl rfl) (Za rfl (Za (Xd ..) rfl))))
theorem Yb3(id:Int):∀(l:List Th) (n:Int),idxF (λu:Th=>decide (u.id=id)) l n=match fnd l id with
  |some k=>n+k
  |none=>-1
 |[],n=>rfl
 |u::l,n=>by
  have ih:=Yb3 id l (n+1);simp only[idxF,fnd,List.findIdx?_cons] at ih ⊢;by_cases h:u.id=id
  ·simp[h]
  ·simp only[decide_eq_false h,Bool.false_eq_true,if_false,ih];cases List.findIdx? (λu=>decide (u.id=id)) l with
   |none=>rfl
   |some k=>show n+1+(k:Int)=n+((k+1:Nat):Int); omega
theorem c71(s:St)(hs:StLe 1000000000 s)(id:Int):PC 117 [stV s,iv id] (unitV s id):=by
 have h0:=c118 s.s0.units hs.s0.units 146 [] [.rptr [iv id] 0] g146.ok.plain (λu=>decide (u.id=id)) (λx _=>c119 x id) (λx=>rfl);have h1:=c118 s.s1.units hs.s1.units 146 [] [.rptr [iv id] 0] g146.ok.plain (λu=>decide (u.id=id)) (λx _=>c119 x id) (λx=>rfl);have w1:IntKind.i64.wrap (0+1)=1:=by decide
 have w2:IntKind.i64.wrap (1+1)=2:=by decide
 rw[Yb3] at h0 h1;refine Qb hP g117.ok rfl rfl ?_;rw[H2.e]; unfold g117; dsimp only;refine Yc rfl rfl (Yc rfl rfl ?_);refine XM 3 (Yl ?_);refine Za rfl (Qc (Za rfl (Za rfl (Za rfl (Za rfl (Za rfl ?_))))));refine YC h0 rfl g145.ok.plain rfl rfl ?_;simp only[unitV,unitR];cases q0:fnd s.s0.units id with
 |some k=>
  simp only[q0];refine Za (Yah ..) ?_;rw[decide_eq_true (by omega)];exact Qc (by simp)
 |none=>
  simp only[q0];refine Za rfl (Yd (Za rfl ?_));rw[w1];refine Yl ?_;refine Za rfl (Qc (Za rfl (Za rfl (Za rfl (Za rfl (Za rfl ?_))))));refine YC h1 rfl g145.ok.plain rfl rfl ?_;cases q1:fnd s.s1.units id with
  |some k=>
   simp only[q1];refine Za (Yah ..) ?_;rw[decide_eq_true (by omega)];exact Qc (by simp)
  |none=>
   simp only[q1];refine Za rfl (Yd (Za rfl ?_));rw[w2];refine Yl ?_;exact Za rfl (Yd (by simp))
def ZaS(b:Bk)(c:Int):Int:=((b.cards[c.toNat]?).getD default).shield
def hurt(b:Bk)(u:Th)(n:Int):Int:=max (IntKind.i64.wrap (n-ZaS b u.card)) 0
theorem cdLd5(x:Cd):partA false 5 1 (cdC x)=some (iv x.shield):=rfl
theorem c66n(m:List AVal)(life n:Int):PC 82 [.rptr m 0,.nilp,iv life,iv n] (.tup [iv (IntKind.i64.wrap (life-n)),iv n]):=by
 refine Qb hP g82.ok rfl rfl ?_;rw[H4.e]; unfold g82; dsimp only;exact Za rfl (Yd (Za (Za8 ..) rfl))
theorem c66u(b:Bk)(m:List AVal)(u:Th)(life n:Int)(h0:0≤u.card)(h1:u.card.toNat<b.cards.length):PC 82 [.rptr (.rptr (bkC b) 0::m) 0,.rptr (thC u) 0,iv life,iv n] (.tup [iv (IntKind.i64.wrap (u.harm+hurt b u n)),iv (hurt b u n)]):=by
 refine Qb hP g82.ok rfl rfl ?_;rw[H4.e]; unfold g82; dsimp only;refine Za rfl (Qc (Za rfl (Za rfl (Za (ldr rfl) (Za rfl (Za rfl (Za (ldr rfl) (Za rfl (Za rfl (Za (ldr rfl) ?_))))))))));have hx:=Qa7 [] cdC false false 12 b.cards .i64 u.card h0 h1;refine Za hx (Za rfl (Za (ldr (cdLd5 _)) (Za (Za8 ..) (Za (Zaf ..) ?_))));refine Za rfl (Za rfl (Za (ldr rfl) (Za (Yh ..) ?_)));have:ZaS b u.card=(b.cards[u.card.toNat]).shield:=by simp[ZaS,List.getElem?_eq_getElem h1]
 rw[hurt,this]
end Go.Ah.Tz
end
section
namespace Go.Ah.Tz
open Go.Proofs.Tryz (prog)
abbrev mv6(s:St):List AVal:=[.bptr 0 0,iv s.turn,iv s.mover,iv8 s.phase,.bool s.struck,iv8 s.result,.sl 6 0 s.attack.length false,iv s.next,iv s.s0.life,iv s.s0.mana,iv s.s0.most,.sl 7 0 s.s0.deck.length false,.sl 8 0 s.s0.hand.length false,.sl 9 0 s.s0.grave.length false,.sl 10 0 s.s0.units.length false,.sl 11 0 s.s0.told.length false,iv s.s1.life,iv s.s1.mana,iv s.s1.most,.sl 12 0 s.s1.deck.length false,.sl 13 0 s.s1.hand.length false,.sl 14 0 s.s1.grave.length false,.sl 15 0 s.s1.units.length false,.sl 16 0 s.s1.told.length false]
abbrev st6(s:St):List AVal:=[iv s.turn,iv s.mover,iv8 s.phase,.bool s.struck,iv8 s.result,.sl 6 0 s.attack.length false,iv s.next,iv s.s0.life,iv s.s0.mana,iv s.s0.most,.sl 7 0 s.s0.deck.length false,.sl 8 0 s.s0.hand.length false,.sl 9 0 s.s0.grave.length false,.sl 10 0 s.s0.units.length false,.sl 11 0 s.s0.told.length false,iv s.s1.life,iv s.s1.mana,iv s.s1.most,.sl 12 0 s.s1.deck.length false,.sl 13 0 s.s1.hand.length false,.sl 14 0 s.s1.grave.length false,.sl 15 0 s.s1.units.length false,.sl 16 0 s.s1.told.length false]
abbrev sg6(b:Bk)(s:St):List ABlk:=[.box (bkC b),.box (stC s),.box zStC,.box zEvC,.box zStC,.box zEvC,.rows 1 (s.attack.map cel),.rows 1 (s.s0.deck.map cel),.rows 1 (s.s0.hand.map cel),.rows 1 (s.s0.grave.map cel),.rows 4 (s.s0.units.map thC),.rows 1 (s.s0.told.map cel),.rows 1 (s.s1.deck.map cel),.rows 1 (s.s1.hand.map cel),.rows 1 (s.s1.grave.map cel),.rows 4 (s.s1.units.map thC),.rows 1 (s.s1.told.map cel)]
abbrev dd18:List ABlk:=[.dead,.dead,.dead,.dead,.dead,.dead,.dead,.dead,.dead,.dead,.dead,.dead,.dead,.dead,.dead,.dead,.dead,.dead]
def cap4(n:Int):Int:=min (max n 0) 4000000
def chgU(s:St)(kd k:Int)(i:Nat)(id:Int)(u:Th)(v:Int×Int):St×Ev×Int:=
 if wIn v.1 then (s.put k { s.side k with units:=(s.side k).units.set i { u with harm:=v.1 } },⟨kd,k,0,id,0,v.2,[]⟩,0) else (zSt,zEv,171)
def chgP(s:St)(kd k:Int)(v:Int×Int):St×Ev×Int:=
 if wIn v.1 then (s.put k { s.side k with life:=v.1 },⟨kd,k,0,0,0,v.2,[]⟩,0) else (zSt,zEv,171)
def chgF(kd:Int)(fP:Int→Int×Int)(fU:Th→Int×Int)(s:St)(id k:Int):St×Ev×Int:=
 if id=0 then chgP s kd k (fP (s.side k).life) else if id<0 then (zSt,zEv,4) else match fnd s.s0.units id with
  |some i=>chgU s kd 0 i id ((s.s0.units[i]?).getD default) (fU ((s.s0.units[i]?).getD default))
  |none=>match fnd s.s1.units id with
   |some i=>chgU s kd 1 i id ((s.s1.units[i]?).getD default) (fU ((s.s1.units[i]?).getD default))
   |none=>(zSt,zEv,4)
def harmF(b:Bk)(s:St)(id k n:Int):St×Ev×Int:=
 chgF 5 (λl=>(IntKind.i64.wrap (l-cap4 n),cap4 n)) (λu=>(IntKind.i64.wrap (u.harm+hurt b u (cap4 n)),hurt b u (cap4 n))) s id k
def mendF(s:St)(id k n:Int):St×Ev×Int:=
 chgF 6 (λl=>(IntKind.i64.wrap (l+cap4 n),cap4 n)) (λu=>(IntKind.i64.wrap (u.harm-min (cap4 n) u.harm),min (cap4 n) u.harm)) s id k
def gT(kd:Int)(F:FuncId):GFun:=λA xs σ ret=>match xs with
|[x0,x1,x2,x3,x4]=>
 A.wr (Qaf [x0] σ) σ λt5_0 σ=>
 A.wr (Qaf [x1] σ) σ λt6_1 σ=>
 A.wr (Zy zStC [] σ) σ λt10_2 σ=>
 A.wr (Zy zEvC [] σ) σ λt11_3 σ=>
 A.call (.call 80) [t5_0,t6_1,(.int .i8 kd),x2,x3,x4,(.func (.func F) [] [])] σ λt16_4 σ=>
 A.rd (Xo 0 [t16_4] σ) λt17_5=>
 A.rd (Xo 1 [t16_4] σ) λt18_6=>
 A.rd (Xo 2 [t16_4] σ) λt19_7=>
 A.wr (Qo 23 [t10_2,t17_5] σ) σ λ_ σ=>
 A.wr (Qo 7 [t11_3,t18_6] σ) σ λ_ σ=>
 A.opt (cellV true 23 t10_2 σ) λr8=>
 A.opt (cellV true 7 t11_3 σ) λr9=>
 ret (.tup [r8,r9,t19_7]) σ
|_=>A.stop
theorem Yau{b:Bk}{next:Int}:∀ {l:List Th} {ids:List Int},Yq b next ids l=true→∀u∈l,Zp b next u=true
 |v::l,ids,h,u,hu=>by
  simp only[Yq,Bool.and_eq_true] at h;rcases List.mem_cons.1 hu with rfl|hu
  ·exact h.1
  ·exact Yau h.2.2 u hu
theorem Za6{b:Bk}{next:Int}{u:Th}(h:Zp b next u=true):0≤u.card∧u.card.toNat<b.cards.length:=by
 simp_all [Zp]
theorem YbE{e:Int}{b:Bk}{s:St}{bare:Bool}(h:mayR e b s bare=true):∀u∈s.s0.units,0≤u.card∧u.card.toNat<b.cards.length:=by
 have:=Xaz h;simp only[Qt,Bool.and_eq_true] at this;exact λu hu=>Za6 (Yau this.2.1 u hu)
theorem XbE{e:Int}{b:Bk}{s:St}{bare:Bool}(h:mayR e b s bare=true):∀u∈s.s1.units,0≤u.card∧u.card.toNat<b.cards.length:=by
 have:=Xaz h;simp only[Qt,Bool.and_eq_true] at this;exact λu hu=>Za6 (Yau this.2.2.2 u hu)
theorem Qbd{l:List Th}{id:Int}{k:Nat}(h:fnd l id=some k):∃u,l[k]?=some u∧u.id=id:=by
 obtain⟨hk,h2,_⟩:=List.findIdx?_eq_some_iff_getElem.1 h;simp_all
theorem QbZ{σ:List ABlk}{b k:Nat}{l:List Th}{u:Th}(hU:hget σ b=.rows 4 (l.map thC))(hk:l[k]?=some u)(now:Int):Qo 1 [.ptr b k 2,iv now] σ=.ok .junk [] [(b,.rows 4 ((l.set k { u with harm:=now }).map thC))]:=by
 have h1:nth (l.map thC) k=some (thC u):=by rw[Q7,List.getElem?_map,hk]; rfl
 have hl:k<(l.map thC).length:=by grind
 have h2:XU k [iv u.id,iv u.card,iv now,.bool u.tired] (l.map thC)=some ((l.set k { u with harm:=now }).map thC):=by
  rw[Qa4 hl,List.map_set]; rfl
 show (match hget σ b with
   |.rows sz rs=>match nth rs k with
    |some row=>match cellsOf (iv now) with
     | some cs=>bif Nat.beq cs.length 1 then (match splice 2 cs row with
      |some row'=>match XU k row' rs with
       |some rs'=>SRes.ok .junk [] [(b,.rows sz rs')]
       |none=>.stop
      | none=>.stop) else .stop
     |none=>.stop
    |none=>.stop
   | _=>.stop)=_
 simp_all [thC]
attribute [local irreducible] Ans.rd Ans.pu Ans.wr Ans.dr Ans.gr Ans.gw Ans.gl Ans.gd Ans.opt joinK W
set_option maxHeartbeats 4000000
theorem cTp_0{b:Bk}(hf:bkFit b=true)(hsm:Qj b.cards){s:St}(hs:StLe 2000000 s)(hm:mayR (bkR b).1 b s true=true){f F F2:FuncId}{kd:Int}(hg:GQ f 5 (gT kd F)){gF:GFun}(hgF:GQ F 1 gF)(hF:∀x τ (K:AVal→List ABlk→Prop),K (.func (.func F2) [x] []) τ→gF VV [x] τ K)(h2p:Yi prog F2=true)(n:Int)(v:Int×Int)(hc:PC F2 [.rptr (.rptr (bkC b) 0::stC s) 0,.nilp,iv s.s0.life,iv (cap4 n)] (.tup [iv v.1,iv v.2])):PC f [bkV b,stV s,iv 0,iv 0,iv n] (resV (chgP s kd 0 v)):=by
 have hr:chgP s kd 0 v=(if wIn v.1 then (s.put 0 { s.s0 with life:=v.1 },⟨kd,0,0,0,0,v.2,[]⟩,0) else (zSt,zEv,171)):=rfl;refine Xv hP hg rfl ?_;unfold gT;refine Yc (v:=.bptr 0 0) (rd:=[]) (up:=[(0,.box (bkC b))]) rfl rfl ?_;refine Yc (v:=.bptr 1 0) (rd:=[]) (up:=[(1,.box (stC s))]) rfl rfl ?_;refine Yc (v:=.bptr 2 0) (rd:=[]) (up:=[(2,.box zStC)]) rfl rfl ?_;refine Yc (v:=.bptr 3 0) (rd:=[]) (up:=[(3,.box zEvC)]) rfl rfl ?_;refine Xg hP rfl g80.ok rfl ?_;rw[H7.e]; unfold g80; dsimp only;refine Yc (v:=.bptr 4 0) (rd:=[]) (up:=[(4,.box zStC)]) rfl rfl ?_;refine Yc (v:=.bptr 5 0) (rd:=[]) (up:=[(5,.box zEvC)]) rfl rfl ?_;refine c56n b hf hsm s (hs.mono (by decide)) (n0:=6) (n:=17) rfl rfl rfl rfl (λh=>by rw[hm] at h; cases h) (λ_=>?_);refine Za rfl (Yd (Za (Zaf ..) (Za (YF ..) (Za (Qaa ..) ?_))));refine Zi λk11 hk11=>?_;refine Yd ?_;rw[hk11];refine Za rfl ?_;refine X0 (c:=false) (d:=false) (λ_=>rfl) (λ_=>rfl) ?_;refine Yd (Za rfl (Za rfl (Za rfl (Za rfl ?_))));refine Xal hP (ys:=[.bptr 17 0]) (zs:=[.bptr 17 0]) rfl hgF rfl [] [17] (v:=.func (.func F2) [.bptr 17 0] []) (m:=0) (σ:=((sg6 b s).append [.box (mv6 s)])) (τ:=dd18) (τ':=dd18) (by decide) (show ∀b∈[17],b<18 by decide) rfl rfl ?_ rfl (u:=.func (.func F2) [.bptr 17 0] []) (up:=[]) (σ':=((sg6 b s).append [.box (mv6 s)])) rfl rfl rfl ?_
 ·exact hF _ _ _ ⟨rfl,rfl⟩
 refine Zd rfl (Zd rfl (Zg (ld (row:=(mv6 s)) rfl rfl) (Qh _) ?_));refine XX (rd:=[0,6,7,8,9,10,11,12,13,14,15,16,17]) (hc) rfl h2p (.cons (Bor.box (row:=(mv6 s)) rfl (by decide) (.cons (Bor.box (row:=bkC b) rfl (by decide) (BorL.ro rfl)) ?_)) <| .cons (Bor.ro rfl) <| .cons (Bor.ro rfl) <| .cons (Bor.ro rfl) .nil) rfl ?_
 ·exact SB.mk (s:=s) (RI.own rfl (by decide) rfl) (RI.own rfl (by decide) rfl) (RI.own rfl (by decide) rfl) (RI.own rfl (by decide) rfl) (RT.own rfl (by decide) rfl) (RI.own rfl (by decide) rfl) (RI.own rfl (by decide) rfl) (RI.own rfl (by decide) rfl) (RI.own rfl (by decide) rfl) (RT.own rfl (by decide) rfl) (RI.own rfl (by decide) rfl)
 refine Zd rfl (Zd rfl (Xr (by kernel_rfl) ?_));refine Xb (c57 _) rfl g73.ok.plain rfl (Za rfl (Zb (λh2=>?_) (λh2=>?_)))
 ·have h3:wIn v.1=false:=by simpa using h2
  replace hr:=hr.trans (if_neg (by rw[h3]; decide))
  refine Za rfl (Za rfl (Yc rfl rfl (Yc rfl rfl (Qi rfl (Qi rfl ?_)))));refine Za rfl (Za rfl (Za rfl (Yc rfl rfl (Yc rfl rfl (Qi rfl (Qi rfl ?_))))));rw[hr];exact⟨[],resZ 171⟩
 have h3:wIn v.1=true:=by simpa using h2
 replace hr:=hr.trans (if_pos h3)
 refine Za rfl ?_;refine Zi λk63 hk63=>?_;refine Yd (Za rfl (Za rfl (Yc (v:=.junk) (rd:=[]) (up:=[(17,.box ((mv6 s).set 8 (iv v.1)))]) rfl rfl ?_)));rw[hk63];refine Za rfl (Za rfl (Za (ld (row:=((mv6 s).set 8 (iv v.1))) rfl rfl) (Za rfl ?_)));refine Yc (v:=.junk) (rd:=[]) (up:=[(4,.box ((st6 s).set 7 (iv v.1)))]) rfl rfl ?_;refine Yc (v:=.junk) (rd:=[]) (up:=[(5,.box [iv8 kd,iv 0,iv 0,iv 0,iv 0,iv v.2,.nils])]) rfl rfl (Qi rfl (Qi rfl ?_));refine Za rfl (Za rfl (Za rfl ?_));refine Yc (v:=.junk) (rd:=[]) (up:=[(2,.box ((st6 s).set 7 (iv v.1)))]) rfl rfl ?_;refine Yc (v:=.junk) (rd:=[]) (up:=[(3,.box [iv8 kd,iv 0,iv 0,iv 0,iv 0,iv v.2,.nils])]) rfl rfl (Qi rfl (Qi rfl ?_));rw[hr];refine⟨List.range 18,?_⟩;refine resB (cs:=((st6 s).set 7 (iv v.1))) (r:=({ s with s0:={ s.s0 with life:=v.1 } },⟨kd,0,0,0,0,v.2,[]⟩,0)) ?_ (evB (e:=⟨kd,0,0,0,0,v.2,[]⟩) RI.nils);refine SB.mk (rd:=List.range 18) (s:={ s with s0:={ s.s0 with life:=v.1 } }) ?_ ?_ ?_ ?_ ?_ ?_ ?_ ?_ ?_ ?_ ?_<;>first|exact RI.own rfl (by decide) rfl|exact RT.own rfl (by decide) rfl
theorem cTp_1{b:Bk}(hf:bkFit b=true)(hsm:Qj b.cards){s:St}(hs:StLe 2000000 s)(hm:mayR (bkR b).1 b s true=true){f F F2:FuncId}{kd:Int}(hg:GQ f 5 (gT kd F)){gF:GFun}(hgF:GQ F 1 gF)(hF:∀x τ (K:AVal→List ABlk→Prop),K (.func (.func F2) [x] []) τ→gF VV [x] τ K)(h2p:Yi prog F2=true)(n:Int)(v:Int×Int)(hc:PC F2 [.rptr (.rptr (bkC b) 0::stC s) 0,.nilp,iv s.s1.life,iv (cap4 n)] (.tup [iv v.1,iv v.2])):PC f [bkV b,stV s,iv 0,iv 1,iv n] (resV (chgP s kd 1 v)):=by
 have hr:chgP s kd 1 v=(if wIn v.1 then (s.put 1 { s.s1 with life:=v.1 },⟨kd,1,0,0,0,v.2,[]⟩,0) else (zSt,zEv,171)):=rfl;refine Xv hP hg rfl ?_;unfold gT;refine Yc (v:=.bptr 0 0) (rd:=[]) (up:=[(0,.box (bkC b))]) rfl rfl ?_;refine Yc (v:=.bptr 1 0) (rd:=[]) (up:=[(1,.box (stC s))]) rfl rfl ?_;refine Yc (v:=.bptr 2 0) (rd:=[]) (up:=[(2,.box zStC)]) rfl rfl ?_;refine Yc (v:=.bptr 3 0) (rd:=[]) (up:=[(3,.box zEvC)]) rfl rfl ?_;refine Xg hP rfl g80.ok rfl ?_;rw[H7.e]; unfold g80; dsimp only;refine Yc (v:=.bptr 4 0) (rd:=[]) (up:=[(4,.box zStC)]) rfl rfl ?_;refine Yc (v:=.bptr 5 0) (rd:=[]) (up:=[(5,.box zEvC)]) rfl rfl ?_;refine c56n b hf hsm s (hs.mono (by decide)) (n0:=6) (n:=17) rfl rfl rfl rfl (λh=>by rw[hm] at h; cases h) (λ_=>?_);refine Za rfl (Yd (Za (Zaf ..) (Za (YF ..) (Za (Qaa ..) ?_))));refine Zi λk11 hk11=>?_;refine Yd ?_;rw[hk11];refine Za rfl ?_;refine X0 (c:=false) (d:=false) (λ_=>rfl) (λ_=>rfl) ?_;refine Yd (Za rfl (Za rfl (Za rfl (Za rfl ?_))));refine Xal hP (ys:=[.bptr 17 0]) (zs:=[.bptr 17 0]) rfl hgF rfl [] [17] (v:=.func (.func F2) [.bptr 17 0] []) (m:=0) (σ:=((sg6 b s).append [.box (mv6 s)])) (τ:=dd18) (τ':=dd18) (by decide) (show ∀b∈[17],b<18 by decide) rfl rfl ?_ rfl (u:=.func (.func F2) [.bptr 17 0] []) (up:=[]) (σ':=((sg6 b s).append [.box (mv6 s)])) rfl rfl rfl ?_
 ·exact hF _ _ _ ⟨rfl,rfl⟩
 refine Zd rfl (Zd rfl (Zg (ld (row:=(mv6 s)) rfl rfl) (Qh _) ?_));refine XX (rd:=[0,6,7,8,9,10,11,12,13,14,15,16,17]) (hc) rfl h2p (.cons (Bor.box (row:=(mv6 s)) rfl (by decide) (.cons (Bor.box (row:=bkC b) rfl (by decide) (BorL.ro rfl)) ?_)) <| .cons (Bor.ro rfl) <| .cons (Bor.ro rfl) <| .cons (Bor.ro rfl) .nil) rfl ?_
 ·exact SB.mk (s:=s) (RI.own rfl (by decide) rfl) (RI.own rfl (by decide) rfl) (RI.own rfl (by decide) rfl) (RI.own rfl (by decide) rfl) (RT.own rfl (by decide) rfl) (RI.own rfl (by decide) rfl) (RI.own rfl (by decide) rfl) (RI.own rfl (by decide) rfl) (RI.own rfl (by decide) rfl) (RT.own rfl (by decide) rfl) (RI.own rfl (by decide) rfl)
 refine Zd rfl (Zd rfl (Xr (by kernel_rfl) ?_));refine Xb (c57 _) rfl g73.ok.plain rfl (Za rfl (Zb (λh2=>?_) (λh2=>?_)))
 ·have h3:wIn v.1=false:=by simpa using h2
  replace hr:=hr.trans (if_neg (by rw[h3]; decide))
  refine Za rfl (Za rfl (Yc rfl rfl (Yc rfl rfl (Qi rfl (Qi rfl ?_)))));refine Za rfl (Za rfl (Za rfl (Yc rfl rfl (Yc rfl rfl (Qi rfl (Qi rfl ?_))))));rw[hr];exact⟨[],resZ 171⟩
 have h3:wIn v.1=true:=by simpa using h2
 replace hr:=hr.trans (if_pos h3)
 refine Za rfl ?_;refine Zi λk63 hk63=>?_;refine Yd (Za rfl (Za rfl (Yc (v:=.junk) (rd:=[]) (up:=[(17,.box ((mv6 s).set 16 (iv v.1)))]) rfl rfl ?_)));rw[hk63];refine Za rfl (Za rfl (Za (ld (row:=((mv6 s).set 16 (iv v.1))) rfl rfl) (Za rfl ?_)));refine Yc (v:=.junk) (rd:=[]) (up:=[(4,.box ((st6 s).set 15 (iv v.1)))]) rfl rfl ?_;refine Yc (v:=.junk) (rd:=[]) (up:=[(5,.box [iv8 kd,iv 1,iv 0,iv 0,iv 0,iv v.2,.nils])]) rfl rfl (Qi rfl (Qi rfl ?_));refine Za rfl (Za rfl (Za rfl ?_));refine Yc (v:=.junk) (rd:=[]) (up:=[(2,.box ((st6 s).set 15 (iv v.1)))]) rfl rfl ?_;refine Yc (v:=.junk) (rd:=[]) (up:=[(3,.box [iv8 kd,iv 1,iv 0,iv 0,iv 0,iv v.2,.nils])]) rfl rfl (Qi rfl (Qi rfl ?_));rw[hr];refine⟨List.range 18,?_⟩;refine resB (cs:=((st6 s).set 15 (iv v.1))) (r:=({ s with s1:={ s.s1 with life:=v.1 } },⟨kd,1,0,0,0,v.2,[]⟩,0)) ?_ (evB (e:=⟨kd,1,0,0,0,v.2,[]⟩) RI.nils);refine SB.mk (rd:=List.range 18) (s:={ s with s1:={ s.s1 with life:=v.1 } }) ?_ ?_ ?_ ?_ ?_ ?_ ?_ ?_ ?_ ?_ ?_<;>first|exact RI.own rfl (by decide) rfl|exact RT.own rfl (by decide) rfl
theorem cTu_0{b:Bk}(hf:bkFit b=true)(hsm:Qj b.cards){s:St}(hs:StLe 2000000 s)(hm:mayR (bkR b).1 b s true=true){f F F2:FuncId}{kd:Int}(hg:GQ f 5 (gT kd F)){gF:GFun}(hgF:GQ F 1 gF)(hF:∀x τ (K:AVal→List ABlk→Prop),K (.func (.func F2) [x] []) τ→gF VV [x] τ K)(h2p:Yi prog F2=true)(id sd n:Int)(hid:id≠0)(hid2:¬id<0)(k:Nat)(hfn:unitV s id=.tup [iv 0,iv k,.bool true])(u:Th)(hk:s.s0.units[k]?=some u)(v:Int×Int)(hc:PC F2 [.rptr (.rptr (bkC b) 0::stC s) 0,.rptr (thC u) 0,iv s.s0.life,iv (cap4 n)] (.tup [iv v.1,iv v.2])):PC f [bkV b,stV s,iv id,iv sd,iv n] (resV (chgU s kd 0 k id u v)):=by
 have h71:=c71 s (hs.mono (by decide)) id;rw[hfn] at h71;have hkl:k<s.s0.units.length:=(YLG hk).1;have hr:chgU s kd 0 k id u v=(if wIn v.1 then (s.put 0 { s.s0 with units:=s.s0.units.set k { u with harm:=v.1 } },⟨kd,0,0,id,0,v.2,[]⟩,0) else (zSt,zEv,171)):=rfl;refine Xv hP hg rfl ?_;unfold gT;refine Yc (v:=.bptr 0 0) (rd:=[]) (up:=[(0,.box (bkC b))]) rfl rfl ?_;refine Yc (v:=.bptr 1 0) (rd:=[]) (up:=[(1,.box (stC s))]) rfl rfl ?_;refine Yc (v:=.bptr 2 0) (rd:=[]) (up:=[(2,.box zStC)]) rfl rfl ?_;refine Yc (v:=.bptr 3 0) (rd:=[]) (up:=[(3,.box zEvC)]) rfl rfl ?_;refine Xg hP rfl g80.ok rfl ?_;rw[H7.e]; unfold g80; dsimp only;refine Yc (v:=.bptr 4 0) (rd:=[]) (up:=[(4,.box zStC)]) rfl rfl ?_;refine Yc (v:=.bptr 5 0) (rd:=[]) (up:=[(5,.box zEvC)]) rfl rfl ?_;refine c56n b hf hsm s (hs.mono (by decide)) (n0:=6) (n:=17) rfl rfl rfl rfl (λh=>by rw[hm] at h; cases h) (λ_=>?_);refine Za rfl (Yd (Za (Zaf ..) (Za (YF ..) (Za (Qaa ..) ?_))));refine Zi λk11 hk11=>?_;rw[decide_eq_true hid];refine Qc (Za rfl (Za (ld (row:=stC s) rfl rfl) ?_));refine Xb h71 rfl g117.ok.plain rfl (Za rfl (Za rfl (Za rfl (Za rfl ?_))));refine X0 (c:=false) (λ_=>rfl) (λ_=>XP ..) ?_;rw[decide_eq_false hid2];refine Yd (Za rfl (Za rfl (Za rfl (Za rfl (Za rfl (Za (ld (row:=(mv6 s)) rfl rfl) ?_))))));refine Za (v:=.ptr 10 k 0) (rd:=[10]) ?_ ?_
 ·have:=Ycz (((sg6 b s).append [.box (mv6 s)])) 10 0 s.s0.units.length false 4 (s.s0.units.map thC) .i64 k hkl rfl;rw[Nat.zero_add] at this; exact this
 rw[hk11];refine Za rfl ?_;refine X0 (c:=false) (d:=false) (λ_=>rfl) (λ_=>rfl) ?_;refine Yd (Za rfl (Za rfl (Za rfl (Za rfl ?_))));refine Xal hP (ys:=[.bptr 17 0]) (zs:=[.bptr 17 0]) rfl hgF rfl [] [17] (v:=.func (.func F2) [.bptr 17 0] []) (m:=0) (σ:=((sg6 b s).append [.box (mv6 s)])) (τ:=dd18) (τ':=dd18) (by decide) (show ∀b∈[17],b<18 by decide) rfl rfl ?_ rfl (u:=.func (.func F2) [.bptr 17 0] []) (up:=[]) (σ':=((sg6 b s).append [.box (mv6 s)])) rfl rfl rfl ?_
 ·exact hF _ _ _ ⟨rfl,rfl⟩
 refine Zd rfl (Zd rfl (Zg (ld (row:=(mv6 s)) rfl rfl) (Qh _) ?_));refine XX (rd:=[0,6,7,8,9,10,11,12,13,14,15,16,17]) (hc) rfl h2p (.cons (Bor.box (row:=(mv6 s)) rfl (by decide) (.cons (Bor.box (row:=bkC b) rfl (by decide) (BorL.ro rfl)) ?_)) <| .cons (Bor.ptr (rs:=s.s0.units.map thC) (row:=thC u) rfl (by decide) (by rw[List.getElem?_map,hk]; rfl) (BorL.ro rfl)) <| .cons (Bor.ro rfl) <| .cons (Bor.ro rfl) .nil) rfl ?_
 ·exact SB.mk (s:=s) (RI.own rfl (by decide) rfl) (RI.own rfl (by decide) rfl) (RI.own rfl (by decide) rfl) (RI.own rfl (by decide) rfl) (RT.own rfl (by decide) rfl) (RI.own rfl (by decide) rfl) (RI.own rfl (by decide) rfl) (RI.own rfl (by decide) rfl) (RI.own rfl (by decide) rfl) (RT.own rfl (by decide) rfl) (RI.own rfl (by decide) rfl)
 refine Zd rfl (Zd rfl (Xr (by kernel_rfl) ?_));refine Xb (c57 _) rfl g73.ok.plain rfl (Za rfl (Zb (λh2=>?_) (λh2=>?_)))
 ·have h3:wIn v.1=false:=by simpa using h2
  replace hr:=hr.trans (if_neg (by rw[h3]; decide))
  refine Za rfl (Za rfl (Yc rfl rfl (Yc rfl rfl (Qi rfl (Qi rfl ?_)))));refine Za rfl (Za rfl (Za rfl (Yc rfl rfl (Yc rfl rfl (Qi rfl (Qi rfl ?_))))));rw[hr];exact⟨[],resZ 171⟩
 have h3:wIn v.1=true:=by simpa using h2
 replace hr:=hr.trans (if_pos h3)
 refine Za rfl ?_;refine Zi λk63 hk63=>?_;refine Qc (Za rfl (Za rfl (Yc (v:=.junk) (rd:=[]) (up:=[(10,.rows 4 ((s.s0.units.set k { u with harm:=v.1 }).map thC))]) (QbZ rfl hk _) rfl ?_)));rw[hk63];refine Za rfl (Za rfl (Za (ld (row:=(mv6 s)) rfl rfl) (Za rfl ?_)));refine Yc (v:=.junk) (rd:=[]) (up:=[(4,.box (st6 s))]) rfl rfl ?_;refine Yc (v:=.junk) (rd:=[]) (up:=[(5,.box [iv8 kd,iv 0,iv 0,iv id,iv 0,iv v.2,.nils])]) rfl rfl (Qi rfl (Qi rfl ?_));refine Za rfl (Za rfl (Za rfl ?_));refine Yc (v:=.junk) (rd:=[]) (up:=[(2,.box (st6 s))]) rfl rfl ?_;refine Yc (v:=.junk) (rd:=[]) (up:=[(3,.box [iv8 kd,iv 0,iv 0,iv id,iv 0,iv v.2,.nils])]) rfl rfl (Qi rfl (Qi rfl ?_));rw[hr];refine⟨List.range 18,?_⟩;refine resB (cs:=(st6 s)) (r:=({ s with s0:={ s.s0 with units:=s.s0.units.set k { u with harm:=v.1 } } },⟨kd,0,0,id,0,v.2,[]⟩,0)) ?_ (evB (e:=⟨kd,0,0,id,0,v.2,[]⟩) RI.nils);refine SB.mk (rd:=List.range 18) (s:={ s with s0:={ s.s0 with units:=s.s0.units.set k { u with harm:=v.1 } } }) ?_ ?_ ?_ ?_ ?_ ?_ ?_ ?_ ?_ ?_ ?_<;>first|exact RI.own rfl (by decide) rfl|exact RT.own rfl (by decide) rfl|exact RT.own (l:=s.s0.units.set k { u with harm:=v.1 }) rfl (by decide) (by simp)
theorem cTu_1{b:Bk}(hf:bkFit b=true)(hsm:Qj b.cards){s:St}(hs:StLe 2000000 s)(hm:mayR (bkR b).1 b s true=true){f F F2:FuncId}{kd:Int}(hg:GQ f 5 (gT kd F)){gF:GFun}(hgF:GQ F 1 gF)(hF:∀x τ (K:AVal→List ABlk→Prop),K (.func (.func F2) [x] []) τ→gF VV [x] τ K)(h2p:Yi prog F2=true)(id sd n:Int)(hid:id≠0)(hid2:¬id<0)(k:Nat)(hfn:unitV s id=.tup [iv 1,iv k,.bool true])(u:Th)(hk:s.s1.units[k]?=some u)(v:Int×Int)(hc:PC F2 [.rptr (.rptr (bkC b) 0::stC s) 0,.rptr (thC u) 0,iv s.s1.life,iv (cap4 n)] (.tup [iv v.1,iv v.2])):PC f [bkV b,stV s,iv id,iv sd,iv n] (resV (chgU s kd 1 k id u v)):=by
 have h71:=c71 s (hs.mono (by decide)) id;rw[hfn] at h71;have hkl:k<s.s1.units.length:=(YLG hk).1;have hr:chgU s kd 1 k id u v=(if wIn v.1 then (s.put 1 { s.s1 with units:=s.s1.units.set k { u with harm:=v.1 } },⟨kd,1,0,id,0,v.2,[]⟩,0) else (zSt,zEv,171)):=rfl;refine Xv hP hg rfl ?_;unfold gT;refine Yc (v:=.bptr 0 0) (rd:=[]) (up:=[(0,.box (bkC b))]) rfl rfl ?_;refine Yc (v:=.bptr 1 0) (rd:=[]) (up:=[(1,.box (stC s))]) rfl rfl ?_;refine Yc (v:=.bptr 2 0) (rd:=[]) (up:=[(2,.box zStC)]) rfl rfl ?_;refine Yc (v:=.bptr 3 0) (rd:=[]) (up:=[(3,.box zEvC)]) rfl rfl ?_;refine Xg hP rfl g80.ok rfl ?_;rw[H7.e]; unfold g80; dsimp only;refine Yc (v:=.bptr 4 0) (rd:=[]) (up:=[(4,.box zStC)]) rfl rfl ?_;refine Yc (v:=.bptr 5 0) (rd:=[]) (up:=[(5,.box zEvC)]) rfl rfl ?_;refine c56n b hf hsm s (hs.mono (by decide)) (n0:=6) (n:=17) rfl rfl rfl rfl (λh=>by rw[hm] at h; cases h) (λ_=>?_);refine Za rfl (Yd (Za (Zaf ..) (Za (YF ..) (Za (Qaa ..) ?_))));refine Zi λk11 hk11=>?_;rw[decide_eq_true hid];refine Qc (Za rfl (Za (ld (row:=stC s) rfl rfl) ?_));refine Xb h71 rfl g117.ok.plain rfl (Za rfl (Za rfl (Za rfl (Za rfl ?_))));refine X0 (c:=false) (λ_=>rfl) (λ_=>XP ..) ?_;rw[decide_eq_false hid2];refine Yd (Za rfl (Za rfl (Za rfl (Za rfl (Za rfl (Za (ld (row:=(mv6 s)) rfl rfl) ?_))))));refine Za (v:=.ptr 15 k 0) (rd:=[15]) ?_ ?_
 ·have:=Ycz (((sg6 b s).append [.box (mv6 s)])) 15 0 s.s1.units.length false 4 (s.s1.units.map thC) .i64 k hkl rfl;rw[Nat.zero_add] at this; exact this
 rw[hk11];refine Za rfl ?_;refine X0 (c:=false) (d:=false) (λ_=>rfl) (λ_=>rfl) ?_;refine Yd (Za rfl (Za rfl (Za rfl (Za rfl ?_))));refine Xal hP (ys:=[.bptr 17 0]) (zs:=[.bptr 17 0]) rfl hgF rfl [] [17] (v:=.func (.func F2) [.bptr 17 0] []) (m:=0) (σ:=((sg6 b s).append [.box (mv6 s)])) (τ:=dd18) (τ':=dd18) (by decide) (show ∀b∈[17],b<18 by decide) rfl rfl ?_ rfl (u:=.func (.func F2) [.bptr 17 0] []) (up:=[]) (σ':=((sg6 b s).append [.box (mv6 s)])) rfl rfl rfl ?_
 ·exact hF _ _ _ ⟨rfl,rfl⟩
 refine Zd rfl (Zd rfl (Zg (ld (row:=(mv6 s)) rfl rfl) (Qh _) ?_));refine XX (rd:=[0,6,7,8,9,10,11,12,13,14,15,16,17]) (hc) rfl h2p (.cons (Bor.box (row:=(mv6 s)) rfl (by decide) (.cons (Bor.box (row:=bkC b) rfl (by decide) (BorL.ro rfl)) ?_)) <| .cons (Bor.ptr (rs:=s.s1.units.map thC) (row:=thC u) rfl (by decide) (by rw[List.getElem?_map,hk]; rfl) (BorL.ro rfl)) <| .cons (Bor.ro rfl) <| .cons (Bor.ro rfl) .nil) rfl ?_
 ·exact SB.mk (s:=s) (RI.own rfl (by decide) rfl) (RI.own rfl (by decide) rfl) (RI.own rfl (by decide) rfl) (RI.own rfl (by decide) rfl) (RT.own rfl (by decide) rfl) (RI.own rfl (by decide) rfl) (RI.own rfl (by decide) rfl) (RI.own rfl (by decide) rfl) (RI.own rfl (by decide) rfl) (RT.own rfl (by decide) rfl) (RI.own rfl (by decide) rfl)
 refine Zd rfl (Zd rfl (Xr (by kernel_rfl) ?_));refine Xb (c57 _) rfl g73.ok.plain rfl (Za rfl (Zb (λh2=>?_) (λh2=>?_)))
 ·have h3:wIn v.1=false:=by simpa using h2
  replace hr:=hr.trans (if_neg (by rw[h3]; decide))
  refine Za rfl (Za rfl (Yc rfl rfl (Yc rfl rfl (Qi rfl (Qi rfl ?_)))));refine Za rfl (Za rfl (Za rfl (Yc rfl rfl (Yc rfl rfl (Qi rfl (Qi rfl ?_))))));rw[hr];exact⟨[],resZ 171⟩
 have h3:wIn v.1=true:=by simpa using h2
 replace hr:=hr.trans (if_pos h3)
 refine Za rfl ?_;refine Zi λk63 hk63=>?_;refine Qc (Za rfl (Za rfl (Yc (v:=.junk) (rd:=[]) (up:=[(15,.rows 4 ((s.s1.units.set k { u with harm:=v.1 }).map thC))]) (QbZ rfl hk _) rfl ?_)));rw[hk63];refine Za rfl (Za rfl (Za (ld (row:=(mv6 s)) rfl rfl) (Za rfl ?_)));refine Yc (v:=.junk) (rd:=[]) (up:=[(4,.box (st6 s))]) rfl rfl ?_;refine Yc (v:=.junk) (rd:=[]) (up:=[(5,.box [iv8 kd,iv 1,iv 0,iv id,iv 0,iv v.2,.nils])]) rfl rfl (Qi rfl (Qi rfl ?_));refine Za rfl (Za rfl (Za rfl ?_));refine Yc (v:=.junk) (rd:=[]) (up:=[(2,.box (st6 s))]) rfl rfl ?_;refine Yc (v:=.junk) (rd:=[]) (up:=[(3,.box [iv8 kd,iv 1,iv 0,iv id,iv 0,iv v.2,.nils])]) rfl rfl (Qi rfl (Qi rfl ?_));rw[hr];refine⟨List.range 18,?_⟩;refine resB (cs:=(st6 s)) (r:=({ s with s1:={ s.s1 with units:=s.s1.units.set k { u with harm:=v.1 } } },⟨kd,1,0,id,0,v.2,[]⟩,0)) ?_ (evB (e:=⟨kd,1,0,id,0,v.2,[]⟩) RI.nils);refine SB.mk (rd:=List.range 18) (s:={ s with s1:={ s.s1 with units:=s.s1.units.set k { u with harm:=v.1 } } }) ?_ ?_ ?_ ?_ ?_ ?_ ?_ ?_ ?_ ?_ ?_<;>first|exact RI.own rfl (by decide) rfl|exact RT.own rfl (by decide) rfl|exact RT.own (l:=s.s1.units.set k { u with harm:=v.1 }) rfl (by decide) (by simp)
theorem cTn{b:Bk}(hf:bkFit b=true)(hsm:Qj b.cards){s:St}(hs:StLe 2000000 s)(hm:mayR (bkR b).1 b s true=true){f F F2:FuncId}{kd:Int}(hg:GQ f 5 (gT kd F)){gF:GFun}(hgF:GQ F 1 gF)(hF:∀x τ (K:AVal→List ABlk→Prop),K (.func (.func F2) [x] []) τ→gF VV [x] τ K)(h2p:Yi prog F2=true)(id sd n:Int)(hid:id≠0)(v:AVal)(w:AVal)(x:Bool)(hfn:unitV s id=.tup [v,w,.bool x])(hx:id<0∨x=false):PC f [bkV b,stV s,iv id,iv sd,iv n] (resV (zSt,zEv,4)):=by
 have h71:=c71 s (hs.mono (by decide)) id;rw[hfn] at h71;have hfl:roL [.tup [v,w,.bool x]]=true:=by rw[←hfn]; rfl
 refine Xv hP hg rfl ?_;unfold gT;refine Yc (v:=.bptr 0 0) (rd:=[]) (up:=[(0,.box (bkC b))]) rfl rfl ?_;refine Yc (v:=.bptr 1 0) (rd:=[]) (up:=[(1,.box (stC s))]) rfl rfl ?_;refine Yc (v:=.bptr 2 0) (rd:=[]) (up:=[(2,.box zStC)]) rfl rfl ?_;refine Yc (v:=.bptr 3 0) (rd:=[]) (up:=[(3,.box zEvC)]) rfl rfl ?_;refine Xg hP rfl g80.ok rfl ?_;rw[H7.e]; unfold g80; dsimp only;refine Yc (v:=.bptr 4 0) (rd:=[]) (up:=[(4,.box zStC)]) rfl rfl ?_;refine Yc (v:=.bptr 5 0) (rd:=[]) (up:=[(5,.box zEvC)]) rfl rfl ?_;refine c56n b hf hsm s (hs.mono (by decide)) (n0:=6) (n:=17) rfl rfl rfl rfl (λh=>by rw[hm] at h; cases h) (λ_=>?_);refine Za rfl (Yd (Za (Zaf ..) (Za (YF ..) (Za (Qaa ..) ?_))));refine Zi λk11 hk11=>?_;rw[decide_eq_true hid];refine Qc (Za rfl (Za (ld (row:=stC s) rfl rfl) ?_));refine Xb h71 rfl g117.ok.plain rfl (Za rfl (Za rfl (Za rfl (Za rfl ?_))));refine X0 (c:=!x) (λ_=>rfl) (λ_=>XP ..) ?_;rw[show (!x||decide (id<0))=true by rcases hx with h|h<;>simp[h]];refine Qc ?_;refine Za rfl (Za rfl (Yc rfl rfl (Yc rfl rfl (Qi rfl (Qi rfl ?_)))));refine Za rfl (Za rfl (Za rfl (Yc rfl rfl (Yc rfl rfl (Qi rfl (Qi rfl ?_))))));exact⟨[],resZ 4⟩
theorem cT{b:Bk}(hf:bkFit b=true)(hsm:Qj b.cards){s:St}(hs:StLe 2000000 s)(hm:mayR (bkR b).1 b s true=true){f F F2:FuncId}{kd:Int}(hg:GQ f 5 (gT kd F)){gF:GFun}(hgF:GQ F 1 gF)(hF:∀x τ (K:AVal→List ABlk→Prop),K (.func (.func F2) [x] []) τ→gF VV [x] τ K)(h2p:Yi prog F2=true)(id sd n:Int)(h0:sd=0∨sd=1){fP:Int→Int×Int}{fU:Th→Int×Int}(hcP:∀m life,PC F2 [.rptr m 0,.nilp,iv life,iv (cap4 n)] (.tup [iv (fP life).1,iv (fP life).2]))(hcU:∀m u life,0≤u.card→u.card.toNat<b.cards.length→PC F2 [.rptr (.rptr (bkC b) 0::m) 0,.rptr (thC u) 0,iv life,iv (cap4 n)] (.tup [iv (fU u).1,iv (fU u).2])) :
  PC f [bkV b,stV s,iv id,iv sd,iv n] (resV (chgF kd fP fU s id sd)):=by
 unfold chgF;by_cases hid:id=0
 ·rw[if_pos hid]; subst hid;rcases h0 with rfl|rfl
  ·exact cTp_0 hf hsm hs hm hg hgF hF h2p n _ (hcP _ _)
  ·exact cTp_1 hf hsm hs hm hg hgF hF h2p n _ (hcP _ _)
 rw[if_neg hid];by_cases hid2:id<0
 ·rw[if_pos hid2];exact cTn hf hsm hs hm hg hgF hF h2p id sd n hid _ _ _ rfl (.inl hid2)
 rw[if_neg hid2];cases q0:fnd s.s0.units id with
 |some k=>
  obtain⟨u,hk,_⟩:=Qbd q0;have hca:=YbE hm u (List.mem_of_getElem? hk);simp only[hk,Option.getD_some];exact cTu_0 hf hsm hs hm hg hgF hF h2p id sd n hid hid2 k (by simp[unitV,unitR,q0]) u hk _ (hcU _ _ _ hca.1 hca.2)
 |none=>
  cases q1:fnd s.s1.units id with
  |some k=>
   obtain⟨u,hk,_⟩:=Qbd q1;have hca:=XbE hm u (List.mem_of_getElem? hk);simp only[hk,Option.getD_some];exact cTu_1 hf hsm hs hm hg hgF hF h2p id sd n hid hid2 k (by simp[unitV,unitR,q0,q1]) u hk _ (hcU _ _ _ hca.1 hca.2)
  |none=>exact cTn hf hsm hs hm hg hgF hF h2p id sd n hid _ _ _ rfl (.inr (by simp[unitR,q0,q1]))
theorem w65(x:AVal)(τ:List ABlk)(K:AVal→List ABlk→Prop)(h:K (.func (.func 82) [x] []) τ):g81.u VV [x] τ K:=by
 rw[H1.e]; unfold g81; dsimp only;exact Za rfl h
theorem c22(b:Bk)(hf:bkFit b=true)(hsm:Qj b.cards)(s:St)(hs:StLe 2000000 s)(hm:mayR (bkR b).1 b s true=true)(id sd n:Int)(h0:sd=0∨sd=1):PC 52 [bkV b,stV s,iv id,iv sd,iv n] (resV (harmF b s id sd n)):=
 cT hf hsm hs hm (show GQ 52 5 (gT 5 81) from g52.ok) g81.ok w65 g82.ok.plain id sd n h0 (λm life=>c66n m life _) (λm u life h1 h2=>c66u b m u life _ h1 h2)
end Go.Ah.Tz
end
section
namespace Go.Ah.Tz
open Go.Proofs.Tryz (prog)
abbrev mv2(s:St):List AVal:=[.bptr 0 0,iv s.turn,iv s.mover,iv8 s.phase,.bool s.struck,iv8 s.result,.sl 2 0 s.attack.length false,iv s.next,iv s.s0.life,iv s.s0.mana,iv s.s0.most,.sl 3 0 s.s0.deck.length false,.sl 4 0 s.s0.hand.length false,.sl 5 0 s.s0.grave.length false,.sl 6 0 s.s0.units.length false,.sl 7 0 s.s0.told.length false,iv s.s1.life,iv s.s1.mana,iv s.s1.most,.sl 8 0 s.s1.deck.length false,.sl 9 0 s.s1.hand.length false,.sl 10 0 s.s1.grave.length false,.sl 11 0 s.s1.units.length false,.sl 12 0 s.s1.told.length false]
def Q0(b:Bk)(c:Int):Cd:=(b.cards[c.toNat]?).getD default
def powGo(b:Bk)(place:Int):List Th→Int→Int×Int→Int×Int
 |[],_,a=>a
 |u::l,i,a=>powGo b place l (i+1) (if i=place then (IntKind.i64.wrap (a.1+(Q0 b u.card).power),IntKind.i64.wrap (a.2+(Q0 b u.card).health)) else (IntKind.i64.wrap (a.1+(Q0 b u.card).aurap),IntKind.i64.wrap (a.2+(Q0 b u.card).aurah)))
def powF(b:Bk)(l:List Th)(place:Int):Int×Int:=powGo b place l 0 (0,0)
theorem cdLd3(x:Cd):partA false 3 1 (cdC x)=some (iv x.power):=rfl
theorem cdLd4(x:Cd):partA false 4 1 (cdC x)=some (iv x.health):=rfl
theorem cdLd6(x:Cd):partA false 6 1 (cdC x)=some (iv x.aurap):=rfl
theorem cdLd7(x:Cd):partA false 7 1 (cdC x)=some (iv x.aurah):=rfl
theorem ldp{σ:List ABlk}{b i j n sz:Nat}{agg:Bool}{rs:List (List AVal)}{row:List AVal}{v:AVal}(hb:hget σ b=.rows sz rs)(hi:rs[i]?=some row)(hv:partA agg j n row=some v):Xk agg n [.ptr b i j] σ=.ok v [b] []:=by
 show (match hget σ b with
   |.rows _ rs=>match nth rs i with
    |some row=>match partA agg j n row with
     |some v=>SRes.ok v [b] []
     |none=>.stop
    |none=>.stop
   | _=>.stop)=_
 rw[hb];simp only[Q7,hi,hv]
attribute [local irreducible] Ans.rd Ans.pu Ans.wr Ans.dr Ans.gr Ans.gw Ans.gl Ans.gd Ans.opt joinK W
set_option maxHeartbeats 4000000
theorem c75_0(b:Bk)(s:St)(hl:s.s0.units.length≤1000000000)(hu:∀u∈s.s0.units,0≤u.card∧u.card.toNat<b.cards.length)(place:Int):PC 199 [.rptr (.rptr (bkC b) 0::stC s) 0,iv 0,iv place] (.tup [iv (powF b s.s0.units place).1,iv (powF b s.s0.units place).2]):=by
 refine Qb hP g199.ok rfl rfl ?_;rw[H3.e]; unfold g199; dsimp only;refine Za rfl (Za rfl (Za rfl (Za rfl (Za rfl (Za (v:=thV s.s0.units) (rd:=[]) (ldr rfl) (Za (v:=iv s.s0.units.length) (rd:=[]) (by simp[Yf]) ?_))))));refine Xj (ι:=Nat) (λi vs _=>(∃a:Int×Int,vs=[iv i,iv a.1,iv a.2]∧powF b s.s0.units place=powGo b place (s.s0.units.drop i) i a)∧i≤s.s0.units.length) (λi=>s.s0.units.length-i) 0 ⟨⟨(0,0),rfl,by simp[powF]⟩,by omega⟩ ?_;rintro i vs σ again ⟨⟨a,rfl,hr⟩,hi⟩ hag;refine Za rfl (Zb (λh=>?_) (λh=>?_));rotate_left
 ·have h:i=s.s0.units.length:=by simp at h; omega
  simp_all [powGo]
 have h:i<s.s0.units.length:=by simpa using h
 have hmem:=List.getElem_mem h;rw[YLD h,powGo] at hr;have hix:=λ(t:List ABlk)=>Yo t thC false false 4 s.s0.units .i64 i h;generalize s.s0.units[i]=u at hmem hr hix;have hcu:=hu u hmem;have hcx:=λ(t:List ABlk)=>Qa7 t cdC false false 12 b.cards .i64 u.card hcu.1 hcu.2;have hcd:Q0 b u.card=b.cards[u.card.toNat]:=by simp_all [Q0]
 rw[hcd] at hr;generalize b.cards[u.card.toNat]=c at hr hcx;refine Zi λk10 hk10=>?_;refine Za (hix _) (Za (ldr rfl) (Yx (row:=thC u) (row':=thC u) rfl rfl rfl ?_));have hB:=Qf σ (.box (thC u));refine Za rfl (Za rfl (Za (ldr rfl) (Za rfl (Za rfl (Za (ldr rfl) (Za rfl (Za (ld hB rfl) (Za (hcx _) (Za (Xd ..) ?_)))))))));refine Zb (λhp=>?_) (λhp=>?_)
 ·rw[if_pos (of_decide_eq_true hp)] at hr;refine Za rfl (Za rfl (Za (ldr (cdLd3 _)) (Za (Yh ..) (Za rfl (Za rfl (Za (ldr (cdLd4 _)) (Za (Yh ..) ?_)))))));rw[hk10];refine Za (Yh ..) ?_;rw[Qd (n:=i) (by omega)];exact hag (i+1) _ _ (by omega) ⟨⟨_,rfl,by rw[hr]; push_cast; rfl⟩,by omega⟩
 ·rw[if_neg (of_decide_eq_false hp)] at hr;refine Za rfl (Za rfl (Za (ldr (cdLd6 _)) (Za (Yh ..) (Za rfl (Za rfl (Za (ldr (cdLd7 _)) (Za (Yh ..) ?_)))))));rw[hk10];refine Za (Yh ..) ?_;rw[Qd (n:=i) (by omega)];exact hag (i+1) _ _ (by omega) ⟨⟨_,rfl,by rw[hr]; push_cast; rfl⟩,by omega⟩
theorem c75_1(b:Bk)(s:St)(hl:s.s1.units.length≤1000000000)(hu:∀u∈s.s1.units,0≤u.card∧u.card.toNat<b.cards.length)(place:Int):PC 199 [.rptr (.rptr (bkC b) 0::stC s) 0,iv 1,iv place] (.tup [iv (powF b s.s1.units place).1,iv (powF b s.s1.units place).2]):=by
 refine Qb hP g199.ok rfl rfl ?_;rw[H3.e]; unfold g199; dsimp only;refine Za rfl (Za rfl (Za rfl (Za rfl (Za rfl (Za (v:=thV s.s1.units) (rd:=[]) (ldr rfl) (Za (v:=iv s.s1.units.length) (rd:=[]) (by simp[Yf]) ?_))))));refine Xj (ι:=Nat) (λi vs _=>(∃a:Int×Int,vs=[iv i,iv a.1,iv a.2]∧powF b s.s1.units place=powGo b place (s.s1.units.drop i) i a)∧i≤s.s1.units.length) (λi=>s.s1.units.length-i) 0 ⟨⟨(0,0),rfl,by simp[powF]⟩,by omega⟩ ?_;rintro i vs σ again ⟨⟨a,rfl,hr⟩,hi⟩ hag;refine Za rfl (Zb (λh=>?_) (λh=>?_));rotate_left
 ·have h:i=s.s1.units.length:=by simp at h; omega
  simp_all [powGo]
 have h:i<s.s1.units.length:=by simpa using h
 have hmem:=List.getElem_mem h;rw[YLD h,powGo] at hr;have hix:=λ(t:List ABlk)=>Yo t thC false false 4 s.s1.units .i64 i h;generalize s.s1.units[i]=u at hmem hr hix;have hcu:=hu u hmem;have hcx:=λ(t:List ABlk)=>Qa7 t cdC false false 12 b.cards .i64 u.card hcu.1 hcu.2;have hcd:Q0 b u.card=b.cards[u.card.toNat]:=by simp_all [Q0]
 rw[hcd] at hr;generalize b.cards[u.card.toNat]=c at hr hcx;refine Zi λk10 hk10=>?_;refine Za (hix _) (Za (ldr rfl) (Yx (row:=thC u) (row':=thC u) rfl rfl rfl ?_));have hB:=Qf σ (.box (thC u));refine Za rfl (Za rfl (Za (ldr rfl) (Za rfl (Za rfl (Za (ldr rfl) (Za rfl (Za (ld hB rfl) (Za (hcx _) (Za (Xd ..) ?_)))))))));refine Zb (λhp=>?_) (λhp=>?_)
 ·rw[if_pos (of_decide_eq_true hp)] at hr;refine Za rfl (Za rfl (Za (ldr (cdLd3 _)) (Za (Yh ..) (Za rfl (Za rfl (Za (ldr (cdLd4 _)) (Za (Yh ..) ?_)))))));rw[hk10];refine Za (Yh ..) ?_;rw[Qd (n:=i) (by omega)];exact hag (i+1) _ _ (by omega) ⟨⟨_,rfl,by rw[hr]; push_cast; rfl⟩,by omega⟩
 ·rw[if_neg (of_decide_eq_false hp)] at hr;refine Za rfl (Za rfl (Za (ldr (cdLd6 _)) (Za (Yh ..) (Za rfl (Za rfl (Za (ldr (cdLd7 _)) (Za (Yh ..) ?_)))))));rw[hk10];refine Za (Yh ..) ?_;rw[Qd (n:=i) (by omega)];exact hag (i+1) _ _ (by omega) ⟨⟨_,rfl,by rw[hr]; push_cast; rfl⟩,by omega⟩
end Go.Ah.Tz
end
section
namespace Go.Ah.Tz
open Go.Proofs.Tryz (prog)
def evN(e:Ev):List AVal:=[iv8 e.kind,iv e.side,iv e.card,iv e.id,iv e.other,iv e.n,.nils]
def Agr(τ τ':List ABlk)(ex:List Nat):Prop:=τ.length≤τ'.length∧∀c,c<τ.length→c∉ex→hget τ' c=hget τ c
theorem Agr.app(τ l:List ABlk):Agr τ (τ++l) []:=⟨by simp,λc hc _=>Ym l hc⟩
theorem Agr.set(τ:List ABlk)(b:Nat)(x:ABlk):Agr τ (τ.set b x) [b]:=⟨by simp,λc hc h=>Ye x hc (by simpa using h)⟩
theorem Agr.trans{a b c:List ABlk}{e f:List Nat}(h:Agr a b e)(k:Agr b c f):Agr a c (e++f):=
 ⟨Nat.le_trans h.1 k.1,λx hx hn=>by
  rw[List.mem_append,not_or] at hn;rw[k.2 x (Nat.lt_of_lt_of_le hx h.1) hn.2,h.2 x hx hn.1]⟩
theorem Agr.get{a b:List ABlk}{e:List Nat}(h:Agr a b e){c:Nat}{x:ABlk}(hx:hget a c=x)(hd:x≠.dead)(hn:c∉e):hget b c=x:=by
 rw[h.2 c (Xh hx hd) hn]; exact hx
end Go.Ah.Tz
end
section
namespace Go.Ah.Tz
theorem Qr{n:Nat}{l:List Int}{most:Int}:Zm n l most=true↔(l.length:Int)≤most∧∀c∈l,0≤c∧c<n:=by
 simp[Zm,List.all_eq_true]
structure SideP (b:Bk) (x:Sd):Prop where
 life:wIn x.life=true
 mana:0≤x.mana∧wIn x.mana=true
 most:0≤x.most∧x.most≤10
 deck:Zm b.cards.length x.deck 60=true
 hand:Zm b.cards.length x.hand 10=true
 grave:Zm b.cards.length x.grave 1000000=true
 told:Zm b.cards.length x.told 1000000=true
 units:x.units.length≤7
theorem YcR{b:Bk}{x:Sd}:Zl b.cards.length x=true↔SideP b x:=by
 simp only[Zl,Bool.and_eq_true,decide_eq_true_eq];constructor
 ·rintro⟨h1,h2,h3,h4,h5,h6,h7,h8,h9,h10⟩;exact⟨h1,⟨h2,h3⟩,⟨h4,h5⟩,h6,h7,h8,h9,by omega⟩
 ·rintro⟨h1,⟨h2,h3⟩,⟨h4,h5⟩,h6,h7,h8,h9,h10⟩;exact⟨h1,h2,h3,h4,h5,h6,h7,h8,h9,by omega⟩
theorem Zau{b:Bk}{next:Int}:∀ {l:List Th} {ids:List Int},Yq b next ids l=true↔(∀u∈l,Zp b next u=true)∧(l.map Th.id).Nodup∧∀u∈l,u.id∉ids
 |[],ids=>by simp[Yq]
 |u::l,ids=>by
  simp only[Yq,Bool.and_eq_true,Zau (l:=l),Bool.not_eq_true',List.map_cons,List.nodup_cons,List.mem_cons,forall_eq_or_imp,List.mem_append,not_or];have hc:ids.contains u.id=false↔u.id∉ids:=by simp
  rw[hc];constructor
  ·rintro⟨h1,h2,h3,h4,h5⟩;refine⟨⟨h1,h3⟩,⟨?_,h4⟩,h2,λv hv=>(h5 v hv).1⟩;intro hm;obtain⟨v,hv,e⟩:=List.mem_map.1 hm;exact(h5 v hv).2.1 e
  ·rintro⟨⟨h1,h3⟩,⟨h6,h4⟩,h2,h5⟩;exact⟨h1,h2,h3,h4,λv hv=>⟨h5 v hv,λe=>h6 (List.mem_map.2 ⟨v,hv,e⟩),by simp⟩⟩
def UnP(b:Bk)(s:St):Prop:=(∀u∈s.s0.units++s.s1.units,Zp b s.next u=true)∧((s.s0.units++s.s1.units).map Th.id).Nodup
theorem YcV{b:Bk}{s:St}:(Yq b s.next [] s.s0.units=true∧Yq b s.next (s.s0.units.map Th.id) s.s1.units=true)↔UnP b s:=by
 rw[Zau,Zau,UnP,List.map_append,List.nodup_append];constructor
 ·rintro⟨⟨h1,h2,_⟩,h3,h4,h5⟩;refine⟨λu hu=>?_,h2,h4,λa ha c hc e=>?_⟩
  ·rcases List.mem_append.1 hu with hu|hu
   ·exact h1 u hu
   ·exact h3 u hu
  ·subst e;obtain⟨v,hv,rfl⟩:=List.mem_map.1 hc;exact h5 v hv ha
 ·rintro⟨h1,h2,h3,h4⟩;refine⟨⟨λu hu=>h1 u (List.mem_append_left _ hu),h2,by simp⟩,λu hu=>h1 u (List.mem_append_right _ hu),h3,λu hu hm=>h4 _ hm _ (List.mem_map.2 ⟨u,hu,rfl⟩) rfl⟩
theorem YaS{s:St}:∀ {l prev:List Int},attOk s prev l=true↔(∀a∈l,(unitR s a).2.2=true∧(unitR s a).1=s.mover)∧l.Nodup∧∀a∈l,a∉prev
 |[],prev=>by simp[attOk]
 |a::l,prev=>by
  simp only[attOk,Bool.and_eq_true,YaS (l:=l),decide_eq_true_eq,Bool.not_eq_true',List.nodup_cons,List.mem_cons,forall_eq_or_imp,List.mem_append,not_or];have hc:prev.contains a=false↔a∉prev:=by simp
  rw[hc];constructor
  ·rintro⟨h1,h2,h3,h4,h5⟩;exact⟨⟨h1,h3⟩,⟨λhm=>(h5 a hm).2.1 rfl,h4⟩,h2,λc hc=>(h5 c hc).1⟩
  ·rintro⟨⟨h1,h3⟩,⟨h6,h4⟩,h2,h5⟩;exact⟨h1,h2,h3,h4,λc hc=>⟨h5 c hc,λe=>h6 (e▸hc),by simp⟩⟩
def AtP(s:St):Prop:=(s.phase≠1→s.attack=[])∧(s.phase=1→s.struck=true∧s.attack.length≤7∧s.attack.Nodup∧∀a∈s.attack,(unitR s a).2.2=true∧(unitR s a).1=s.mover)
def HdP(s:St):Prop:=1≤s.turn∧s.turn≤4096∧0≤s.mover∧s.mover≤1∧0≤s.phase∧s.phase≤2∧0≤s.result∧s.result≤3∧((s.result==0)==(s.phase != 2))=true∧1≤s.next∧s.next≤1000000
structure MayP (b:Bk) (s:St):Prop where
 hd:HdP s
 s0:SideP b s.s0
 s1:SideP b s.s1
 un:UnP b s
 at_:AtP s
theorem YM{e:Int}{b:Bk}{s:St}:mayR e b s true=true↔e=0∧MayP b s:=by
 simp only[mayR,Qt,Bool.and_eq_true,decide_eq_true_eq,YcR];constructor
 ·rintro⟨h1,h2,h3,h4,h5,h6,h7,h8,h9,h10,h11,h12,⟨k1,k2,k3,k4⟩,h14⟩;refine⟨h1,⟨h2,h3,h4,h5,h6,h7,h8,h9,h10,h11,h12⟩,k1,k3,YcV.1 ⟨k2,k4⟩,?_,?_⟩
  ·intro hp;rw[if_pos hp] at h14;exact List.length_eq_zero_iff.1 (of_decide_eq_true h14)
  ·intro hp;rw[if_neg (by simpa using hp)] at h14;simp only[Bool.and_eq_true,decide_eq_true_eq] at h14;obtain⟨_,q1,q2,q3⟩:=h14;obtain⟨r1,r2,_⟩:=YaS.1 q3;exact⟨q1,by omega,r2,r1⟩
 ·rintro⟨h1,⟨h2,h3,h4,h5,h6,h7,h8,h9,h10,h11,h12⟩,k1,k3,hu,ha1,ha2⟩;obtain⟨k2,k4⟩:=YcV.2 hu;refine⟨h1,h2,h3,h4,h5,h6,h7,h8,h9,h10,h11,h12,⟨k1,k2,k3,k4⟩,?_⟩;by_cases hp:s.phase≠1
  ·rw[if_pos hp,ha1 hp]; rfl
  ·rw[if_neg hp];obtain⟨q1,q2,q3,q4⟩:=ha2 (by simpa using hp);simp only[Bool.and_eq_true,decide_eq_true_eq];exact⟨by simp,q1,by omega,YaS.2 ⟨q4,q3,by simp⟩⟩
def Zk(s:St):Int:=((s.s0.deck.length:Int)+s.s0.hand.length+s.s0.grave.length+s.s0.units.length)+(s.s1.deck.length+s.s1.hand.length+s.s1.grave.length+s.s1.units.length)
theorem ZN{n:Nat}{c:Int}{l:List Int}{most:Int}(h:Zm n (c::l) most=true):Zm n l most=true∧0≤c∧c<n:=by
 rw[Qr] at h ⊢;obtain⟨h1,h2⟩:=h;simp only[List.length_cons] at h1;exact⟨⟨by omega,λx hx=>h2 x (List.mem_cons_of_mem _ hx)⟩,h2 c (List.mem_cons_self ..)⟩
theorem Xs{n:Nat}{c:Int}{l:List Int}{most:Int}(h:Zm n l most=true)(hc:0≤c∧c<n)(hl:(l.length:Int)+1≤most):Zm n (l++[c]) most=true:=by
 grind [Qr]
theorem QcE{l:List Th}{a:Int}:fnd l a=none↔a∉l.map Th.id:=by
 simp[fnd]
def InS(s:St)(a k:Int):Prop:=(unitR s a).2.2=true∧(unitR s a).1=k
theorem inS0{s:St}{a:Int}:InS s a 0↔a∈s.s0.units.map Th.id:=by
 grind [InS,unitR,fnd]
theorem inS1{s:St}{a:Int}:InS s a 1↔a∉s.s0.units.map Th.id∧a∈s.s1.units.map Th.id:=by
 unfold InS unitR;have h:=QcE (l:=s.s0.units) (a:=a);have h1:=QcE (l:=s.s1.units) (a:=a)
 grind
theorem Qbl{s t:St}(h:AtP s)(hm:0≤s.mover∧s.mover≤1)(e1:t.phase=s.phase)(e2:t.struck=s.struck)(e3:t.mover=s.mover)(hs:t.attack.Sublist s.attack)
 (k0:∀a∈t.attack,a∈s.s0.units.map Th.id→a∈t.s0.units.map Th.id)(k1:∀a∈t.attack,a∈s.s1.units.map Th.id→a∉s.s0.units.map Th.id→a∈t.s1.units.map Th.id∧a∉t.s0.units.map Th.id):AtP t:=by
 refine⟨λhp=>?_,λhp=>?_⟩
 ·have:=h.1 (by rw[←e1]; exact hp);simp_all
 ·obtain⟨q1,q2,q3,q4⟩:=h.2 (by rw[←e1]; exact hp);refine⟨by rw[e2]; exact q1,Nat.le_trans hs.length_le q2,q3.sublist hs,λa ha=>?_⟩;have hq:=q4 a (hs.subset ha);rw[e3];rcases (show s.mover=0∨s.mover=1 by omega) with e|e
  ·rw[e] at hq ⊢;exact inS0.2 (k0 a ha (inS0.1 hq))
  ·rw[e] at hq ⊢;obtain⟨r1,r2⟩:=inS1.1 hq;obtain⟨t1,t2⟩:=k1 a ha r2 r1;exact inS1.2 ⟨t2,t1⟩
theorem XaV(s:St)(h:(drawF s 0).2.2=0):(wIn (s.s0.life-1)=true∧drawF s 0=({ s with s0:={ s.s0 with life:=s.s0.life-1 } },⟨3,0,-1,0,0,0,[]⟩,0)) ∨
  (∃c l,s.s0.deck=c::l∧drawF s 0=({ s with s0:={ s.s0 with deck:=l,grave:=s.s0.grave++[c],told:=s.s0.told++[c] },s1:={ s.s1 with told:=s.s1.told++[c] } },⟨4,0,c,0,0,0,[]⟩,0))∨(∃c l,s.s0.deck=c::l∧s.s0.hand.length<10∧drawF s 0=({ s with s0:={ s.s0 with deck:=l,hand:=s.s0.hand++[c],told:=s.s0.told++[c] } },⟨3,0,c,0,0,0,[]⟩,0)):=by
 cases hd:s.s0.deck with
 |nil=>
  have e:drawF s 0=if wIn (s.s0.life-1) then ({ s with s0:={ s.s0 with life:=s.s0.life-1 } },⟨3,0,-1,0,0,0,[]⟩,0) else (zSt,zEv,171):=by
   show (match s.s0.deck with | []=>_|c::l=>_)=_;rw[hd]; rfl
  grind
 |cons c l=>
  right;by_cases hh:10≤s.s0.hand.length
  ·left;refine⟨c,l,rfl,?_⟩;show (match s.s0.deck with | []=>_|c::l=>_)=_;rw[hd]; show (if 10≤s.s0.hand.length then _ else _)=_;rw[if_pos hh]; rfl
  ·right;refine⟨c,l,rfl,by omega,?_⟩;show (match s.s0.deck with | []=>_|c::l=>_)=_;rw[hd]; show (if 10≤s.s0.hand.length then _ else _)=_;rw[if_neg hh]; rfl
theorem ZaW{b:Bk}{s:St}(hM:MayP b s)(h:(drawF s 0).2.2=0)(g0:s.s0.grave.length<1000000)(t0:s.s0.told.length<1000000)(t1:s.s1.told.length<1000000):MayP b (drawF s 0).1∧Zk (drawF s 0).1=Zk s:=by
 have S:=hM.s0;rcases XaV s h with ⟨hw,e⟩|⟨c,l,hd,e⟩|⟨c,l,hd,hh,e⟩
 ·rw[e];refine⟨⟨hM.hd,⟨hw,S.mana,S.most,S.deck,S.hand,S.grave,S.told,S.units⟩,hM.s1,hM.un,hM.at_⟩,rfl⟩
 ·rw[e];have hdk:=S.deck;rw[hd] at hdk;obtain⟨d1,d2⟩:=ZN hdk;have hl:s.s0.deck.length=l.length+1:=by rw[hd]; rfl
  refine⟨⟨hM.hd,⟨S.life,S.mana,S.most,d1,S.hand,Xs S.grave d2 (by omega),Xs S.told d2 (by omega),S.units⟩,⟨hM.s1.life,hM.s1.mana,hM.s1.most,hM.s1.deck,hM.s1.hand,hM.s1.grave,Xs hM.s1.told d2 (by omega),hM.s1.units⟩,hM.un,hM.at_⟩,by simp[Zk,hl]; omega⟩
 ·rw[e];have hdk:=S.deck;rw[hd] at hdk;obtain⟨d1,d2⟩:=ZN hdk;have hl:s.s0.deck.length=l.length+1:=by rw[hd]; rfl
  refine⟨⟨hM.hd,⟨S.life,S.mana,S.most,d1,Xs S.hand d2 (by omega),S.grave,Xs S.told d2 (by omega),S.units⟩,hM.s1,hM.un,hM.at_⟩,by simp[Zk,hl]; omega⟩
theorem QaV(s:St)(h:(drawF s 1).2.2=0):(wIn (s.s1.life-1)=true∧drawF s 1=({ s with s1:={ s.s1 with life:=s.s1.life-1 } },⟨3,1,-1,0,0,0,[]⟩,0)) ∨
  (∃c l,s.s1.deck=c::l∧drawF s 1=({ s with s1:={ s.s1 with deck:=l,grave:=s.s1.grave++[c],told:=s.s1.told++[c] },s0:={ s.s0 with told:=s.s0.told++[c] } },⟨4,1,c,0,0,0,[]⟩,0))∨(∃c l,s.s1.deck=c::l∧s.s1.hand.length<10∧drawF s 1=({ s with s1:={ s.s1 with deck:=l,hand:=s.s1.hand++[c],told:=s.s1.told++[c] } },⟨3,1,c,0,0,0,[]⟩,0)):=by
 cases hd:s.s1.deck with
 |nil=>
  have e:drawF s 1=if wIn (s.s1.life-1) then ({ s with s1:={ s.s1 with life:=s.s1.life-1 } },⟨3,1,-1,0,0,0,[]⟩,0) else (zSt,zEv,171):=by
   show (match s.s1.deck with | []=>_|c::l=>_)=_;rw[hd]; rfl
  grind
 |cons c l=>
  right;by_cases hh:10≤s.s1.hand.length
  ·left;refine⟨c,l,rfl,?_⟩;show (match s.s1.deck with | []=>_|c::l=>_)=_;rw[hd]; show (if 10≤s.s1.hand.length then _ else _)=_;rw[if_pos hh]; rfl
  ·right;refine⟨c,l,rfl,by omega,?_⟩;show (match s.s1.deck with | []=>_|c::l=>_)=_;rw[hd]; show (if 10≤s.s1.hand.length then _ else _)=_;rw[if_neg hh]; rfl
theorem YaW{b:Bk}{s:St}(hM:MayP b s)(h:(drawF s 1).2.2=0)(g0:s.s1.grave.length<1000000)(t0:s.s0.told.length<1000000)(t1:s.s1.told.length<1000000):MayP b (drawF s 1).1∧Zk (drawF s 1).1=Zk s:=by
 have S:=hM.s1;rcases QaV s h with ⟨hw,e⟩|⟨c,l,hd,e⟩|⟨c,l,hd,hh,e⟩
 ·rw[e];refine⟨⟨hM.hd,hM.s0,⟨hw,S.mana,S.most,S.deck,S.hand,S.grave,S.told,S.units⟩,hM.un,hM.at_⟩,rfl⟩
 ·rw[e];have hdk:=S.deck;rw[hd] at hdk;obtain⟨d1,d2⟩:=ZN hdk;have hl:s.s1.deck.length=l.length+1:=by rw[hd]; rfl
  refine⟨⟨hM.hd,⟨hM.s0.life,hM.s0.mana,hM.s0.most,hM.s0.deck,hM.s0.hand,hM.s0.grave,Xs hM.s0.told d2 (by omega),hM.s0.units⟩,⟨S.life,S.mana,S.most,d1,S.hand,Xs S.grave d2 (by omega),Xs S.told d2 (by omega),S.units⟩,hM.un,hM.at_⟩,by simp[Zk,hl]; omega⟩
 ·rw[e];have hdk:=S.deck;rw[hd] at hdk;obtain⟨d1,d2⟩:=ZN hdk;have hl:s.s1.deck.length=l.length+1:=by rw[hd]; rfl
  refine⟨⟨hM.hd,hM.s0,⟨S.life,S.mana,S.most,d1,Xs S.hand d2 (by omega),S.grave,Xs S.told d2 (by omega),S.units⟩,hM.un,hM.at_⟩,by simp[Zk,hl]; omega⟩
theorem Xa6{b:Bk}{n:Int}{u:Th}(h:Zp b n u=true):Zp b (n+1) u=true:=by
 simp only[Zp,Bool.and_eq_true,decide_eq_true_eq] at h ⊢
 grind
theorem XcV{b:Bk}{n:Int}{u:Th}(h:Zp b n u=true):u.id<n:=by
 simp_all [Zp]
theorem Yb9{b:Bk}{s:St}(h:UnP b s):s.next∉(s.s0.units++s.s1.units).map Th.id:=by
 intro hm;obtain⟨u,hu,e⟩:=List.mem_map.1 hm;have:=XcV (h.1 u hu);omega
theorem QcQ{l:List Th}{k:Nat}{u v:Th}(h:l[k]?=some u)(e:v.id=u.id):(l.set k v).map Th.id=l.map Th.id:=by
 rw[List.map_set,e];have hk:k<l.length:=(YLG h).1;have h2:(l.map Th.id)[k]?=some u.id:=by rw[List.getElem?_map,h]; rfl
 obtain⟨hk2,h3⟩:=YLG h2;rw[←h3,List.set_getElem_self]
theorem Xb9{n:Int}(h0:0≤n)(h1:n<13835058055282163712)(h:wIn (IntKind.i64.wrap n)=true):0≤IntKind.i64.wrap n:=by
 grind [IntKind.wrap,IntKind.bits,Yal]
theorem Ydv(n:Int):IntKind.i64.wrap n<9223372036854775808:=by
 grind [IntKind.wrap,IntKind.signed,IntKind.bits]
theorem Xcr(n:Int):0≤cap4 n∧cap4 n≤4000000:=by unfold cap4; omega
theorem XaH{b:Bk}{s:St}{c:Int}(hM:MayP b s)(h:Yab b s 0 c=false):MayP b (QC s 0 c)∧Zk (QC s 0 c)=Zk s+1:=by
 simp only[Yab,Bool.or_eq_false_iff,decide_eq_false_iff_not] at h;obtain⟨⟨⟨⟨h1,h2⟩,h3⟩,h4⟩,h5⟩:=h;have h4:¬7≤(s.s0.units.length:Int):=h4;obtain⟨d1,d2,d3,d4,d5,d6,d7,d8,d9,d10,d11⟩:=hM.hd;have hnx:=Yb9 hM.un;have S:=hM.s0;refine⟨⟨⟨d1,d2,d3,d4,d5,d6,d7,d8,d9,by show 1≤s.next+1; omega,by show s.next+1≤1000000; omega⟩,⟨S.life,S.mana,S.most,S.deck,S.hand,S.grave,S.told,by show (s.s0.units++[_]).length≤7; simp; omega⟩,hM.s1,⟨?_,?_⟩,?_⟩,?_⟩
 ·intro u hu;show Zp b (s.next+1) u=true;have hu:u∈s.s0.units++s.s1.units∨u=(⟨s.next,c,0,true⟩:Th):=by
   have:u∈(s.s0.units++[(⟨s.next,c,0,true⟩:Th)])++s.s1.units:=hu
   grind
  rcases hu with hu|rfl
  ·exact Xa6 (hM.un.1 u hu)
  ·have hc:c.toNat<b.cards.length:=by omega
   simp only[Zp,Bool.and_eq_true,decide_eq_true_eq]
   grind
 ·have e:((QC s 0 c).s0.units++(QC s 0 c).s1.units).map Th.id=s.s0.units.map Th.id++s.next::s.s1.units.map Th.id:=by
   show ((s.s0.units++[(⟨s.next,c,0,true⟩:Th)])++s.s1.units).map Th.id=_;simp
  rw[e,List.perm_middle.nodup_iff,List.nodup_cons];rw[←List.map_append];exact⟨hnx,hM.un.2⟩
 ·refine Qbl hM.at_ ⟨d3,d4⟩ rfl rfl rfl (List.Sublist.refl _) (λa _ ha=>?_) (λa _ ha hn=>⟨?_,?_⟩)
  ·show a∈(s.s0.units++[_]).map Th.id; simp_all
  ·exact ha
  ·show a∉(s.s0.units++[_]).map Th.id; grind
 ·show ((s.s0.deck.length:Int)+s.s0.hand.length+s.s0.grave.length+(s.s0.units++[(⟨s.next,c,0,true⟩:Th)]).length)+(s.s1.deck.length+s.s1.hand.length+s.s1.grave.length+s.s1.units.length)=_;simp[Zk]; omega
theorem QaH{b:Bk}{s:St}{c:Int}(hM:MayP b s)(h:Yab b s 1 c=false):MayP b (QC s 1 c)∧Zk (QC s 1 c)=Zk s+1:=by
 simp only[Yab,Bool.or_eq_false_iff,decide_eq_false_iff_not] at h;obtain⟨⟨⟨⟨h1,h2⟩,h3⟩,h4⟩,h5⟩:=h;have h4:¬7≤(s.s1.units.length:Int):=h4;obtain⟨d1,d2,d3,d4,d5,d6,d7,d8,d9,d10,d11⟩:=hM.hd;have hnx:=Yb9 hM.un;have S:=hM.s1;refine⟨⟨⟨d1,d2,d3,d4,d5,d6,d7,d8,d9,by show 1≤s.next+1; omega,by show s.next+1≤1000000; omega⟩,hM.s0,⟨S.life,S.mana,S.most,S.deck,S.hand,S.grave,S.told,by show (s.s1.units++[_]).length≤7; simp; omega⟩,⟨?_,?_⟩,?_⟩,?_⟩
 ·intro u hu;show Zp b (s.next+1) u=true;have hu:u∈s.s0.units++s.s1.units∨u=(⟨s.next,c,0,true⟩:Th):=by
   have:u∈s.s0.units++(s.s1.units++[(⟨s.next,c,0,true⟩:Th)]):=hu
   grind
  rcases hu with hu|rfl
  ·exact Xa6 (hM.un.1 u hu)
  ·have hc:c.toNat<b.cards.length:=by omega
   simp only[Zp,Bool.and_eq_true,decide_eq_true_eq]
   grind
 ·have e:((QC s 1 c).s0.units++(QC s 1 c).s1.units).map Th.id=(s.s0.units++s.s1.units).map Th.id++s.next::[]:=by
   show (s.s0.units++(s.s1.units++[(⟨s.next,c,0,true⟩:Th)])).map Th.id=_;simp
  rw[e,List.perm_middle.nodup_iff,List.nodup_cons];rw[List.append_nil];exact⟨hnx,hM.un.2⟩
 ·refine Qbl hM.at_ ⟨d3,d4⟩ rfl rfl rfl (List.Sublist.refl _) (λa _ ha=>?_) (λa _ ha hn=>⟨?_,?_⟩)
  ·exact ha
  ·show a∈(s.s1.units++[_]).map Th.id; simp_all
  ·exact hn
 ·show ((s.s0.deck.length:Int)+s.s0.hand.length+s.s0.grave.length+s.s0.units.length)+(s.s1.deck.length+s.s1.hand.length+s.s1.grave.length+(s.s1.units++[(⟨s.next,c,0,true⟩:Th)]).length)=_;simp[Zk]; omega
theorem Ya6{b:Bk}{n h:Int}{u:Th}(k:Zp b n u=true)(h0:0≤h)(h1:h≤1000000):Zp b n { u with harm:=h }=true:=by
 simp only[Zp,Bool.and_eq_true,decide_eq_true_eq] at k ⊢
 grind
theorem YaL{b:Bk}{n:Int}{u:Th}(k:Zp b n u=true):0≤u.harm∧u.harm≤1000000:=by
 simp_all [Zp]
theorem Xb4{l:List Th}{k:Nat}{v u:Th}(h:u∈l.set k v):u∈l∨u=v:=List.mem_or_eq_of_mem_set h
theorem YbV{b:Bk}{s:St}(hM:MayP b s){k:Nat}{u:Th}(hk:s.s0.units[k]?=some u){h:Int}(h0:0≤h)(h1:h≤1000000):MayP b { s with s0:={ s.s0 with units:=s.s0.units.set k { u with harm:=h } } }∧Zk { s with s0:={ s.s0 with units:=s.s0.units.set k { u with harm:=h } } }=Zk s:=by
 have S:=hM.s0;have hu:u∈s.s0.units:=List.mem_of_getElem? hk;have hi:(s.s0.units.set k { u with harm:=h }).map Th.id=s.s0.units.map Th.id:=QcQ hk rfl;have N:SideP b { s.s0 with units:=s.s0.units.set k { u with harm:=h } }:=⟨S.life,S.mana,S.most,S.deck,S.hand,S.grave,S.told,by show (s.s0.units.set k _).length≤7; rw[List.length_set]; exact S.units⟩;refine⟨⟨hM.hd,N,hM.s1,⟨λv hv=>?_,?_⟩,?_⟩,?_⟩
 ·have hv:v∈(s.s0.units.set k { u with harm:=h })++s.s1.units:=hv;rcases List.mem_append.1 hv with hv|hv
  ·rcases Xb4 hv with hv|rfl; exact hM.un.1 v (List.mem_append_left _ hv); exact Ya6 (hM.un.1 u (List.mem_append_left _ hu)) h0 h1
  ·exact hM.un.1 v (List.mem_append_right _ hv)
 ·have e:((s.s0.units.set k { u with harm:=h })++s.s1.units).map Th.id=(s.s0.units++s.s1.units).map Th.id:=by rw[List.map_append,List.map_append,hi]
  show (((s.s0.units.set k { u with harm:=h })++s.s1.units).map Th.id).Nodup;rw[e]; exact hM.un.2
 ·refine Qbl hM.at_ ⟨hM.hd.2.2.1,hM.hd.2.2.2.1⟩ rfl rfl rfl (List.Sublist.refl _) (λa _ ha=>?_) (λa _ ha hn=>⟨?_,?_⟩)
  ·show a∈(s.s0.units.set k _).map Th.id; rw[hi]; exact ha
  ·exact ha
  ·show a∉(s.s0.units.set k _).map Th.id; rw[hi]; exact hn
 ·simp[Zk]
theorem QaZ{b:Bk}{s:St}(hM:MayP b s){n:Int}(hw:wIn n=true):MayP b { s with s0:={ s.s0 with life:=n } }∧Zk { s with s0:={ s.s0 with life:=n } }=Zk s:=by
 have S:=hM.s0;exact⟨⟨hM.hd,⟨hw,S.mana,S.most,S.deck,S.hand,S.grave,S.told,S.units⟩,hM.s1,hM.un,hM.at_⟩,rfl⟩
theorem XbV{b:Bk}{s:St}(hM:MayP b s){k:Nat}{u:Th}(hk:s.s1.units[k]?=some u){h:Int}(h0:0≤h)(h1:h≤1000000):MayP b { s with s1:={ s.s1 with units:=s.s1.units.set k { u with harm:=h } } }∧Zk { s with s1:={ s.s1 with units:=s.s1.units.set k { u with harm:=h } } }=Zk s:=by
 have S:=hM.s1;have hu:u∈s.s1.units:=List.mem_of_getElem? hk;have hi:(s.s1.units.set k { u with harm:=h }).map Th.id=s.s1.units.map Th.id:=QcQ hk rfl;have N:SideP b { s.s1 with units:=s.s1.units.set k { u with harm:=h } }:=⟨S.life,S.mana,S.most,S.deck,S.hand,S.grave,S.told,by show (s.s1.units.set k _).length≤7; rw[List.length_set]; exact S.units⟩;refine⟨⟨hM.hd,hM.s0,N,⟨λv hv=>?_,?_⟩,?_⟩,?_⟩
 ·have hv:v∈s.s0.units++(s.s1.units.set k { u with harm:=h }):=hv;rcases List.mem_append.1 hv with hv|hv
  ·exact hM.un.1 v (List.mem_append_left _ hv)
  ·rcases Xb4 hv with hv|rfl; exact hM.un.1 v (List.mem_append_right _ hv); exact Ya6 (hM.un.1 u (List.mem_append_right _ hu)) h0 h1
 ·have e:(s.s0.units++(s.s1.units.set k { u with harm:=h })).map Th.id=(s.s0.units++s.s1.units).map Th.id:=by rw[List.map_append,List.map_append,hi]
  show ((s.s0.units++(s.s1.units.set k { u with harm:=h })).map Th.id).Nodup;rw[e]; exact hM.un.2
 ·refine Qbl hM.at_ ⟨hM.hd.2.2.1,hM.hd.2.2.2.1⟩ rfl rfl rfl (List.Sublist.refl _) (λa _ ha=>?_) (λa _ ha hn=>⟨?_,?_⟩)
  ·exact ha
  ·show a∈(s.s1.units.set k _).map Th.id; rw[hi]; exact ha
  ·exact hn
 ·simp[Zk]
theorem Za0{b:Bk}{s:St}(hM:MayP b s){n:Int}(hw:wIn n=true):MayP b { s with s1:={ s.s1 with life:=n } }∧Zk { s with s1:={ s.s1 with life:=n } }=Zk s:=by
 have S:=hM.s1;exact⟨⟨hM.hd,hM.s0,⟨hw,S.mana,S.most,S.deck,S.hand,S.grave,S.told,S.units⟩,hM.un,hM.at_⟩,rfl⟩
theorem Ybx{b:Bk}{s:St}{kd id sd:Int}{fP:Int→Int×Int}{fU:Th→Int×Int}(hM:MayP b s)(hP:∀l,0≤(fP l).2)(hU:∀u,0≤u.harm→u.harm≤1000000→0≤(fU u).2∧(wIn (fU u).1=true→0≤(fU u).1))(h0:sd=0∨sd=1)(h:(chgF kd fP fU s id sd).2.2=0) :
  MayP b (chgF kd fP fU s id sd).1∧Zk (chgF kd fP fU s id sd).1=Zk s∧0≤(chgF kd fP fU s id sd).2.1.n:=by
 have z:∀(x:Int),x≠0→(zSt,zEv,x).2.2=0→False:=λx hx h=>hx h;unfold chgF at h ⊢;by_cases hid:id=0
 ·rw[if_pos hid] at h ⊢;unfold chgP at h ⊢;by_cases hw:wIn (fP (s.side sd).life).1=true
  ·rw[if_pos hw];rcases h0 with rfl|rfl
   ·exact⟨(QaZ hM hw).1,(QaZ hM hw).2,hP _⟩
   ·exact⟨(Za0 hM hw).1,(Za0 hM hw).2,hP _⟩
  simp_all
 rw[if_neg hid] at h ⊢;by_cases hid2:id<0
 ·simp_all
 rw[if_neg hid2] at h ⊢;cases q0:fnd s.s0.units id with
 |some k=>
  obtain⟨u,hk,_⟩:=Qbd q0;rw[q0] at h;simp only[hk,Option.getD_some] at h ⊢;have hh:=YaL (hM.un.1 u (List.mem_append_left _ (List.mem_of_getElem? hk)));obtain⟨k1,k2⟩:=hU u hh.1 hh.2;unfold chgU at h ⊢;by_cases hw:wIn (fU u).1=true
  ·rw[if_pos hw];have:=YbV hM hk (k2 hw) (Yal.1 hw).2;exact⟨this.1,this.2,k1⟩
  simp_all
 |none=>
  rw[q0] at h;cases q1:fnd s.s1.units id with
  |none=>simp_all
  |some k=>
   obtain⟨u,hk,_⟩:=Qbd q1;rw[q1] at h;simp only[hk,Option.getD_some] at h ⊢;have hh:=YaL (hM.un.1 u (List.mem_append_right _ (List.mem_of_getElem? hk)));obtain⟨k1,k2⟩:=hU u hh.1 hh.2;unfold chgU at h ⊢;by_cases hw:wIn (fU u).1=true
   ·rw[if_pos hw];have:=XbV hM hk (k2 hw) (Yal.1 hw).2;exact⟨this.1,this.2,k1⟩
   simp_all
theorem Zbe{b:Bk}{s:St}{id sd n:Int}(hM:MayP b s)(h0:sd=0∨sd=1)(h:(harmF b s id sd n).2.2=0):MayP b (harmF b s id sd n).1∧Zk (harmF b s id sd n).1=Zk s∧0≤(harmF b s id sd n).2.1.n:=by
 refine Ybx hM (λl=>(Xcr n).1) (λu h1 h2=>?_) h0 h;have hh:0≤hurt b u (cap4 n)∧hurt b u (cap4 n)<9223372036854775808:=by
  unfold hurt;have:=Ydv (cap4 n-ZaS b u.card);omega
 grind [Xb9]
theorem Xbg{b:Bk}{s:St}{id sd n:Int}(hM:MayP b s)(h0:sd=0∨sd=1)(h:(mendF s id sd n).2.2=0):MayP b (mendF s id sd n).1∧Zk (mendF s id sd n).1=Zk s∧0≤(mendF s id sd n).2.1.n:=by
 have hc:=Xcr n;refine Ybx hM (λl=>hc.1) (λu h1 h2=>?_) h0 h
 grind [Xb9]
end Go.Ah.Tz
end
section
namespace Go.Ah.Tz
open Go.Proofs.Tryz (prog)
attribute [local irreducible] Ans.rd Ans.pu Ans.wr Ans.dr Ans.gr Ans.gw Ans.gl Ans.gd Ans.opt joinK W
set_option maxHeartbeats 4000000
theorem w69(x:AVal)(τ:List ABlk)(K:AVal→List ABlk→Prop)(h:K (.func (.func 84) [x] []) τ):g83.u VV [x] τ K:=by
 rw[H1.e]; unfold g83; dsimp only;exact Za rfl h
theorem c70n(m:List AVal)(life n:Int):PC 84 [.rptr m 0,.nilp,iv life,iv n] (.tup [iv (IntKind.i64.wrap (life+n)),iv n]):=by
 refine Qb hP g84.ok rfl rfl ?_;rw[H4.e]; unfold g84; dsimp only;exact Za rfl (Yd (Za (Yh ..) rfl))
theorem c70u(b:Bk)(m:List AVal)(u:Th)(life n:Int):PC 84 [.rptr (.rptr (bkC b) 0::m) 0,.rptr (thC u) 0,iv life,iv n] (.tup [iv (IntKind.i64.wrap (u.harm-min n u.harm)),iv (min n u.harm)]):=by
 refine Qb hP g84.ok rfl rfl ?_;rw[H4.e]; unfold g84; dsimp only;exact Za rfl (Qc (Za rfl (Za rfl (Za (ldr rfl) (Za (YF ..) (Za rfl (Za rfl (Za (ldr rfl) (Za (Za8 ..) rfl)))))))))
theorem c26(b:Bk)(hf:bkFit b=true)(hsm:Qj b.cards)(s:St)(hs:StLe 2000000 s)(hm:mayR (bkR b).1 b s true=true)(id sd n:Int)(h0:sd=0∨sd=1):PC 53 [bkV b,stV s,iv id,iv sd,iv n] (resV (mendF s id sd n)):=
 cT hf hsm hs hm (show GQ 53 5 (gT 6 83) from g53.ok) g83.ok w69 g84.ok.plain id sd n h0 (λm life=>c70n m life _) (λm u life _ _=>c70u b m u life _)
def sizeN(s:St):Int:=s.attack.length+(s.s0.deck.length+s.s0.hand.length+s.s0.grave.length+s.s0.units.length+s.s0.told.length)+(s.s1.deck.length+s.s1.hand.length+s.s1.grave.length+s.s1.units.length+s.s1.told.length)
end Go.Ah.Tz
end
section
namespace Go.Ah.Tz
open Go.Proofs.Tryz (prog)
attribute [local irreducible] Ans.rd Ans.pu Ans.wr Ans.dr Ans.gr Ans.gw Ans.gl Ans.gd Ans.opt joinK W
set_option maxHeartbeats 8000000
def runF(go:Int→Bool)(step:Nat→Int→Int):Nat→Nat→Int→Int
 |0,_,a=>a
 |k+1,i,a=>if go a=true then runF go step k (i+1) (step i a) else a
theorem QaF{go:Int→Bool}{step:Nat→Int→Int}{n i:Nat}{a r:Int}(h:i<n)(hg:go a=true)(hr:runF go step (n-i) i a=r):runF go step (n-(i+1)) (i+1) (step i a)=r:=by
 rw[show n-i=n-(i+1)+1 by omega,runF,if_pos hg] at hr; exact hr
theorem Xan{go:Int→Bool}{step:Nat→Int→Int}{n i:Nat}{a r:Int}(h:¬i<n∨go a=false)(hr:runF go step (n-i) i a=r):a=r:=by
 cases k:n-i with
 |zero=>rw[k] at hr; exact hr
 |succ m=>
  rcases h with h|h
  ·omega
  ·rw[k,runF,if_neg (by rw[h]; simp)] at hr; exact hr
theorem c174(k:Nat):∀x:Nm,SizeOf.sizeOf x≤k→nmFit x=true→∃n,PC 23 [.agg (nmC x)] (iv n):=by
 induction k with
 |zero=>intro x h _; cases x; simp at h
 |succ k ih=>
  intro x hk hf;have hl:=X7 hf;rw[bigE] at hl;have hF:∃F:Nat→Int,∀i (h:i<x.kids.length),PC 23 [.agg (nmC x.kids[i])] (iv (F i)):=by
   refine Classical.axiomOfChoice (r:=λ(i:Nat) (n:Int)=>∀(h:i<x.kids.length),PC 23 [.agg (nmC x.kids[i])] (iv n)) (λi=>?_);by_cases h:i<x.kids.length
   ·have hm:=List.getElem_mem h;obtain⟨n,hn⟩:=ih x.kids[i] (by have:=Xac hm; omega) (XO hf hm);exact⟨n,λ_=>hn⟩
   ·exact⟨0,λh'=>(h h').elim⟩
  obtain⟨F,hF⟩:=hF;rw[Qx];generalize hr:runF (λ_=>true) (λi a=>min (IntKind.i64.wrap (a+F i)) 100000) (x.kids.length-0) 0 1=r;refine⟨r,Qb hP g23.ok rfl rfl ?_⟩;rw[H1.e]; unfold g23; dsimp only;refine Yc rfl rfl ?_;refine Xj (ι:=Nat) (λi vs σ=>(∃a,vs=[iv i,iv a]∧runF (λ_=>true) (λi a=>min (IntKind.i64.wrap (a+F i)) 100000) (x.kids.length-i) i a=r)∧hget σ 0=.box [iv8 x.op,iv x.n,iv8 x.who,.rsl false false 4 (x.kids.map nmC)]∧i≤x.kids.length) (λi=>x.kids.length-i) 0 ⟨⟨1,rfl,hr⟩,rfl,by omega⟩ ?_;rintro i vs σ again ⟨⟨a,rfl,hr⟩,hB,hi⟩ hag;refine Za rfl (Za (ld hB rfl) (Za (Yf ..) ?_));rw[List.length_map];refine Za (XP ..) (Zb (λh=>?_) (λh=>?_))
  ·have h:i<x.kids.length:=by simpa using h
   refine Za rfl (Za (ld hB rfl) (Za (Yo _ nmC false false 4 x.kids .i64 i h) (Za (v:=.agg (nmC x.kids[i])) (ldr (by rw[Qx]; rfl)) ?_)));refine Xb (hF i h) rfl g23.ok.plain (by rw[Qx]; rfl) (Za (Yh ..) (Za (YF ..) (Za (Yh ..) ?_)));rw[Qd (n:=i) (by omega)];exact hag (i+1) _ _ (by omega) ⟨⟨_,rfl,QaF h rfl hr⟩,hB,by omega⟩
  ·exact congrArg iv (Xan (.inl (by simpa using h)) hr)
theorem c175(k:Nat):∀x:Cn,SizeOf.sizeOf x≤k→cnFit x=true→∃n,PC 24 [.agg (cnC x)] (iv n):=by
 induction k with
 |zero=>intro x h _; cases x; simp at h
 |succ k ih=>
  intro x hk hf;have hl1:=QQ hf;have hl2:=XQ hf;rw[bigE] at hl1 hl2;have hF:∃F:Nat→Int,∀i (h:i<x.nums.length),PC 23 [.agg (nmC x.nums[i])] (iv (F i)):=by
   refine Classical.axiomOfChoice (r:=λ(i:Nat) (n:Int)=>∀(h:i<x.nums.length),PC 23 [.agg (nmC x.nums[i])] (iv n)) (λi=>?_);by_cases h:i<x.nums.length
   ·obtain⟨n,hn⟩:=c174 _ x.nums[i] (Nat.le_refl _) (QT hf (List.getElem_mem h));exact⟨n,λ_=>hn⟩
   ·exact⟨0,λh'=>(h h').elim⟩
  have hG:∃F:Nat→Int,∀i (h:i<x.kids.length),PC 24 [.agg (cnC x.kids[i])] (iv (F i)):=by
   refine Classical.axiomOfChoice (r:=λ(i:Nat) (n:Int)=>∀(h:i<x.kids.length),PC 24 [.agg (cnC x.kids[i])] (iv n)) (λi=>?_);by_cases h:i<x.kids.length
   ·have hm:=List.getElem_mem h;obtain⟨n,hn⟩:=ih x.kids[i] (by have:=Xag hm; omega) (XT hf hm);exact⟨n,λ_=>hn⟩
   ·exact⟨0,λh'=>(h h').elim⟩
  obtain⟨F,hF⟩:=hF;obtain⟨G,hG⟩:=hG;rw[ZF];generalize hr:runF (λ_=>true) (λi a=>min (IntKind.i64.wrap (a+F i)) 100000) (x.nums.length-0) 0 1=r;generalize hr2:runF (λ_=>true) (λi a=>min (IntKind.i64.wrap (a+G i)) 100000) (x.kids.length-0) 0 r=r2;refine⟨r2,Qb hP g24.ok rfl rfl ?_⟩;rw[H1.e]; unfold g24; dsimp only;refine Yc rfl rfl ?_;refine Xj (ι:=Nat) (λi vs σ=>(∃a,vs=[iv i,iv a]∧runF (λ_=>true) (λi a=>min (IntKind.i64.wrap (a+F i)) 100000) (x.nums.length-i) i a=r)∧hget σ 0=.box [iv8 x.op,iv8 x.who,.str x.name,.rsl false false 4 (x.nums.map nmC),.rsl false false 5 (x.kids.map cnC)]∧i≤x.nums.length) (λi=>x.nums.length-i) 0 ⟨⟨1,rfl,hr⟩,rfl,by omega⟩ ?_;rintro i vs σ again ⟨⟨a,rfl,hr⟩,hB,hi⟩ hag;refine Za rfl (Za (ld hB rfl) (Za (Yf ..) ?_));rw[List.length_map];refine Za (XP ..) (Zb (λh=>?_) (λh=>?_))
  ·have h:i<x.nums.length:=by simpa using h
   refine Za rfl (Za (ld hB rfl) (Za (Yo _ nmC false false 4 x.nums .i64 i h) (Za (v:=.agg (nmC x.nums[i])) (ldr (by rw[Qx]; rfl)) ?_)));refine Xb (hF i h) rfl g23.ok.plain (by rw[Qx]; rfl) (Za (Yh ..) (Za (YF ..) (Za (Yh ..) ?_)));rw[Qd (n:=i) (by omega)];exact hag (i+1) _ _ (by omega) ⟨⟨_,rfl,QaF h rfl hr⟩,hB,by omega⟩
  obtain rfl:=Xan (.inl (by simpa using h)) hr;clear hag again hr h hi;refine Xj (ι:=Nat) (λi vs σ=>(∃a,vs=[iv i,iv a]∧runF (λ_=>true) (λi a=>min (IntKind.i64.wrap (a+G i)) 100000) (x.kids.length-i) i a=r2)∧hget σ 0=.box [iv8 x.op,iv8 x.who,.str x.name,.rsl false false 4 (x.nums.map nmC),.rsl false false 5 (x.kids.map cnC)]∧i≤x.kids.length) (λi=>x.kids.length-i) 0 ⟨⟨_,rfl,hr2⟩,hB,by omega⟩ ?_;rintro i vs σ again ⟨⟨a,rfl,hr⟩,hB,hi⟩ hag;refine Za rfl (Za (ld hB rfl) (Za (Yf ..) ?_));rw[List.length_map];refine Za (XP ..) (Zb (λh=>?_) (λh=>?_))
  ·have h:i<x.kids.length:=by simpa using h
   refine Za rfl (Za (ld hB rfl) (Za (Yo _ cnC false false 5 x.kids .i64 i h) (Za (v:=.agg (cnC x.kids[i])) (ldr (by rw[ZF]; rfl)) ?_)));refine Xb (hG i h) rfl g24.ok.plain (by rw[ZF]; rfl) (Za (Yh ..) (Za (YF ..) (Za (Yh ..) ?_)));rw[Qd (n:=i) (by omega)];exact hag (i+1) _ _ (by omega) ⟨⟨_,rfl,QaF h rfl hr⟩,hB,by omega⟩
  ·exact congrArg iv (Xan (.inl (by simpa using h)) hr)
theorem told{α:Type}(l:List α){Q:α→Int→Prop}(h:∀x∈l,∃n,Q x n):∃F:Nat→Int,∀i (h:i<l.length),Q l[i] (F i):=by
 refine Classical.axiomOfChoice (r:=λ(i:Nat) (n:Int)=>∀(h:i<l.length),Q l[i] n) (λi=>?_);by_cases hi:i<l.length
 ·obtain⟨n,hn⟩:=h l[i] (List.getElem_mem hi);exact⟨n,λ_=>hn⟩
 ·exact⟨0,λh'=>(hi h').elim⟩
theorem c135(k:Nat):∀l:List Ef,SizeOf.sizeOf l≤k→lsFit l=true→∃n,PC 11 [efV l] (iv n):=by
 induction k with
 |zero=>intro l h _; cases l<;>simp at h
 |succ k ih=>
  intro l hk hf;have hl:=XB hf;rw[bigE] at hl;have hm:∀x∈l,efFit x=true∧SizeOf.sizeOf x<SizeOf.sizeOf l:=λx hx=>⟨by simp only[lsFit,Bool.and_eq_true] at hf; exact YaD hf.2 x hx,List.sizeOf_lt_of_mem hx⟩;obtain⟨F1,h1⟩:=told l (Q:=λx n=>PC 23 [.agg (nmC x.n)] (iv n)) (λx hx=>c174 _ x.n (Nat.le_refl _) (Z4 (hm x hx).1));obtain⟨F2,h2⟩:=told l (Q:=λx n=>PC 24 [.agg (cnC x.c)] (iv n)) (λx hx=>c175 _ x.c (Nat.le_refl _) (ZZ (hm x hx).1));obtain⟨F3,h3⟩:=told l (Q:=λx n=>PC 11 [efV x.thn] (iv n)) (λx hx=>ih x.thn (by grind [X1]) (YJ (hm x hx).1));obtain⟨F4,h4⟩:=told l (Q:=λx n=>PC 11 [efV x.els] (iv n)) (λx hx=>ih x.els (by grind [X1]) (ZJ (hm x hx).1))
  let st:Nat→Int→Int:=λi a=>IntKind.i64.wrap (IntKind.i64.wrap (IntKind.i64.wrap (IntKind.i64.wrap (a+F1 i)+F2 i)+F3 i)+F4 i)
  generalize hr:runF (λa=>decide (a<100000)) st (l.length-0) 0 l.length=r;refine⟨min r 100000,Qb hP g11.ok rfl rfl ?_⟩;rw[H1.e]; unfold g11; dsimp only;refine Za (Yf ..) ?_;rw[List.length_map];refine Xj (ι:=Nat) (λi vs σ=>(∃a,vs=[iv i,iv a]∧runF (λa=>decide (a<100000)) st (l.length-i) i a=r)∧i≤l.length) (λi=>l.length-i) 0 ⟨⟨_,rfl,hr⟩,by omega⟩ ?_;rintro i vs σ again ⟨⟨a,rfl,hr⟩,hi⟩ hag;refine Za (Yf ..) ?_;rw[List.length_map];refine Za (XP ..) (XcR (λ_=>rfl) (λ_=>XP ..) (Zb (λh=>?_) (λh=>?_)))
  ·simp only[Bool.and_eq_true,decide_eq_true_eq] at h;obtain⟨h,hlt⟩:=h;have h:i<l.length:=by omega
   have hix:=λσ=>Yo σ efC false false 14 l .i64 i h
   replace h1:=h1 i h
   replace h2:=h2 i h
   replace h3:=h3 i h
   replace h4:=h4 i h
   have hR:=QaF h (decide_eq_true hlt) hr;generalize l[i]=x at hix h1 h2 h3 h4;refine Zg (hix _) (Qh _) (Zd rfl (Zg (ldr (efLdN x)) (Qh _) (Xf h1 rfl g23.ok.plain (by rw[Qx]; rfl) (Zd (Yh ..) ?_))));refine Zg (hix _) (Qh _) (Zd rfl (Zg (ldr (efLdC x)) (Qh _) (Xf h2 rfl g24.ok.plain (by rw[ZF]; rfl) (Zd (Yh ..) ?_))));refine Zg (hix _) (Qh _) (Zd rfl (Zg (ldr (Yp x)) (Qh _) (Xf h3 rfl g11.ok.plain rfl (Zd (Yh ..) ?_))));refine Zg (hix _) (Qh _) (Zd rfl (Zg (ldr (Xp x)) (Qh _) (Xf h4 rfl g11.ok.plain rfl (Zd (Yh ..) (Xr (Z9 (by simp[allRd])) ?_)))));refine Za (Yh ..) ?_;rw[Qd (n:=i) (by omega)]
   grind
  ·refine Za (YF ..) (congrArg iv ?_);rw[Xan (a:=a) ?_ hr]
   grind
theorem c133(b:Bk)(hf:bkFit b=true):∃q:Bool,PC 9 [bkV b] (.bool q):=by
 simp only[bkFit,XG,Bool.and_eq_true,decide_eq_true_eq] at hf;obtain⟨⟨f0,f3⟩,f1,f2⟩:=hf;rw[bigE] at f0 f1;have hm:∀x∈b.cards,lsFit x.played=true∧lsFit x.dead=true∧lsFit x.dawn=true:=λx hx=>by
  simp_all [cdFit]
 obtain⟨F1,h1⟩:=told b.cards (Q:=λx n=>PC 11 [efV x.played] (iv n)) (λx hx=>c135 _ _ (Nat.le_refl _) (hm x hx).1);obtain⟨F2,h2⟩:=told b.cards (Q:=λx n=>PC 11 [efV x.dead] (iv n)) (λx hx=>c135 _ _ (Nat.le_refl _) (hm x hx).2.1);obtain⟨F3,h3⟩:=told b.cards (Q:=λx n=>PC 11 [efV x.dawn] (iv n)) (λx hx=>c135 _ _ (Nat.le_refl _) (hm x hx).2.2)
 let st:Nat→Int→Int:=λi a=>IntKind.i64.wrap (IntKind.i64.wrap (IntKind.i64.wrap (a+F1 i)+F2 i)+F3 i)
 let st2:Nat→Int→Int:=λi a=>IntKind.i64.wrap (IntKind.i64.wrap (a+((b.formats[i]?).map λf=>(f.banned.length:Int)).getD 0)+((b.formats[i]?).map λf=>(f.single.length:Int)).getD 0)
 generalize hr:runF (λa=>decide (a≤6000)) st (b.cards.length-0) 0 (IntKind.i64.wrap (b.cards.length+b.formats.length))=r;generalize hr2:runF (λa=>decide (a≤6000)) st2 (b.formats.length-0) 0 r=r2;refine⟨decide (r2>6000),Qb hP g9.ok rfl rfl ?_⟩;rw[H1.e]; unfold g9; dsimp only;refine Yc (v:=.bptr 0 0) (rd:=[]) (up:=[(0,.box (bkC b))]) rfl rfl ?_;have lc:∀σ,Qs [cdV b.cards] σ=.ok (iv b.cards.length) [] []:=λσ=>by rw[Yf,List.length_map]
 have lf:∀σ,Qs [foV b.formats] σ=.ok (iv b.formats.length) [] []:=λσ=>by rw[Yf,List.length_map]
 refine Za rfl (Za rfl (Za (lc _) (Za rfl (Za rfl (Za (lf _) (Za (Yh ..) ?_))))));refine Xj (ι:=Nat) (λi vs σ=>(∃a,vs=[iv i,iv a]∧runF (λa=>decide (a≤6000)) st (b.cards.length-i) i a=r)∧hget σ 0=.box (bkC b)∧i≤b.cards.length) (λi=>b.cards.length-i) 0 ⟨⟨_,rfl,hr⟩,rfl,by omega⟩ ?_;rintro i vs σ again ⟨⟨a,rfl,hr⟩,hB,hi⟩ hag;refine Za rfl (Za (ld hB rfl) (Za (lc _) (Za (XP ..) (XcR (λ_=>rfl) (λ_=>Qcz ..) (Zb (λh=>?_) (λh=>?_))))))
 ·simp only[Bool.and_eq_true,decide_eq_true_eq] at h;obtain⟨h,hlt⟩:=h;have h:i<b.cards.length:=by omega
  have hix:=Yo σ cdC false false 12 b.cards .i64 i h
  replace h1:=h1 i h
  replace h2:=h2 i h
  replace h3:=h3 i h
  have hR:=QaF h (decide_eq_true hlt) hr;generalize b.cards[i]=x at hix h1 h2 h3;refine Za rfl (Za (ld hB rfl) (Za hix (Za (ldr (cdLd x)) (Yx (row:=cdC x) (row':=cdC x) rfl rfl rfl ?_))));have hx:=Qf σ (.box (cdC x));refine Zd rfl (Zg (ld hx rfl) (Qh _) (Xf h1 rfl g11.ok.plain rfl (Zd (Yh ..) ?_)));refine Zd rfl (Zg (ld hx rfl) (Qh _) (Xf h2 rfl g11.ok.plain rfl (Zd (Yh ..) ?_)));refine Zd rfl (Zg (ld hx rfl) (Qh _) (Xf h3 rfl g11.ok.plain rfl (Zd (Yh ..) (Xr (Z9 (by simp[allRd])) ?_))));refine Za (Yh ..) ?_;rw[Qd (n:=i) (by omega)];exact hag (i+1) _ _ (by omega) ⟨⟨_,rfl,hR⟩,Zf _ hB (by simp),by omega⟩
 obtain rfl:=Xan (a:=a) (by
  grind) hr
 clear hag again hr h hi;refine Xj (ι:=Nat) (λi vs σ=>(∃a,vs=[iv i,iv a]∧runF (λa=>decide (a≤6000)) st2 (b.formats.length-i) i a=r2)∧hget σ 0=.box (bkC b)∧i≤b.formats.length) (λi=>b.formats.length-i) 0 ⟨⟨_,rfl,hr2⟩,hB,by omega⟩ ?_;rintro i vs σ again ⟨⟨a,rfl,hr⟩,hB,hi⟩ hag;refine Za rfl (Za (ld hB rfl) (Za (lf _) (Za (XP ..) (XcR (λ_=>rfl) (λ_=>Qcz ..) (Zb (λh=>?_) (λh=>?_))))))
 ·simp only[Bool.and_eq_true,decide_eq_true_eq] at h;obtain⟨h,hlt⟩:=h;have h:i<b.formats.length:=by omega
  have hix:=Yo σ foC false false 7 b.formats .i64 i h;have hR:=QaF h (decide_eq_true hlt) hr;have e:b.formats[i]?=some b.formats[i]:=by simp[h]
  simp only[st2,e,Option.map_some,Option.getD_some] at hR;generalize b.formats[i]=f at hix hR;refine Za rfl (Za (ld hB rfl) (Za hix (Za rfl (Za (v:=txV f.banned) (rd:=[]) (ldr rfl) (Za (v:=iv f.banned.length) (rd:=[]) (by simp[Yf]) (Za (Yh ..) ?_))))));refine Za rfl (Za (ld hB rfl) (Za hix (Za rfl (Za (v:=txV f.single) (rd:=[]) (ldr rfl) (Za (v:=iv f.single.length) (rd:=[]) (by simp[Yf]) (Za (Yh ..) ?_))))));refine Za (Yh ..) ?_;rw[Qd (n:=i) (by omega)]
  grind
 obtain rfl:=Xan (a:=a) (by
  grind) hr
 exact Za (Xaa ..) rfl
end Go.Ah.Tz
end
section
namespace Go.Ah.Tz
open Go.Proofs.Tryz (prog)
attribute [local irreducible] Ans.rd Ans.pu Ans.wr Ans.dr Ans.gr Ans.gw Ans.gl Ans.gd Ans.opt joinK W
set_option maxHeartbeats 4000000
theorem c55(b:Bk)(hf:bkFit b=true)(hsm:Qj b.cards)(s:St)(hs:StLe 1000000000 s):PC 16 [bkV b,stV s] (iv (bif mayR (bkR b).1 b s false then 0 else 170)):=by
 refine Qb hP g16.ok rfl rfl ?_;rw[H2.e]; unfold g16; dsimp only;refine Yc (v:=.bptr 0 0) (rd:=[]) (up:=[(0,.box (bkC b))]) rfl rfl ?_;refine Yc (v:=.bptr 1 0) (rd:=[]) (up:=[(1,.box (stC s))]) rfl rfl ?_;refine ZC (rd:=[0,1]) (c111 b hf hsm s hs false) rfl g25.ok.plain (.cons (Bor.box (row:=bkC b) rfl (by simp) (BorL.ro rfl)) <| .cons (Bor.box (row:=stC s) rfl (by simp) (BorL.ro rfl)) <| .cons (Bor.ro rfl) .nil) rfl ?_;generalize mayR (bkR b).1 b s false=q;cases q with
 |true=>exact Za rfl (Yd rfl)
 |false=>exact Za rfl (Qc rfl)
end Go.Ah.Tz
end
section
namespace Go.Ah.Tz
open Go.Proofs.Tryz (prog)
theorem Xco(s:St)(id:Int):(∃k:Nat,∃u,unitR s id=(0,(k:Int),true)∧s.s0.units[k]?=some u)∨(∃k:Nat,∃u,unitR s id=(1,(k:Int),true)∧s.s1.units[k]?=some u)∨unitR s id=(0,0,false):=by
 unfold unitR;cases q0:fnd s.s0.units id with
 |some k=>obtain⟨u,hk,_⟩:=Qbd q0; exact .inl ⟨k,u,rfl,hk⟩
 |none=>
  cases q1:fnd s.s1.units id with
  |some k=>obtain⟨u,hk,_⟩:=Qbd q1; exact .inr (.inl ⟨k,u,rfl,hk⟩)
  |none=>exact .inr (.inr rfl)
def ZcR(s:St)(side:Int):Sd:=if side=0 then s.s0 else s.s1
end Go.Ah.Tz
end
section
namespace Go.Ah.Tz
open Go.Proofs.Tryz (prog)
attribute [local irreducible] Ans.rd Ans.pu Ans.wr Ans.dr Ans.gr Ans.gw Ans.gl Ans.gd Ans.opt joinK W
set_option maxHeartbeats 8000000
theorem Gr.set{σ τ:List ABlk}{n k:Nat}{rows:List (List AVal)}{v:AVal}(h:Gr σ n rows k v τ){c:Nat}(hc:c<σ.length)(x:ABlk):Gr (σ.set c x) n rows k v (τ.set c x):=by
 obtain⟨h1,h2,h3⟩:=h;refine⟨by simpa using h1,λd hd=>?_,?_⟩
 ·have hd':d<σ.length:=by simpa using hd
  by_cases e:d=c
  ·grind [Qg]
  ·rw[Ye _ (by omega) e,Ye _ hd' e]; exact h2 d hd'
 ·rcases h3 with h3|⟨q1,b,q2,q3,q4,q5⟩
  ·exact .inl h3
  ·exact .inr ⟨q1,b,by simpa using q2,q3,Yg q4 (by simp) (by omega),q5⟩
theorem Gr.evs{σ0 σ:List ABlk}{l:List Ev}{v:AVal}(h:Gr σ0 7 (l.map evN) l.length v σ):∃rd,Bor (Go.Ah.hp σ) rd v (.rsl false false 7 (l.map evN)):=by
 rcases h.2.2 with ⟨h1,rfl,h3⟩|⟨_,b,_,rfl,h4,_⟩
 ·have:l=[]:=by simpa using h3
  subst this;exact⟨[],Bor.weak (Bor.ro rfl) (λM u d=>d.nils_rsl 7)⟩
 ·refine⟨[b],Bor.own h4 (by simp) (by simp) (Yax _ _ (by simp)) (λr hr=>?_)⟩;obtain⟨e,_,rfl⟩:=List.mem_map.1 hr;rfl
end Go.Ah.Tz
end
section
namespace Go.Ah.Tz
open Go.Proofs.Tryz (prog)
def powId(b:Bk)(s:St)(id:Int):Int×Int:=if (unitR s id).2.2 then powF b (ZcR s (unitR s id).1).units (unitR s id).2.1 else (0,0)
def powV(b:Bk)(s:St)(id:Int):AVal:=.tup [iv (powId b s id).1,iv (powId b s id).2,.bool (unitR s id).2.2]
attribute [local irreducible] Ans.rd Ans.pu Ans.wr Ans.dr Ans.gr Ans.gw Ans.gl Ans.gd Ans.opt joinK W
set_option maxHeartbeats 8000000
theorem c54(b:Bk)(hf:bkFit b=true)(hsm:Qj b.cards)(s:St)(hs:StLe 1000000000 s)(hm:mayR (bkR b).1 b s true=true)(id:Int):PC 193 [bkV b,stV s,iv id] (powV b s id):=by
 refine Qb hP g193.ok rfl rfl ?_;rw[H3.e]; unfold g193; dsimp only;refine Yc (v:=.bptr 0 0) (rd:=[]) (up:=[(0,.box (bkC b))]) rfl rfl ?_;refine Yc (v:=.bptr 1 0) (rd:=[]) (up:=[(1,.box (stC s))]) rfl rfl ?_;refine c56n b hf hsm s hs (n0:=2) (n:=13) rfl rfl rfl rfl (λh=>by rw[hm] at h; cases h) (λ_=>?_);refine Za rfl (Yd (Za (ld (row:=stC s) rfl rfl) (Xb (c71 s hs id) rfl g117.ok.plain rfl (Za rfl (Za rfl (Za rfl (Za rfl ?_)))))));rcases Xco s id with ⟨k,u,hu,hk⟩|⟨k,u,hu,hk⟩|hu
 ·have e:powV b s id=.tup [iv (powF b s.s0.units k).1,iv (powF b s.s0.units k).2,.bool true]:=by simp[powV,powId,hu,ZcR]
  rw[e,hu];refine Yd ?_;refine ZC (rd:=[0,2,3,4,5,6,7,8,9,10,11,12,13]) (c75_0 b s hs.s0.units (YbE hm) k) rfl g199.ok.plain (.cons (Bor.box (row:=mv2 s) rfl (by decide) (.cons (Bor.box (row:=bkC b) rfl (by decide) (BorL.ro rfl)) ?_)) <| .cons (Bor.ro rfl) <| .cons (Bor.ro rfl) .nil) rfl ?_
  ·exact SB.mk (s:=s) (RI.own rfl (by decide) rfl) (RI.own rfl (by decide) rfl) (RI.own rfl (by decide) rfl) (RI.own rfl (by decide) rfl) (RT.own rfl (by decide) rfl) (RI.own rfl (by decide) rfl) (RI.own rfl (by decide) rfl) (RI.own rfl (by decide) rfl) (RI.own rfl (by decide) rfl) (RT.own rfl (by decide) rfl) (RI.own rfl (by decide) rfl)
  exact Za rfl (Za rfl rfl)
 ·have e:powV b s id=.tup [iv (powF b s.s1.units k).1,iv (powF b s.s1.units k).2,.bool true]:=by simp[powV,powId,hu,ZcR]
  rw[e,hu];refine Yd ?_;refine ZC (rd:=[0,2,3,4,5,6,7,8,9,10,11,12,13]) (c75_1 b s hs.s1.units (XbE hm) k) rfl g199.ok.plain (.cons (Bor.box (row:=mv2 s) rfl (by decide) (.cons (Bor.box (row:=bkC b) rfl (by decide) (BorL.ro rfl)) ?_)) <| .cons (Bor.ro rfl) <| .cons (Bor.ro rfl) .nil) rfl ?_
  ·exact SB.mk (s:=s) (RI.own rfl (by decide) rfl) (RI.own rfl (by decide) rfl) (RI.own rfl (by decide) rfl) (RI.own rfl (by decide) rfl) (RT.own rfl (by decide) rfl) (RI.own rfl (by decide) rfl) (RI.own rfl (by decide) rfl) (RI.own rfl (by decide) rfl) (RI.own rfl (by decide) rfl) (RT.own rfl (by decide) rfl) (RI.own rfl (by decide) rfl)
  exact Za rfl (Za rfl rfl)
 ·have e:powV b s id=.tup [iv 0,iv 0,.bool false]:=by simp[powV,powId,hu]
  rw[e,hu];exact Qc rfl
end Go.Ah.Tz
end
section
namespace Go.Ah
def layD(D:List Deferred)(a:Act):Act:={ a with defers:=a.defers++D }
section
variable {P:Program}
theorem Zac(D:List Deferred)(a:Act)(d:Option Nat)(v:Value):(layD D a).put d v=layD D (a.put d v):=by
 cases d<;>rfl
theorem XaZ(D:List Deferred)(a:Act):(layD D a).eval=a.eval:=by
 funext x; cases x<;>rfl
theorem Za7{ops:Array Oper}{Q Q':Exit→Act→World→Prop}(D:List Deferred)(l2:List Nat)(hn:∀a w,Q .normal a w→wpOps P ops Q' l2 (layD D a) w)(hq:∀e a w,e≠.normal→Q e a w→Q' e (layD D a) w) :
  ∀(l:List Nat) (a:Act) (w:World),wpOps P ops Q l a w→wpOps P ops Q' (l++l2) (layD D a) w
 |[],a,w,h=>hn _ _ h
 |i::rest,a,w,h=>by
  have hout:LetsOut Q→LetsOut Q':=λ⟨a,w,q⟩=>⟨_,w,hq _ _ _ (by simp) q⟩;have ih:=Za7 D l2 hn hq rest;simp only[List.cons_append,wpOps] at h ⊢;cases ho:ops[i]? with
  |none=>simp only[ho] at h ⊢; exact ih _ _ h
  |some o=>
   simp only[ho] at h ⊢;have ht:(layD D a).tmps=a.tmps:=rfl;rw[ht];split
   ·rename_i hw;rw[if_pos hw] at h;rcases h with h|⟨h1,h2⟩
    ·left;unfold Oper.wp at h ⊢;rw[XaZ];generalize (execOp a.eval o).run P w=r at h ⊢;cases r with
     |ok nx w'=>
      cases nx with
      |value v=>simp only[Oper.upon] at h ⊢; rw[Zac]; exact ih _ _ h
      |skip=>simp only[Oper.upon] at h ⊢; rw[Zac]; exact ih _ _ h
      |defer d=>
       simp only[Oper.upon] at h ⊢;rw[show ({ layD D a with defers:=d::(layD D a).defers }:Act)=layD D { a with defers:=d::a.defers } from rfl,Zac];exact ih _ _ h
      |enter f args=>
       simp only[Oper.upon] at h ⊢;refine Calls.mono h (λe w'' k=>?_);cases e with
       |returned v=>simp only at k ⊢; rw[Zac]; exact ih _ _ k
       |panicked c=>exact hq _ _ _ (by simp) k
       |outgrown=>exact hout k
      |row row args=>
       simp only[Oper.upon] at h ⊢;refine Rows.mono h (λv w'' k=>?_);rw[Zac]; exact ih _ _ k
      |_=>exact h.elim
     |halt hh w'=>
      cases hh with
      |panic v=>exact hq _ _ _ (by simp) h
      |_=>exact h.elim
    ·right;refine⟨?_,hout h2⟩;unfold Oper.asks at h1 ⊢;rw[XaZ]; exact h1
   ·rename_i hw; rw[if_neg hw] at h; rw[Zac]; exact ih _ _ h
end
section
variable {P:Program} {GL:Globs}
theorem YaN{n:Nat}{c1 c2:Code}{m1:MCode}(hc:CodeOk P GL n c1 m1){w0:World}{L:Ln}{g:Gm}{ρ:Frame}{σ:List ABlk}{a:Act}{w:World}(r:Rep GL w0 L g (hp σ) w)(d:DenF n g ρ a){Q1:APost}{Qw:Exit→Act→World→Prop}(h:Awp P GL n m1 ρ σ Q1)
 (hn:∀g' ρ' σ' a' w',g.Le g'→Rep GL w0 L g' (hp σ') w'→DenF n g' ρ' a'→Q1 .normal ρ' σ'→c2.wp P Qw a' w')(hx:∀i ρ σ,¬Q1 (.exit i) ρ σ)
 (hr:∀g' ρ' σ' a' w',g.Le g'→Rep GL w0 L g' (hp σ') w'→DenF n g' ρ' a'→Q1 .ret ρ' σ'→Qw .ret a' w'):(Code.seq c1 c2).wp P Qw a w:=by
 refine wp_seq (wp_mono (h c1 hc w0 L g a w r d) (λe a' w' hl=>?_));cases e with
 |normal=>obtain⟨g',ρ',σ',k1,k2,k3,k4⟩:=hl; exact hn g' ρ' σ' a' w' k1 k2 k3 k4
 |ret=>obtain⟨g',ρ',σ',k1,k2,k3,k4⟩:=hl; exact hr g' ρ' σ' a' w' k1 k2 k3 k4
 |exit id=>obtain⟨g',ρ',σ',k1,k2,k3,k4⟩:=hl; exact(hx _ _ _ k4).elim
 |_=>exact hl.elim
end
end Go.Ah
end
