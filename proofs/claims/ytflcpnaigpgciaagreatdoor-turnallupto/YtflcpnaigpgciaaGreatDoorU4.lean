/- Part of the proof that TurnAll holds of the program for arguments that together hold at most 1048576 values and letters; no other condition. -/
import Derived.Test.YtflcpnaigpgciaaGreatDoorU3
set_option linter.all false
section
namespace Go.Ah.Tz
open Go.Proofs.Tryz (prog)
attribute [local irreducible] Ans.rd Ans.pu Ans.wr Ans.dr Ans.gr Ans.gw Ans.gl Ans.gd Ans.opt joinK W
theorem XM{f:(List AVal→List ABlk→Prop)→Prop}{k:List AVal→List ABlk→Prop}(h:f k):joinK f k:=by unfold joinK; exact h
theorem bigE:big=1152921504606846975:=rfl
theorem efLd(x:Ef):partA true 0 14 (efC x)=some (.agg (efC x)):=by rw[XA]; rfl
theorem efLdN(x:Ef):partA true 2 4 (efC x)=some (.agg (nmC x.n)):=by rw[XA,ZC]; rfl
theorem efLdC(x:Ef):partA true 7 5 (efC x)=some (.agg (cnC x.c)):=by rw[XA,YL]; rfl
theorem efLd0(x:Ef):partA false 0 1 (efC x)=some (iv8 x.op):=by rw[XA]; rfl
theorem efLd1(x:Ef):partA false 1 1 (efC x)=some (iv8 x.who):=by rw[XA]; rfl
theorem efLd6(x:Ef):partA false 6 1 (efC x)=some (.str x.name):=by rw[XA]; rfl
theorem Qp(x:Ef):partA false 12 1 (efC x)=some (efV x.thn):=by rw[XA]; rfl
theorem Zq(x:Ef):partA false 13 1 (efC x)=some (efV x.els):=by rw[XA]; rfl
theorem c178':∀(k:Nat) (x:Cn),SizeOf.sizeOf x≤k→cnFit x=true→PC 178 [.agg (cnC x)] (iv (cnW x))
 |0,x,h,_=>by cases x; simp at h
 |k+1,x,hk,hf=>by
  rw[YL];refine Xd hP g178_ok rfl rfl ?_;unfold g178;refine Zh rfl rfl ?_;rw[Xca];have hl1:=XJ hf;have hl2:=YJ hf;rw[bigE] at hl1 hl2;generalize hB:([]++[ABlk.box [iv8 x.op,iv8 x.who,.str x.name,.rsl false false 4 (x.nums.map nmC),.rsl false false 5 (x.kids.map cnC)]]:List ABlk)=base;have hB0:hget base 0=.box [iv8 x.op,iv8 x.who,.str x.name,.rsl false false 4 (x.nums.map nmC),.rsl false false 5 (x.kids.map cnC)]:=by rw[←hB]; rfl
  clear hB;refine Qi (ι:=Nat) (λi vs σ=>∃n,vs=[iv i,iv n]∧σ=base∧i≤x.nums.length∧0≤n∧n≤1073741824∧nmWs 1 x.nums=nmWs n (x.nums.drop i)) (λi=>x.nums.length-i) 0 ⟨1,rfl,rfl,by omega,by omega,by omega,by simp⟩ ?_;rintro i vs σ again ⟨n,rfl,rfl,hi,n1,n2,hu⟩ hag;repeat first|refine Za (ld hB0 rfl) ?_|refine Za rfl ?_
  refine Zc (λh=>?_) (λh=>?_)
  ·have h:i<x.nums.length:=by simpa using h
   have hdr:x.nums.drop i=x.nums[i]::x.nums.drop (i+1):=by rw[YLD h]
   rw[hdr,nmWs] at hu;have hm:x.nums[i]∈x.nums:=List.getElem_mem h;refine Za rfl (Za (ld hB0 rfl) (Za (Zn _ nmC _ _ _ x.nums _ i h) (Za (ldr (nmLd _)) ?_)));refine Yd (c76 _ (QP hf hm)) rfl g76_ok.plain (nmRo _) ?_;have:=Za1 x.nums[i];refine Za (Qj ..) (Za (Zak ..) (Za (Qj ..) ?_));rw[Qe (n:=i) (by omega),wrapI (by omega) (by omega)];exact hag (i+1) _ _ (by omega) ⟨_,rfl,rfl,by omega,by omega,by omega,hu⟩
  have h:i=x.nums.length:=by simp at h; omega
  subst h;rw[List.drop_length,nmWs] at hu;rw[hu];clear hag hu hi;refine Qi (ι:=Nat) (λi vs s=>∃m,vs=[iv i,iv m]∧s=σ∧i≤x.kids.length∧0≤m∧m≤1073741824∧cnWs n x.kids=cnWs m (x.kids.drop i)) (λi=>x.kids.length-i) 0 ⟨n,rfl,rfl,by omega,by omega,by omega,by simp⟩ ?_;rintro i vs s again ⟨m,rfl,rfl,hi,n1,n2,hu⟩ hag;repeat first|refine Za (ld hB0 rfl) ?_|refine Za rfl ?_
  refine Zc (λh=>?_) (λh=>?_)
  ·have h:i<x.kids.length:=by simpa using h
   have hdr:x.kids.drop i=x.kids[i]::x.kids.drop (i+1):=by rw[YLD h]
   rw[hdr,cnWs] at hu;have hm:x.kids[i]∈x.kids:=List.getElem_mem h;refine Za rfl (Za (ld hB0 rfl) (Za (Zn _ cnC _ _ _ x.kids _ i h) (Za (ldr (cnLd _)) ?_)));refine Yd (c178' k _ (by have:=X9 hm; omega) (XP hf hm)) rfl g178_ok.plain (cnRo _) ?_;have:=YbG x.kids[i];refine Za (Qj ..) (Za (Zak ..) (Za (Qj ..) ?_));rw[Qe (n:=i) (by omega),wrapI (by omega) (by omega)];exact hag (i+1) _ _ (by omega) ⟨_,rfl,rfl,by omega,by omega,by omega,hu⟩
  ·have h:i=x.kids.length:=by simp at h; omega
   subst h;rw[List.drop_length] at hu;rw[hu]; rfl
theorem c178(x:Cn)(hf:cnFit x=true):PC 178 [.agg (cnC x)] (iv (cnW x)):=c178' _ x (Nat.le_refl _) hf
theorem c121(w:Int):PC 121 [iv8 w] (.bool (sdOp w)):=by
 refine Xd hP g121_ok rfl rfl ?_;unfold g121;refine Za rfl ?_;rcases YBE (w==0) with h1|h1
 ·rw[h1];repeat first|refine Zb rfl ?_|refine Yc rfl ?_|refine Qc rfl ?_|refine Zd rfl ?_|refine Za rfl ?_
  simp at h1; simp[sdOp,h1]
 rw[h1];repeat first|refine Xa ?_|refine Xb ?_|refine Za rfl ?_
 have h1:w≠0:=by simpa using h1
 exact congrArg AVal.bool (by rw[Bool.eq_iff_iff]; simp[sdOp,h1])
theorem c130(w:Int):PC 130 [iv8 w] (.bool (cntOp w)):=by
 refine Xd hP g130_ok rfl rfl ?_;unfold g130;refine Za rfl ?_;rcases YBE (w==0) with h0|h0
 ·rw[h0];repeat first|refine Zb rfl ?_|refine Yc rfl ?_|refine Qc rfl ?_|refine Zd rfl ?_|refine Za rfl ?_
  simp at h0; simp[cntOp,h0]
 rw[h0];repeat first|refine Xa ?_|refine Xb ?_|refine Za rfl ?_
 rcases YBE (w==1) with h1|h1
 ·rw[h1];repeat first|refine Zb rfl ?_|refine Yc rfl ?_|refine Qc rfl ?_|refine Zd rfl ?_|refine Za rfl ?_
  simp at h1; simp[cntOp,h1]
 rw[h1];repeat first|refine Xa ?_|refine Xb ?_|refine Za rfl ?_
 rcases YBE (w==2) with h2|h2
 ·rw[h2];repeat first|refine Zb rfl ?_|refine Yc rfl ?_|refine Qc rfl ?_|refine Zd rfl ?_|refine Za rfl ?_
  simp at h2; simp[cntOp,h2]
 rw[h2];repeat first|refine Xa ?_|refine Xb ?_|refine Za rfl ?_
 rcases YBE (w==3) with h3|h3
 ·rw[h3];repeat first|refine Zb rfl ?_|refine Yc rfl ?_|refine Qc rfl ?_|refine Zd rfl ?_|refine Za rfl ?_
  simp at h3; simp[cntOp,h3]
 rw[h3];repeat first|refine Xa ?_|refine Xb ?_|refine Za rfl ?_
 simp at h0 h1 h2 h3;exact congrArg AVal.bool (by rw[Bool.eq_iff_iff]; simp[cntOp,h0,h1,h2,h3])
mutual
def efsW:Int→List Ef→Int
 |n,[]=>n
 |n,x::l=>efsW (efW n x) l
def efW:Int→Ef→Int
 |n0,.mk op _ nn _ c thn els=>
  if op=8 then min ((if cntOp op then min (min (n0+1) 1073741824+nmW nn) 1073741824 else min (n0+1) 1073741824)+cnW c+efsW 0 thn+efsW 0 els) 1073741824 else (if cntOp op then min (min (n0+1) 1073741824+nmW nn) 1073741824 else min (n0+1) 1073741824)
end
theorem XaX(n:Int)(x:Ef):efW n x=if x.op=8 then min ((if cntOp x.op then min (min (n+1) 1073741824+nmW x.n) 1073741824 else min (n+1) 1073741824)+cnW x.c+efsW 0 x.thn+efsW 0 x.els) 1073741824 else (if cntOp x.op then min (min (n+1) 1073741824+nmW x.n) 1073741824 else min (n+1) 1073741824):=by
 cases x; rfl
theorem Xar:∀(k:Nat) (l:List Ef) (n:Int),SizeOf.sizeOf l≤k→0≤n→n≤1073741824→0≤efsW n l∧efsW n l≤1073741824
 |0,l,n,h,_,_=>by cases l<;>simp at h
 |k+1,[],n,_,h1,h2=>⟨h1,h2⟩
 |k+1,x::l,n,h,h1,h2=>by
  simp only[List.cons.sizeOf_spec] at h;have hx:SizeOf.sizeOf x.thn<SizeOf.sizeOf x∧SizeOf.sizeOf x.els<SizeOf.sizeOf x:=by
   cases x; simp[Ef.thn,Ef.els]; omega
  have q1:=Xar k x.thn 0 (by omega) (by omega) (by omega);have q2:=Xar k x.els 0 (by omega) (by omega) (by omega);have q3:=Za1 x.n;have q4:=YbG x.c;have q5:0≤efW n x∧efW n x≤1073741824:=by
   rw[XaX]; split<;>split<;>omega
  rw[efsW];exact Xar k l _ (by omega) q5.1 q5.2
theorem Xaw(l:List Ef):0≤efsW 0 l∧efsW 0 l≤1073741824:=Xar _ l 0 (Nat.le_refl _) (by omega) (by omega)
theorem ZY(x:Ef):SizeOf.sizeOf x.thn<SizeOf.sizeOf x∧SizeOf.sizeOf x.els<SizeOf.sizeOf x:=by
 cases x; simp[Ef.thn,Ef.els]; omega
theorem c142':∀(k:Nat) (l:List Ef),SizeOf.sizeOf l≤k→lsFit l=true→PC 142 [efV l] (iv (efsW 0 l))
  |0,l,h,_=>by cases l<;>simp at h
  |k+1,l,hk,hf=>by
    refine Xd hP g142_ok rfl rfl ?_;unfold g142;have hlen:=Zz hf;rw[bigE] at hlen;refine Qi (ι:=Nat) (λi vs σ=>∃n,vs=[iv i,iv n]∧i≤l.length∧0≤n∧n≤1073741824∧efsW 0 l=efsW n (l.drop i)) (λi=>l.length-i) 0 ⟨0,rfl,by omega,by omega,by omega,by simp⟩ ?_;rintro i vs σ again ⟨n,rfl,hi,n1,n2,hu⟩ hag;refine Za rfl (Za rfl ?_);refine Zc (λh=>?_) (λh=>?_)
    · have h:i<l.length:=by simpa using h
      have hdr:l.drop i=l[i]::l.drop (i+1):=by rw[YLD h]
      rw[hdr,efsW] at hu;have hm:l[i]∈l:=List.getElem_mem h;have hsz:=List.sizeOf_lt_of_mem hm;have hfx:=YH hf hm;have ix:=λ(s:List ABlk)=>Zn s efC false false 14 l .i64 i h;generalize l[i]=x at hu hsz hfx ix;refine XM (Za (Qj ..) (Za (Zak ..) (Za (ix _) (Za rfl (Za (ldr (efLd0 x)) ?_)))));refine Yd (c130 _) rfl g130_ok.plain rfl ?_;have b1:=Za1 x.n;have b2:=YbG x.c;have b3:=Xaw x.thn;have b4:=Xaw x.els;rw[wrapI (n:=n+1) (by omega) (by omega)];have fin:∀m:Int,0≤m→m≤1073741824→efW n x=m→again [iv ((i+1:Nat):Int),iv m] σ:=by
        intro m m1 m2 e;exact hag (i+1) _ _ (by omega) ⟨m,rfl,by omega,m1,m2,by rw[hu,e]⟩
      refine XM ?_;refine Zc (λhc=>?_) (λhc=>?_)
      all_goals
        first
        | (refine Za (ix _) (Za rfl (Za (ldr (efLdN x)) ?_))
           refine Yd (c76 _ (QX hfx)) rfl g76_ok.plain (nmRo _) ?_;refine Za (Qj ..) (Za (Zak ..) ?_);rw[wrapI (n:=min (n + 1) 1073741824 + nmW x.n) (by omega) (by omega)])
        |skip
      · have hm2:(if cntOp x.op then min (min (n+1) 1073741824+nmW x.n) 1073741824 else min (n+1) 1073741824)=min (min (n+1) 1073741824+nmW x.n) 1073741824:=by rw[if_pos hc]
        obtain⟨m,hm⟩:∃m,m=min (min (n+1) 1073741824+nmW x.n) 1073741824:=⟨_,rfl⟩;rw[←hm]
        replace hm2:=hm2.trans hm.symm
        have m1:0≤m∧m≤1073741824:=by omega
        refine Za (ix _) (Za rfl (Za (ldr (efLd0 x)) (Za rfl ?_)));refine Zc (λh8=>?_) (λh8=>?_)
        · have h8:x.op=8:=by simpa using h8
          refine Xl (ix _) (Zl _) (Zj rfl (Xl (ldr (efLdC x)) (Zl _) ?_));refine Xk (c178 _ (ZU hfx)) rfl g178_ok.plain (cnRo _) ?_;refine Zj (Qj ..) (Xl (ix _) (Zl _) (Zj rfl (Xl (ldr (Qp x)) (Zl _) ?_)));have hs2:=ZY x;refine Xk (c142' k _ (by omega) (ZH hfx)) rfl g142_ok.plain rfl ?_;refine Zj (Qj ..) (Xl (ix _) (Zl _) (Zj rfl (Xl (ldr (Zq x)) (Zl _) ?_)));refine Xk (c142' k _ (by omega) (QG hfx)) rfl g142_ok.plain rfl ?_;refine Zj (Qj ..) (Zj (Zak ..) (QC (by kernel_rfl) (Za (Qj ..) ?_)));rw[Qe (n:=i) (by omega),wrapI (n:=m+cnW x.c) (by omega) (by omega),wrapI (n:=m+cnW x.c+efsW 0 x.thn) (by omega) (by omega),wrapI (n:=m+cnW x.c+efsW 0 x.thn+efsW 0 x.els) (by omega) (by omega)];exact fin _ (by omega) (by omega) (by rw[XaX,if_pos h8,hm2])
        · have h8:x.op≠8:=by simpa using h8
          refine Za (Qj ..) ?_;rw[Qe (n:=i) (by omega)];exact fin _ m1.1 m1.2 (by rw[XaX,if_neg h8,hm2])
      · have hm2:(if cntOp x.op then min (min (n+1) 1073741824+nmW x.n) 1073741824 else min (n+1) 1073741824)=min (n+1) 1073741824:=by rw[if_neg (by simpa using hc)]
        obtain⟨m,hm⟩:∃m,m=min (n+1) 1073741824:=⟨_,rfl⟩;rw[←hm]
        replace hm2:=hm2.trans hm.symm
        have m1:0≤m∧m≤1073741824:=by omega
        refine Za (ix _) (Za rfl (Za (ldr (efLd0 x)) (Za rfl ?_)));refine Zc (λh8=>?_) (λh8=>?_)
        · have h8:x.op=8:=by simpa using h8
          refine Xl (ix _) (Zl _) (Zj rfl (Xl (ldr (efLdC x)) (Zl _) ?_));refine Xk (c178 _ (ZU hfx)) rfl g178_ok.plain (cnRo _) ?_;refine Zj (Qj ..) (Xl (ix _) (Zl _) (Zj rfl (Xl (ldr (Qp x)) (Zl _) ?_)));have hs2:=ZY x;refine Xk (c142' k _ (by omega) (ZH hfx)) rfl g142_ok.plain rfl ?_;refine Zj (Qj ..) (Xl (ix _) (Zl _) (Zj rfl (Xl (ldr (Zq x)) (Zl _) ?_)));refine Xk (c142' k _ (by omega) (QG hfx)) rfl g142_ok.plain rfl ?_;refine Zj (Qj ..) (Zj (Zak ..) (QC (by kernel_rfl) (Za (Qj ..) ?_)));rw[Qe (n:=i) (by omega),wrapI (n:=m+cnW x.c) (by omega) (by omega),wrapI (n:=m+cnW x.c+efsW 0 x.thn) (by omega) (by omega),wrapI (n:=m+cnW x.c+efsW 0 x.thn+efsW 0 x.els) (by omega) (by omega)];exact fin _ (by omega) (by omega) (by rw[XaX,if_pos h8,hm2])
        · have h8:x.op≠8:=by simpa using h8
          refine Za (Qj ..) ?_;rw[Qe (n:=i) (by omega)];exact fin _ m1.1 m1.2 (by rw[XaX,if_neg h8,hm2])
    · have h:i=l.length:=by simp at h; omega
      subst h;rw[List.drop_length] at hu;rw[hu]; rfl
theorem c142(l:List Ef)(hf:lsFit l=true):PC 142 [efV l] (iv (efsW 0 l)):=c142' _ l (Nat.le_refl _) hf
end Go.Ah.Tz
end
section
namespace Go.Ah.Tz
open Go.Proofs.Tryz (prog)
def noNum(x:Nm):Bool:=decide (x.op=0)&&(decide (x.n=0)&&(decide (x.who=0)&&decide (x.kids.length=0)))
def noCond(x:Cn):Bool:=decide (x.op=0)&&(decide (x.who=0)&&(x.name==[]&&(decide (x.nums.length=0)&&decide (x.kids.length=0))))
def findC:List Cd→Tx→Bool→Bool
 |[],_,_=>false
 |c::l,t,u=>if c.name==t then c.unit || !u else findC l t u
def chk(cs:List Cd)(t:Bool):List AVal:=[cdV cs,.bool t]
attribute [local irreducible] Ans.rd Ans.pu Ans.wr Ans.dr Ans.gr Ans.gw Ans.gl Ans.gd Ans.opt joinK W
theorem Yk{f:(List AVal→List ABlk→Prop)→Prop}{k:List AVal→List ABlk→Prop}(h:∀k',k'=k→f k'):joinK f k:=XM (h k rfl)
theorem c110(c:Cd)(h1:lsFit c.played=true)(h2:lsFit c.dead=true)(h3:lsFit c.dawn=true):PC 110 [.agg (cdC c)] (iv (min (efsW 0 c.played+efsW 0 c.dead+efsW 0 c.dawn) 1073741824)):=by
 refine Xd hP g110_ok rfl rfl ?_;unfold g110;refine Zh rfl rfl (Zj rfl (Xl rfl rfl ?_));refine Xk (c142 _ h1) rfl g142_ok.plain rfl ?_;refine Zj rfl (Xl rfl rfl ?_);refine Xk (c142 _ h2) rfl g142_ok.plain rfl ?_;refine Zj (Qj ..) (Zj rfl (Xl rfl rfl ?_));refine Xk (c142 _ h3) rfl g142_ok.plain rfl ?_;refine Zj (Qj ..) (Zj (Zak ..) (QC (by kernel_rfl) ?_));have b1:=Xaw c.played;have b2:=Xaw c.dead;have b3:=Xaw c.dawn;rw[wrapI (n:=efsW 0 c.played+efsW 0 c.dead) (by omega) (by omega),wrapI (by omega) (by omega)]
theorem c225(x:Nm):PC 225 [.agg (nmC x)] (.bool (noNum x)):=by
 rw[ZC];refine Xd hP g225_ok rfl rfl ?_;unfold g225;refine Zh rfl rfl ?_;refine Za rfl (Za rfl (Za (Zf ..) ?_));rcases YBE (decide (x.op=0)) with h1|h1
 rotate_left
 ·rw[h1];repeat first|refine Zb rfl ?_|refine Yc rfl ?_|refine Qc rfl ?_|refine Zd rfl ?_|refine Za rfl ?_
  simp at h1; simp[noNum,h1]
 rw[h1];repeat first|refine Xa ?_|refine Xb ?_|refine Za (Zf ..) ?_|refine Za (Zg ..) ?_|refine Za rfl ?_
 rcases YBE (decide (x.n=0)) with h2|h2
 rotate_left
 ·rw[h2];repeat first|refine Zb rfl ?_|refine Yc rfl ?_|refine Qc rfl ?_|refine Zd rfl ?_|refine Za rfl ?_
  simp at h2; simp[noNum,h2]
 rw[h2];repeat first|refine Xa ?_|refine Xb ?_|refine Za (Zf ..) ?_|refine Za (Zg ..) ?_|refine Za rfl ?_
 rcases YBE (decide (x.who=0)) with h3|h3
 rotate_left
 ·rw[h3];repeat first|refine Zb rfl ?_|refine Yc rfl ?_|refine Qc rfl ?_|refine Zd rfl ?_|refine Za rfl ?_
  simp at h3; simp[noNum,h3]
 rw[h3];repeat first|refine Xa ?_|refine Xb ?_|refine Za (Zf ..) ?_|refine Za (Zg ..) ?_|refine Za rfl ?_
 simp at h1 h2 h3;simp[noNum,h1,h2,h3]
theorem c227(x:Cn):PC 227 [.agg (cnC x)] (.bool (noCond x)):=by
 rw[YL];refine Xd hP g227_ok rfl rfl ?_;unfold g227;refine Zh rfl rfl ?_;refine Za rfl (Za rfl (Za (Zf ..) ?_));rcases YBE (decide (x.op=0)) with h1|h1
 rotate_left
 ·rw[h1];repeat first|refine Zb rfl ?_|refine Yc rfl ?_|refine Qc rfl ?_|refine Zd rfl ?_|refine Za rfl ?_
  simp at h1; simp[noCond,h1]
 rw[h1];repeat first|refine Xa ?_|refine Xb ?_|refine Za (Zf ..) ?_|refine Za (Zg ..) ?_|refine Za rfl ?_
 rcases YBE (decide (x.who=0)) with h2|h2
 rotate_left
 ·rw[h2];repeat first|refine Zb rfl ?_|refine Yc rfl ?_|refine Qc rfl ?_|refine Zd rfl ?_|refine Za rfl ?_
  simp at h2; simp[noCond,h2]
 rw[h2];repeat first|refine Xa ?_|refine Xb ?_|refine Za (Zf ..) ?_|refine Za (Zg ..) ?_|refine Za rfl ?_
 rcases YBE (x.name==[]) with h3|h3
 rotate_left
 ·rw[h3];repeat first|refine Zb rfl ?_|refine Yc rfl ?_|refine Qc rfl ?_|refine Zd rfl ?_|refine Za rfl ?_
  simp at h3; simp[noCond,h3]
 rw[h3];repeat first|refine Xa ?_|refine Xb ?_|refine Za (Zf ..) ?_|refine Za (Zg ..) ?_|refine Za rfl ?_
 rcases YBE (decide (((x.nums.map nmC).length:Int)=0)) with h4|h4
 rotate_left
 ·rw[h4];repeat first|refine Zb rfl ?_|refine Yc rfl ?_|refine Qc rfl ?_|refine Zd rfl ?_|refine Za rfl ?_
  simp at h4; simp[noCond,h4]
 rw[h4];repeat first|refine Xa ?_|refine Xb ?_|refine Za (Zf ..) ?_|refine Za (Zg ..) ?_|refine Za rfl ?_
 simp at h1 h2 h3 h4;simp[noCond,h1,h2,h3,h4]
theorem c187(n:Int):PC 187 [iv n] (.bool (decide (0≤n)&&decide (n≤999))):=by
 refine Xd hP g187_ok rfl rfl ?_;unfold g187;refine Za rfl ?_;rcases YBE (decide (n ≥ 0)) with h|h
 ·rw[h];repeat first|refine Za rfl ?_|refine Zh rfl rfl ?_|refine Xa ?_|refine Xb ?_
  have h':0≤n:=by simpa using h
  simp[h']
 ·rw[h];repeat first|refine Zb rfl ?_|refine Yc rfl ?_|refine Qc rfl ?_|refine Zd rfl ?_|refine Za rfl ?_|refine Zh rfl rfl ?_
  have h':¬0≤n:=by simpa using h
  simp[h']
theorem cdLd0(x:Cd):partA false 0 1 (cdC x)=some (.str x.name):=rfl
theorem cdLd1(x:Cd):partA false 1 1 (cdC x)=some (.bool x.unit):=rfl
theorem c228(cs:List Cd)(hc:cs.length≤big)(t:Bool)(nm:Tx)(u:Bool):PC 228 [.rptr (chk cs t) 0,.str nm,.bool u] (.bool (findC cs nm u)):=by
 refine Xd hP g228_ok rfl rfl ?_;unfold g228;rw[bigE] at hc;refine Qi (ι:=Nat) (λi vs σ=>vs=[iv i]∧i≤cs.length∧findC cs nm u=findC (cs.drop i) nm u) (λi=>cs.length-i) 0 ⟨rfl,by omega,by simp⟩ ?_;rintro i vs σ again ⟨rfl,hi,hu⟩ hag;repeat first|refine Za (ldr (row:=chk cs t) rfl) ?_|refine Za rfl ?_
 refine Zc (λh=>?_) (λh=>?_)
 ·have h:i<cs.length:=by simpa using h
  have hdr:cs.drop i=cs[i]::cs.drop (i+1):=by rw[YLD h]
  rw[hdr,findC] at hu;have ix:=λ(s:List ABlk)=>Zn s cdC false false 12 cs .i64 i h;generalize cs[i]=c at hu ix;refine Za rfl (Za rfl (Za (ldr (row:=chk cs t) rfl) (Za (ix _) (Za rfl (Za (ldr (cdLd0 c)) (Za (Zg ..) ?_))))));refine Zc (λh=>?_) (λh=>?_)
  ·rw[if_pos h] at hu;refine Za rfl (Za rfl (Za (ldr (row:=chk cs t) rfl) (Za (ix _) (Za rfl (Za (ldr (cdLd1 c)) ?_)))));rw[hu];cases c.unit<;>repeat (first|refine Xa ?_|refine Zb rfl ?_|refine Qc rfl ?_|refine Za rfl ?_)
   ·simp
   ·simp
  ·rw[if_neg (by simpa using h)] at hu;refine Za (Qj ..) ?_;rw[Qe (n:=i) (by omega)];exact hag (i+1) _ _ (by omega) ⟨rfl,by omega,hu⟩
 ·have h:i=cs.length:=by simp at h; omega
  subst h;rw[List.drop_length] at hu;rw[hu]; rfl
end Go.Ah.Tz
end
section
namespace Go.Ah.Tz
open Go.Proofs.Tryz (prog)
def nmK(op:Int):Nat:=if 8≤op∧op≤12 then 2 else 0
def nmTop(t:Bool)(op n who:Int)(len:Nat):Bool:=
 (decide (0≤op)&&(decide (op≤12)&&decide (len=nmK op)))
def nmEnd(t:Bool)(op n who:Int):Bool:=
 if op=0 then decide (0≤n)&&(decide (n≤999)&&decide (who=0)) else decide (n=0)&&(if 1≤op∧op≤4 then sdOp who else decide (who=0)&&(decide (op≠7)||t))
mutual
def nmOk (t:Bool):Nm→Bool
 |.mk op n who kids=>nmTop t op n who kids.length&&(nmsOk t kids&&nmEnd t op n who)
def nmsOk (t:Bool):List Nm→Bool
 |[]=>true
 |x::l=>nmOk t x&&nmsOk t l
end
theorem QbP(t:Bool)(x:Nm):nmOk t x=(nmTop t x.op x.n x.who x.kids.length&&(nmsOk t x.kids&&nmEnd t x.op x.n x.who)):=by cases x; rfl
def cnK3(op:Int):Nat:=if 0≤op∧op≤2 then 2 else 0
def cnK4(op:Int):Nat:=if op=4∨op=5 then 2 else if op=3 then 1 else 0
def cnTop(op:Int)(l3 l4:Nat):Bool:=decide (0≤op)&&(decide (op≤6)&&(decide (l3=cnK3 op)&&decide (l4=cnK4 op)))
def cnEnd(cs:List Cd)(op who:Int)(name:Tx):Bool:=if op=6 then sdOp who&&findC cs name false else decide (who=0)&&name==[]
mutual
def cnOk (cs:List Cd) (t:Bool):Cn→Bool
 |.mk op who name nums kids=>cnTop op nums.length kids.length&&(nmsOk t nums&&(cnsOk cs t kids&&cnEnd cs op who name))
def cnsOk (cs:List Cd) (t:Bool):List Cn→Bool
 |[]=>true
 |x::l=>cnOk cs t x&&cnsOk cs t l
end
theorem ZbG(cs:List Cd)(t:Bool)(x:Cn):cnOk cs t x=(cnTop x.op x.nums.length x.kids.length&&(nmsOk t x.nums&&(cnsOk cs t x.kids&&cnEnd cs x.op x.who x.name))):=by cases x; rfl
attribute [local irreducible] Ans.rd Ans.pu Ans.wr Ans.dr Ans.gr Ans.gw Ans.gl Ans.gd Ans.opt joinK W
theorem c77'(cs:List Cd)(t:Bool):∀(k:Nat) (x:Nm),SizeOf.sizeOf x≤k→nmFit x=true→PC 77 [.rptr (chk cs t) 0,.agg (nmC x)] (.bool (nmOk t x))
 |0,x,h,_=>by cases x; simp at h
 |k+1,x,hk,hf=>by
  rw[ZC];refine Xd hP g77_ok rfl rfl ?_;unfold g77;refine Zh rfl rfl ?_;rw[QbP];have hlen:=YW hf;rw[bigE] at hlen;generalize hB:([]++[ABlk.box [iv8 x.op,iv x.n,iv8 x.who,.rsl false false 4 (x.kids.map nmC)]]:List ABlk)=base;have hB0:hget base 0=.box [iv8 x.op,iv x.n,iv8 x.who,.rsl false false 4 (x.kids.map nmC)]:=by rw[←hB]; rfl
  clear hB;repeat first|refine Za (ld hB0 rfl) ?_|refine Za rfl ?_
  have pick:∀K:AVal→Prop,K (.bool (decide (8≤x.op)&&decide (x.op≤12))) →
    VV.gr (.bool (decide (x.op ≥ 8))) true (λk=>VV.rd (Ya 0 [.bptr 0 0] base) k) λt11_4=>
    VV.gr (.bool (decide (x.op ≥ 8))) true (λk=>VV.rd (Xc false 1 [t11_4] base) k) λt12_5=>
    VV.gr (.bool (decide (x.op ≥ 8))) true (λk=>VV.rd (Yh .leq false [t12_5,(.int .i8 12)] base) k) λt13_6=>
    VV.rd (Yi [.bool (decide (x.op ≥ 8)),t13_6,(.bool false)] base) K:=by
   intro K hK;rcases YBE (decide (x.op ≥ 8)) with h|h
   rotate_left
   ·rw[h];repeat first|refine Zb rfl ?_|refine Yc rfl ?_|refine Qc rfl ?_|refine Zd rfl ?_|refine Za rfl ?_
    have h:¬8≤x.op:=by simpa using h
    simpa[h] using hK
   rw[h];repeat first|refine Xa ?_|refine Xb ?_|refine Za (ld hB0 rfl) ?_|refine Za (Zf ..) ?_|refine Za (Zg ..) ?_|refine Za rfl ?_
   have h:8≤x.op:=by simpa using h
   simpa[h] using hK
  refine pick _ ?_;clear pick;refine Yk λkj hkj=>?_;have kk:kj [iv (nmK x.op)] base:=by
   rw[hkj]; clear hkj kj;repeat first|refine Za (ld hB0 rfl) ?_|refine Za rfl ?_
   have bad1:¬(0≤x.op∧x.op≤12∧x.kids.length=nmK x.op)→AVal.bool false=AVal.bool (nmTop t x.op x.n x.who x.kids.length&&(nmsOk t x.kids&&nmEnd t x.op x.n x.who)):=by
    intro hn;have:nmTop t x.op x.n x.who x.kids.length=false:=by
     rw[Bool.eq_false_iff]; intro hh; simp[nmTop] at hh; exact hn hh
    rw[this]; rfl
   rcases YBE (decide (x.op<0)) with h1|h1
   ·rw[h1];repeat first|refine Zb rfl ?_|refine Yc rfl ?_|refine Qc rfl ?_|refine Zd rfl ?_|refine Za rfl ?_
    refine Ze (bad1 ?_);simp at h1; omega
   rw[h1];repeat first|refine Xa ?_|refine Xb ?_|refine Za (ld hB0 rfl) ?_|refine Za (Zf ..) ?_|refine Za (Zg ..) ?_|refine Za rfl ?_
   rcases YBE (decide (x.op>12)) with h2|h2
   ·rw[h2];repeat first|refine Zb rfl ?_|refine Yc rfl ?_|refine Qc rfl ?_|refine Zd rfl ?_|refine Za rfl ?_
    refine Ze (bad1 ?_);simp at h2; omega
   rw[h2];repeat first|refine Xa ?_|refine Xb ?_|refine Za (ld hB0 rfl) ?_|refine Za (Zf ..) ?_|refine Za (Zg ..) ?_|refine Za rfl ?_
   refine Zc (λh3=>bad1 ?_) (λh3=>?_)
   ·simp at h3; omega
   simp at h1 h2 h3;have ht:nmTop t x.op x.n x.who x.kids.length=true:=by simp[nmTop]; omega
   rw[ht,Bool.true_and];refine Qi (ι:=Nat) (λi vs σ=>vs=[iv i]∧σ=base∧i≤x.kids.length∧nmsOk t x.kids=nmsOk t (x.kids.drop i)) (λi=>x.kids.length-i) 0 ⟨rfl,rfl,by omega,by simp⟩ ?_;rintro i vs σ again ⟨rfl,rfl,hi,hu⟩ hag;repeat first|refine Za (ld hB0 rfl) ?_|refine Za rfl ?_
   refine Zc (λh=>?_) (λh=>?_)
   ·have h:i<x.kids.length:=by simpa using h
    have hdr:x.kids.drop i=x.kids[i]::x.kids.drop (i+1):=by rw[YLD h]
    rw[hdr,nmsOk] at hu;have hm:x.kids[i]∈x.kids:=List.getElem_mem h;refine Za rfl (Za (ld hB0 rfl) (Za (Zn _ nmC _ _ _ x.kids _ i h) (Za (ldr (nmLd _)) ?_)));refine Yd (c77' cs t k _ (by have:=Qaa hm; omega) (ZR hf hm)) rfl g77_ok.plain (by rw[ZC]; rfl) ?_;refine Za rfl ?_;refine Zc (λh4=>?_) (λh4=>?_)
    ·have h4:nmOk t x.kids[i]=false:=by simpa using h4
     rw[hu,h4]; rfl
    ·have h4:nmOk t x.kids[i]=true:=by simpa using h4
     rw[h4,Bool.true_and] at hu;refine Za (Qj ..) ?_;rw[Qe (n:=i) (by omega)];exact hag (i+1) _ _ (by omega) ⟨rfl,rfl,by omega,hu⟩
   have h:i=x.kids.length:=by simp at h; omega
   subst h;rw[List.drop_length,nmsOk] at hu;rw[hu,Bool.true_and];clear hag hu hi bad1 ht;refine Za rfl (Za (ld hB0 rfl) (Za (Zf ..) ?_));refine Zc (λh5=>?_) (λh5=>?_)
   ·have h5:x.op=0:=by simpa using h5
    repeat first|refine Za (ld hB0 rfl) ?_|refine Za rfl ?_
    rcases YBE (decide (x.n ≥ 0)) with h6|h6
    rotate_left
    ·rw[h6];repeat first|refine Zb rfl ?_|refine Yc rfl ?_|refine Qc rfl ?_|refine Zd rfl ?_|refine Za rfl ?_
     have h6:¬0≤x.n:=by simpa using h6
     simp[nmEnd,h5,h6]
    rw[h6];repeat first|refine Xa ?_|refine Xb ?_|refine Za (ld hB0 rfl) ?_|refine Za (Zf ..) ?_|refine Za (Zg ..) ?_|refine Za rfl ?_
    rcases YBE (decide (x.n≤999)) with h7|h7
    rotate_left
    ·rw[h7];repeat first|refine Zb rfl ?_|refine Yc rfl ?_|refine Qc rfl ?_|refine Zd rfl ?_|refine Za rfl ?_
     have h7:¬x.n≤999:=by simpa using h7
     simp[nmEnd,h5,h7]
    rw[h7];repeat first|refine Xa ?_|refine Xb ?_|refine Za (ld hB0 rfl) ?_|refine Za (Zf ..) ?_|refine Za (Zg ..) ?_|refine Za rfl ?_
    have h6:0≤x.n:=by simpa using h6
    simp at h7;simp[nmEnd,h5,h6,h7]
   have h5:x.op≠0:=by simpa using h5
   repeat first|refine Za (ld hB0 rfl) ?_|refine Za rfl ?_
   refine Zc (λh6=>?_) (λh6=>?_)
   ·have h6:x.n≠0:=by simpa using h6
    simp[nmEnd,h5,h6]
   have h6:x.n=0:=by simpa using h6
   repeat first|refine Za (ld hB0 rfl) ?_|refine Za rfl ?_
   have op1:1≤x.op:=by omega
   have op1d:decide (x.op ≥ 1)=true:=by simpa using op1
   rw[op1d];repeat first|refine Xa ?_|refine Xb ?_|refine Za (ld hB0 rfl) ?_|refine Za (Zf ..) ?_|refine Za (Zg ..) ?_|refine Za rfl ?_
   refine Zc (λh7=>?_) (λh7=>?_)
   ·have h7:x.op≤4:=by simpa using h7
    refine Za rfl (Za (ld hB0 rfl) ?_);refine Yd (c121 _) rfl g121_ok.plain rfl ?_;simp[nmEnd,h5,h6,h7,op1]
   have h7:¬x.op≤4:=by simpa using h7
   refine Za rfl (Za (ld hB0 rfl) (Za (Zf ..) ?_));rcases YBE (decide (x.who=0)) with h8|h8
   rotate_left
   ·rw[h8];repeat first|refine Zb rfl ?_|refine Yc rfl ?_|refine Qc rfl ?_|refine Zd rfl ?_|refine Za rfl ?_
    have h8:¬x.who=0:=by simpa using h8
    simp[nmEnd,h5,h6,h7,h8]
   rw[h8];repeat first|refine Xa ?_|refine Xb ?_|refine Za (ld hB0 rfl) ?_|refine Za (Zf ..) ?_|refine Za (Zg ..) ?_|refine Za rfl ?_
   have h8:x.who=0:=by simpa using h8
   rcases YBE (x.op != 7) with h9|h9
   ·rw[h9];repeat first|refine Zb rfl ?_|refine Yc rfl ?_|refine Qc rfl ?_|refine Zd rfl ?_|refine Za rfl ?_
    have h9:x.op≠7:=by simpa using h9
    simp[nmEnd,h5,h6,h7,h8,h9]
   rw[h9];repeat first|refine Xa ?_|refine Za (ldr (row:=chk cs t) rfl) ?_|refine Za rfl ?_
   have h9:x.op=7:=by simpa using h9
   simp[nmEnd,h6,h8,h9]
  refine Zc (λh=>?_) (λh=>?_)
  ·have e:nmK x.op=2:=by simp at h; simp[nmK,h]
   rw[e] at kk; exact kk
  ·have e:nmK x.op=0:=by simp at h; simp[nmK]; omega
   rw[e] at kk; exact kk
theorem c77(cs:List Cd)(t:Bool)(x:Nm)(hf:nmFit x=true):PC 77 [.rptr (chk cs t) 0,.agg (nmC x)] (.bool (nmOk t x)):=c77' cs t _ x (Nat.le_refl _) hf
end Go.Ah.Tz
end
section
namespace Go.Ah.Tz
open Go.Proofs.Tryz (prog)
attribute [local irreducible] Ans.rd Ans.pu Ans.wr Ans.dr Ans.gr Ans.gw Ans.gl Ans.gd Ans.opt joinK W
theorem cnRo2(cs:List Cd)(t:Bool)(x:Cn):roL [.rptr (chk cs t) 0,.agg (cnC x)]=true:=by rw[YL]; rfl
theorem nmRo2(cs:List Cd)(t:Bool)(x:Nm):roL [.rptr (chk cs t) 0,.agg (nmC x)]=true:=by rw[ZC]; rfl
theorem c226'(cs:List Cd)(hcs:cs.length≤big)(t:Bool):∀(k:Nat) (x:Cn),SizeOf.sizeOf x≤k→cnFit x=true→PC 226 [.rptr (chk cs t) 0,.agg (cnC x)] (.bool (cnOk cs t x))
 |0,x,h,_=>by cases x; simp at h
 |k+1,x,hk,hf=>by
  rw[YL];refine Xd hP g226_ok rfl rfl ?_;unfold g226;refine Zh rfl rfl ?_;rw[ZbG];have hl1:=XJ hf;have hl2:=YJ hf;rw[bigE] at hl1 hl2;generalize hB:([]++[ABlk.box [iv8 x.op,iv8 x.who,.str x.name,.rsl false false 4 (x.nums.map nmC),.rsl false false 5 (x.kids.map cnC)]]:List ABlk)=base;have hB0:hget base 0=.box [iv8 x.op,iv8 x.who,.str x.name,.rsl false false 4 (x.nums.map nmC),.rsl false false 5 (x.kids.map cnC)]:=by rw[←hB]; rfl
  clear hB;repeat first|refine Za (ld hB0 rfl) ?_|refine Za rfl ?_
  have pick:∀K:AVal→Prop,K (.bool (decide (0≤x.op)&&decide (x.op≤2))) →
    VV.gr (.bool (decide (x.op ≥ 0))) true (λk=>VV.rd (Ya 0 [.bptr 0 0] base) k) λt13_4=>
    VV.gr (.bool (decide (x.op ≥ 0))) true (λk=>VV.rd (Xc false 1 [t13_4] base) k) λt14_5=>
    VV.gr (.bool (decide (x.op ≥ 0))) true (λk=>VV.rd (Yh .leq false [t14_5,(.int .i8 2)] base) k) λt15_6=>
    VV.rd (Yi [.bool (decide (x.op ≥ 0)),t15_6,(.bool false)] base) K:=by
   intro K hK;rcases YBE (decide (x.op ≥ 0)) with h|h
   rotate_left
   ·rw[h];repeat first|refine Zb rfl ?_|refine Yc rfl ?_|refine Qc rfl ?_|refine Zd rfl ?_|refine Za rfl ?_
    have h:¬0≤x.op:=by simpa using h
    simpa[h] using hK
   rw[h];repeat first|refine Xa ?_|refine Xb ?_|refine Za (ld hB0 rfl) ?_|refine Za (Zf ..) ?_|refine Za (Zg ..) ?_|refine Za rfl ?_
   have h:0≤x.op:=by simpa using h
   simpa[h] using hK
  refine pick _ ?_;clear pick;refine Yk λkj hkj=>?_;have kk:kj [iv (cnK3 x.op)] base:=by
   rw[hkj]; clear hkj kj;repeat first|refine Za (ld hB0 rfl) ?_|refine Za (Zf ..) ?_|refine Za (Zg ..) ?_|refine Za rfl ?_
   refine Yk λkj hkj=>?_;have kk:kj [iv (if x.op=3 then 1 else 0:Nat)] base:=by
    rw[hkj]; clear hkj kj;repeat first|refine Za (ld hB0 rfl) ?_|refine Za (Zf ..) ?_|refine Za (Zg ..) ?_|refine Za rfl ?_
    have pick:∀K:AVal→Prop,K (.bool (decide (x.op=4∨x.op=5))) →
      VV.gr (.bool (decide (x.op=4))) false (λk=>VV.rd (Ya 0 [.bptr 0 0] base) k) λt24_18=>
      VV.gr (.bool (decide (x.op=4))) false (λk=>VV.rd (Xc false 1 [t24_18] base) k) λt25_19=>
      VV.gr (.bool (decide (x.op=4))) false (λk=>VV.rd (Yh .eql false [t25_19,(.int .i8 5)] base) k) λt26_20=>
      VV.rd (Yi [.bool (decide (x.op=4)),(.bool true),t26_20] base) K:=by
     intro K hK;rcases YBE (decide (x.op=4)) with h|h
     ·rw[h];repeat first|refine Zb rfl ?_|refine Yc rfl ?_|refine Qc rfl ?_|refine Zd rfl ?_|refine Za rfl ?_
      have h:x.op=4:=by simpa using h
      simpa[h] using hK
     rw[h];repeat first|refine Xa ?_|refine Xb ?_|refine Za (ld hB0 rfl) ?_|refine Za (Zf ..) ?_|refine Za (Zg ..) ?_|refine Za rfl ?_
     have h:x.op≠4:=by simpa using h
     simpa[h] using hK
    refine pick _ ?_;clear pick;refine Yk λkj hkj=>?_;have kk:kj [iv (cnK4 x.op)] base:=by
     rw[hkj]; clear hkj kj;repeat first|refine Za (ld hB0 rfl) ?_|refine Za (Zf ..) ?_|refine Za (Zg ..) ?_|refine Za rfl ?_
     have bad1:¬(0≤x.op∧x.op≤6∧x.nums.length=cnK3 x.op∧x.kids.length=cnK4 x.op)→AVal.bool false=AVal.bool (cnTop x.op x.nums.length x.kids.length&&(nmsOk t x.nums&&(cnsOk cs t x.kids&&cnEnd cs x.op x.who x.name))):=by
      intro hn;have:cnTop x.op x.nums.length x.kids.length=false:=by
       rw[Bool.eq_false_iff]; intro hh; simp[cnTop] at hh; exact hn hh
      rw[this]; rfl
     rcases YBE (decide (x.op<0)) with h1|h1
     ·rw[h1];repeat first|refine Zb rfl ?_|refine Yc rfl ?_|refine Qc rfl ?_|refine Zd rfl ?_|refine Za rfl ?_
      refine Ze (bad1 ?_);simp at h1; omega
     rw[h1];repeat first|refine Xa ?_|refine Xb ?_|refine Za (ld hB0 rfl) ?_|refine Za (Zf ..) ?_|refine Za (Zg ..) ?_|refine Za rfl ?_
     rcases YBE (decide (x.op>6)) with h2|h2
     ·rw[h2];repeat first|refine Zb rfl ?_|refine Yc rfl ?_|refine Qc rfl ?_|refine Zd rfl ?_|refine Za rfl ?_
      refine Ze (bad1 ?_);simp at h2; omega
     rw[h2];repeat first|refine Xa ?_|refine Xb ?_|refine Za (ld hB0 rfl) ?_|refine Za (Zf ..) ?_|refine Za (Zg ..) ?_|refine Za rfl ?_
     rcases YBE (((x.nums.map nmC).length:Int) != (cnK3 x.op:Int)) with h3|h3
     ·rw[h3];repeat first|refine Zb rfl ?_|refine Yc rfl ?_|refine Qc rfl ?_|refine Zd rfl ?_|refine Za rfl ?_
      refine Ze (bad1 ?_);simp at h3; omega
     rw[h3];repeat first|refine Xa ?_|refine Xb ?_|refine Za (ld hB0 rfl) ?_|refine Za (Zf ..) ?_|refine Za (Zg ..) ?_|refine Za rfl ?_
     refine Zc (λh4=>bad1 ?_) (λh4=>?_)
     ·simp at h4; omega
     simp at h1 h2 h3 h4;have ht:cnTop x.op x.nums.length x.kids.length=true:=by simp[cnTop]; omega
     rw[ht,Bool.true_and];refine Qi (ι:=Nat) (λi vs σ=>vs=[iv i]∧σ=base∧i≤x.nums.length∧nmsOk t x.nums=nmsOk t (x.nums.drop i)) (λi=>x.nums.length-i) 0 ⟨rfl,rfl,by omega,by simp⟩ ?_;rintro i vs σ again ⟨rfl,rfl,hi,hu⟩ hag;repeat first|refine Za (ld hB0 rfl) ?_|refine Za rfl ?_
     refine Zc (λh=>?_) (λh=>?_)
     ·have h:i<x.nums.length:=by simpa using h
      have hdr:x.nums.drop i=x.nums[i]::x.nums.drop (i+1):=by rw[YLD h]
      rw[hdr,nmsOk] at hu;have hm:x.nums[i]∈x.nums:=List.getElem_mem h;refine Za rfl (Za (ld hB0 rfl) (Za (Zn _ nmC _ _ _ x.nums _ i h) (Za (ldr (nmLd _)) ?_)));refine Yd (c77 cs t _ (QP hf hm)) rfl g77_ok.plain (nmRo2 ..) ?_;refine Za rfl ?_;refine Zc (λh4=>?_) (λh4=>?_)
      ·have h4:nmOk t x.nums[i]=false:=by simpa using h4
       rw[hu,h4]; rfl
      ·have h4:nmOk t x.nums[i]=true:=by simpa using h4
       rw[h4,Bool.true_and] at hu;refine Za (Qj ..) ?_;rw[Qe (n:=i) (by omega)];exact hag (i+1) _ _ (by omega) ⟨rfl,rfl,by omega,hu⟩
     have h:i=x.nums.length:=by simp at h; omega
     subst h;rw[List.drop_length,nmsOk] at hu;rw[hu,Bool.true_and];clear hag hu hi bad1 ht;refine Qi (ι:=Nat) (λi vs s=>vs=[iv i]∧s=σ∧i≤x.kids.length∧cnsOk cs t x.kids=cnsOk cs t (x.kids.drop i)) (λi=>x.kids.length-i) 0 ⟨rfl,rfl,by omega,by simp⟩ ?_;rintro i vs s again ⟨rfl,rfl,hi,hu⟩ hag;repeat first|refine Za (ld hB0 rfl) ?_|refine Za rfl ?_
     refine Zc (λh=>?_) (λh=>?_)
     ·have h:i<x.kids.length:=by simpa using h
      have hdr:x.kids.drop i=x.kids[i]::x.kids.drop (i+1):=by rw[YLD h]
      rw[hdr,cnsOk] at hu;have hm:x.kids[i]∈x.kids:=List.getElem_mem h;refine Za rfl (Za (ld hB0 rfl) (Za (Zn _ cnC _ _ _ x.kids _ i h) (Za (ldr (cnLd _)) ?_)));refine Yd (c226' cs hcs t k _ (by have:=X9 hm; omega) (XP hf hm)) rfl g226_ok.plain (cnRo2 ..) ?_;refine Za rfl ?_;refine Zc (λh4=>?_) (λh4=>?_)
      ·have h4:cnOk cs t x.kids[i]=false:=by simpa using h4
       rw[hu,h4]; rfl
      ·have h4:cnOk cs t x.kids[i]=true:=by simpa using h4
       rw[h4,Bool.true_and] at hu;refine Za (Qj ..) ?_;rw[Qe (n:=i) (by omega)];exact hag (i+1) _ _ (by omega) ⟨rfl,rfl,by omega,hu⟩
     have h:i=x.kids.length:=by simp at h; omega
     subst h;rw[List.drop_length,cnsOk] at hu;rw[hu,Bool.true_and];clear hag hu hi;repeat first|refine Za (ld hB0 rfl) ?_|refine Za (Zf ..) ?_|refine Za (Zg ..) ?_|refine Za rfl ?_
     refine Zc (λh5=>?_) (λh5=>?_)
     ·have h5:x.op=6:=by simpa using h5
      refine Za rfl (Za (ld hB0 rfl) ?_);refine Yd (c121 _) rfl g121_ok.plain rfl ?_;rcases YBE (sdOp x.who) with h6|h6
      rotate_left
      ·rw[h6];repeat first|refine Zb rfl ?_|refine Yc rfl ?_|refine Qc rfl ?_|refine Zd rfl ?_|refine Za rfl ?_
       simp[cnEnd,h5,h6]
      rw[h6];repeat first|refine Xa ?_|refine Xb ?_|refine Za (ld hB0 rfl) ?_|refine Za (Zf ..) ?_|refine Za (Zg ..) ?_|refine Za rfl ?_
      refine Yd (c228 cs hcs t _ _) rfl g228_ok.plain rfl ?_;repeat first|refine Xa ?_|refine Xb ?_|refine Za (ld hB0 rfl) ?_|refine Za (Zf ..) ?_|refine Za (Zg ..) ?_|refine Za rfl ?_
      simp[cnEnd,h5,h6]
     have h5:x.op≠6:=by simpa using h5
     repeat first|refine Za (ld hB0 rfl) ?_|refine Za (Zf ..) ?_|refine Za (Zg ..) ?_|refine Za rfl ?_
     rcases YBE (decide (x.who=0)) with h6|h6
     rotate_left
     ·rw[h6];repeat first|refine Zb rfl ?_|refine Yc rfl ?_|refine Qc rfl ?_|refine Zd rfl ?_|refine Za rfl ?_
      have h6:x.who≠0:=by simpa using h6
      simp[cnEnd,h5,h6]
     rw[h6];repeat first|refine Xa ?_|refine Xb ?_|refine Za (ld hB0 rfl) ?_|refine Za (Zf ..) ?_|refine Za (Zg ..) ?_|refine Za rfl ?_
     have h6:x.who=0:=by simpa using h6
     simp[cnEnd,h5,h6]
    refine Zc (λh=>?_) (λh=>?_)
    ·have e:cnK4 x.op=2:=by simp at h; simp[cnK4]; omega
     rw[e] at kk; exact kk
    ·have e:cnK4 x.op=if x.op=3 then 1 else 0:=by simp at h; simp[cnK4]; omega
     rw[e] at kk; exact kk
   refine Zc (λh=>?_) (λh=>?_)
   ·rw[if_pos (by simpa using h)] at kk; exact kk
   ·rw[if_neg (by simpa using h)] at kk; exact kk
  refine Zc (λh=>?_) (λh=>?_)
  ·have e:cnK3 x.op=2:=by simp at h; simp[cnK3,h]
   rw[e] at kk; exact kk
  ·have e:cnK3 x.op=0:=by simp at h; simp[cnK3]; omega
   rw[e] at kk; exact kk
theorem c226(cs:List Cd)(hcs:cs.length≤big)(t:Bool)(x:Cn)(hf:cnFit x=true):PC 226 [.rptr (chk cs t) 0,.agg (cnC x)] (.bool (cnOk cs t x)):=c226' cs hcs t _ x (Nat.le_refl _) hf
end Go.Ah.Tz
end
section
namespace Go.Ah.Tz
open Go.Proofs.Tryz (prog)
def efMid(t:Bool)(op who:Int):Bool:=if op=0∨op=1 then sdOp who||(decide (who=2)&&t) else decide (who=0)
def efEnd(t:Bool)(op who:Int):Bool:=
 if op=2∨op=4∨op=6 then sdOp who else efMid t op who
mutual
def efOk (cs:List Cd) (t:Bool):Int→Ef→Bool
 | d,.mk op who n name c thn els=>decide (0≤op) && (decide (op≤8) && (if op=8 then
   decide (who=0)&&(noNum n&&(name==[]&&(cnOk cs t c&&((decide (thn.length≤16)&&(decide (d+1≤8)&&efsOk cs t (d+1) thn))&&(decide (els.length≤16)&&(decide (d+1≤8)&&efsOk cs t (d+1) els))))))
  else noCond c && (decide (thn.length=0) && (decide (els.length=0) && ((if cntOp op then nmOk t n else noNum n) && ((if op=7 then findC cs name true else name == []) && efEnd t op who))))))
def efsOk (cs:List Cd) (t:Bool):Int→List Ef→Bool
 |_,[]=>true
 |d,x::l=>efOk cs t d x&&efsOk cs t d l
end
def lstOk(cs:List Cd)(t:Bool)(d:Int)(l:List Ef):Bool:=decide (l.length≤16)&&(decide (d≤8)&&efsOk cs t d l)
theorem ZbM(cs:List Cd)(t:Bool)(d:Int)(x:Ef):efOk cs t d x=(decide (0≤x.op) && (decide (x.op≤8) && (if x.op=8 then
   decide (x.who=0)&&(noNum x.n&&(x.name==[]&&(cnOk cs t x.c&&(lstOk cs t (d+1) x.thn&&lstOk cs t (d+1) x.els))))
  else noCond x.c && (decide (x.thn.length=0) && (decide (x.els.length=0) && ((if cntOp x.op then nmOk t x.n else noNum x.n) && ((if x.op=7 then findC cs x.name true else x.name == []) && efEnd t x.op x.who))))))):=by cases x; rfl
attribute [local irreducible] Ans.rd Ans.pu Ans.wr Ans.dr Ans.gr Ans.gw Ans.gl Ans.gd Ans.opt joinK W
theorem cutF(F:Prop){R G:Prop}(imp:(F→R)→G)(r:F→R):G:=imp r
set_option maxHeartbeats 1000000
theorem c188'(cs:List Cd)(hcs:cs.length≤big)(t:Bool):∀(k:Nat) (l:List Ef) (d:Int),SizeOf.sizeOf l≤k→lsFit l=true→0≤d→PC 188 [.rptr (chk cs t) 0,efV l,iv d] (.bool (lstOk cs t d l))
 |0,l,_,h,_,_=>by cases l<;>simp at h
 |k+1,l,d,hk,hf,hd=>by
  refine Xd hP g188_ok rfl rfl ?_;unfold g188;have hlen:=Zz hf;rw[bigE] at hlen;refine Za rfl (Za rfl ?_);rcases YBE (decide (((l.map efC).length:Int)>16)) with h1|h1
  ·rw[h1];repeat first|refine Zb rfl ?_|refine Yc rfl ?_|refine Qc rfl ?_|refine Zd rfl ?_|refine Za rfl ?_
   refine Ze ?_;have h1:¬l.length≤16:=by simp at h1; omega
   simp[lstOk,h1]
  rw[h1];repeat first|refine Xa ?_|refine Xb ?_|refine Za rfl ?_
  refine Zc (λh2=>?_) (λh2=>?_)
  ·have h2:¬d≤8:=by simp at h2; omega
   simp[lstOk,h2]
  have h1:l.length≤16:=by simp at h1; omega
  have h2:d≤8:=by simp at h2; omega
  have hl:lstOk cs t d l=efsOk cs t d l:=by simp[lstOk,h1,h2]
  rw[hl];clear hl;refine Qi (ι:=Nat) (λi vs σ=>vs=[iv i]∧i≤l.length∧efsOk cs t d l=efsOk cs t d (l.drop i)) (λi=>l.length-i) 0 ⟨rfl,by omega,by simp⟩ ?_;rintro i vs σ again ⟨rfl,hi,hu⟩ hag;refine Za rfl (Za rfl ?_);refine Zc (λh=>?_) (λh=>?_);rotate_left
  ·have h:i=l.length:=by simp at h; omega
   subst h;rw[List.drop_length,efsOk] at hu;rw[hu]
  have h:i<l.length:=by simpa using h
  have hdr:l.drop i=l[i]::l.drop (i+1):=by rw[YLD h]
  rw[hdr,efsOk] at hu;have hm:l[i]∈l:=List.getElem_mem h;have hsz:=List.sizeOf_lt_of_mem hm;have hfx:=YH hf hm;have ix:=λ(s:List ABlk)=>Zn s efC false false 14 l .i64 i h;generalize l[i]=x at hu hsz hfx ix;refine Yk λkj hkj=>?_;have kk:efOk cs t d x=true→∀s,kj [] s:=by
   intro he s;rw[hkj];refine Za (Qj ..) ?_;rw[Qe (n:=i) (by omega)];exact hag (i+1) _ _ (by omega) ⟨rfl,by omega,by rw[hu,he,Bool.true_and]⟩
  have bad:efOk cs t d x=false→AVal.bool false=AVal.bool (efsOk cs t d l):=by
   intro he; rw[hu,he]; rfl
  clear hkj hag;refine Za (ix _) (Za (ldr (efLd x)) ?_);refine Qs (row:=[iv8 x.op,iv8 x.who,iv8 x.n.op,iv x.n.n,iv8 x.n.who,.rsl false false 4 (x.n.kids.map nmC),.str x.name,iv8 x.c.op,iv8 x.c.who,.str x.c.name,.rsl false false 4 (x.c.nums.map nmC),.rsl false false 5 (x.c.kids.map cnC),.rsl false false 14 (x.thn.map efC),.rsl false false 14 (x.els.map efC)]) (row':=[iv8 x.op,iv8 x.who,iv8 x.n.op,iv x.n.n,iv8 x.n.who,.rsl false false 4 (x.n.kids.map nmC),.str x.name,iv8 x.c.op,iv8 x.c.who,.str x.c.name,.rsl false false 4 (x.c.nums.map nmC),.rsl false false 5 (x.c.kids.map cnC),.rsl false false 14 (x.thn.map efC),.rsl false false 14 (x.els.map efC)]) (by rw[XA]; rfl) rfl rfl ?_;have hB0:=Yj σ (ABlk.box [iv8 x.op,iv8 x.who,iv8 x.n.op,iv x.n.n,iv8 x.n.who,.rsl false false 4 (x.n.kids.map nmC),.str x.name,iv8 x.c.op,iv8 x.c.who,.str x.c.name,.rsl false false 4 (x.c.nums.map nmC),.rsl false false 5 (x.c.kids.map cnC),.rsl false false 14 (x.thn.map efC),.rsl false false 14 (x.els.map efC)]);generalize σ++[ABlk.box [iv8 x.op,iv8 x.who,iv8 x.n.op,iv x.n.n,iv8 x.n.who,.rsl false false 4 (x.n.kids.map nmC),.str x.name,iv8 x.c.op,iv8 x.c.who,.str x.c.name,.rsl false false 4 (x.c.nums.map nmC),.rsl false false 5 (x.c.kids.map cnC),.rsl false false 14 (x.thn.map efC),.rsl false false 14 (x.els.map efC)]]=base at hB0 ⊢;generalize σ.length=b at hB0 ⊢;have hN:Xc true 4 [.bptr b 2] base=.ok (.agg (nmC x.n)) [b] []:=ld hB0 (by rw[ZC]; rfl);have hC:Xc true 5 [.bptr b 7] base=.ok (.agg (cnC x.c)) [b] []:=ld hB0 (by rw[YL]; rfl);rw[ZbM] at kk bad;repeat first|refine Za hN ?_|refine Za hC ?_|refine Za (ld hB0 rfl) ?_|refine Za (Zf ..) ?_|refine Za (Zg ..) ?_|refine Za rfl ?_
  rcases YBE (decide (x.op<0)) with a1|a1
  ·rw[a1];repeat first|refine Zb rfl ?_|refine Yc rfl ?_|refine Qc rfl ?_|refine Zd rfl ?_|refine Za rfl ?_
   refine Ze (bad ?_);have a1:¬0≤x.op:=by simp at a1; omega
   simp[a1]
  rw[a1];repeat first|refine Xa ?_|refine Xb ?_|refine Za (ldr (row:=chk cs t) rfl) ?_|refine Za hN ?_|refine Za hC ?_|refine Za (ld hB0 rfl) ?_|refine Za (Zf ..) ?_|refine Za (Zg ..) ?_|refine Za rfl ?_
  refine Zc (λa2=>bad ?_) (λa2=>?_)
  ·have a2:¬x.op≤8:=by simp at a2; omega
   simp[a2]
  have a1:0≤x.op:=by simpa using a1
  have a2:x.op≤8:=by simpa using a2
  simp only[a1,a2,decide_true,Bool.true_and] at kk bad;repeat first|refine Za hN ?_|refine Za hC ?_|refine Za (ld hB0 rfl) ?_|refine Za (Zf ..) ?_|refine Za (Zg ..) ?_|refine Za rfl ?_
  refine Zc (λa3=>?_) (λa3=>?_)
  ·have a3:x.op=8:=by simpa using a3
   rw[if_pos a3] at kk bad;repeat first|refine Za hN ?_|refine Za hC ?_|refine Za (ld hB0 rfl) ?_|refine Za (Zf ..) ?_|refine Za (Zg ..) ?_|refine Za rfl ?_
   rcases YBE (x.who != 0) with a4|a4
   ·rw[a4];repeat first|refine Zb rfl ?_|refine Yc rfl ?_|refine Qc rfl ?_|refine Zd rfl ?_|refine Za rfl ?_
    refine Ze (bad ?_);have a4:x.who≠0:=by simpa using a4
    simp[a4]
   rw[a4];repeat first|refine Xa ?_|refine Xb ?_|refine Za (ldr (row:=chk cs t) rfl) ?_|refine Za hN ?_|refine Za hC ?_|refine Za (ld hB0 rfl) ?_|refine Za (Zf ..) ?_|refine Za (Zg ..) ?_|refine Za rfl ?_
   refine Yd (c225 _) rfl g225_ok.plain (nmRo _) ?_;repeat first|refine Xa ?_|refine Xb ?_|refine Za (ldr (row:=chk cs t) rfl) ?_|refine Za hN ?_|refine Za hC ?_|refine Za (ld hB0 rfl) ?_|refine Za (Zf ..) ?_|refine Za (Zg ..) ?_|refine Za rfl ?_
   rcases YBE (!noNum x.n) with a5|a5
   ·rw[a5];repeat first|refine Zb rfl ?_|refine Yc rfl ?_|refine Qc rfl ?_|refine Zd rfl ?_|refine Za rfl ?_
    refine Ze (bad ?_);have a5:noNum x.n=false:=by simpa using a5
    simp[a5]
   rw[a5];repeat first|refine Xa ?_|refine Xb ?_|refine Za (ldr (row:=chk cs t) rfl) ?_|refine Za hN ?_|refine Za hC ?_|refine Za (ld hB0 rfl) ?_|refine Za (Zf ..) ?_|refine Za (Zg ..) ?_|refine Za rfl ?_
   rcases YBE (!(x.name==[])) with a6|a6
   ·rw[a6];repeat first|refine Zb rfl ?_|refine Yc rfl ?_|refine Qc rfl ?_|refine Zd rfl ?_|refine Za rfl ?_
    refine Ze (bad ?_);have a6:(x.name==[])=false:=by simpa using a6
    rw[a6]; simp
   rw[a6];repeat first|refine Xa ?_|refine Xb ?_|refine Za (ldr (row:=chk cs t) rfl) ?_|refine Za hN ?_|refine Za hC ?_|refine Za (ld hB0 rfl) ?_|refine Za (Zf ..) ?_|refine Za (Zg ..) ?_|refine Za rfl ?_
   refine Yd (c226 cs hcs t _ (ZU hfx)) rfl g226_ok.plain (cnRo2 ..) ?_;repeat first|refine Xa ?_|refine Xb ?_|refine Za (ldr (row:=chk cs t) rfl) ?_|refine Za hN ?_|refine Za hC ?_|refine Za (ld hB0 rfl) ?_|refine Za (Zf ..) ?_|refine Za (Zg ..) ?_|refine Za rfl ?_
   rcases YBE (!cnOk cs t x.c) with a7|a7
   ·rw[a7];repeat first|refine Zb rfl ?_|refine Yc rfl ?_|refine Qc rfl ?_|refine Zd rfl ?_|refine Za rfl ?_
    refine Ze (bad ?_);have a7:cnOk cs t x.c=false:=by simpa using a7
    simp[a7]
   rw[a7];repeat first|refine Xa ?_|refine Xb ?_|refine Za (ldr (row:=chk cs t) rfl) ?_|refine Za hN ?_|refine Za hC ?_|refine Za (ld hB0 rfl) ?_|refine Za (Zf ..) ?_|refine Za (Zg ..) ?_|refine Za rfl ?_
   have hs2:=ZY x;rw[wrapI (n:=d+1) (by omega) (by omega)];refine Yd (c188' cs hcs t k x.thn (d+1) (by omega) (ZH hfx) (by omega)) rfl g188_ok.plain rfl ?_;repeat first|refine Xa ?_|refine Xb ?_|refine Za (ldr (row:=chk cs t) rfl) ?_|refine Za hN ?_|refine Za hC ?_|refine Za (ld hB0 rfl) ?_|refine Za (Zf ..) ?_|refine Za (Zg ..) ?_|refine Za rfl ?_
   rcases YBE (!lstOk cs t (d+1) x.thn) with a8|a8
   ·rw[a8];repeat first|refine Zb rfl ?_|refine Yc rfl ?_|refine Qc rfl ?_|refine Zd rfl ?_|refine Za rfl ?_
    refine Ze (bad ?_);have a8:lstOk cs t (d+1) x.thn=false:=by simpa using a8
    simp[a8]
   rw[a8];repeat first|refine Xa ?_|refine Xb ?_|refine Za (ldr (row:=chk cs t) rfl) ?_|refine Za hN ?_|refine Za hC ?_|refine Za (ld hB0 rfl) ?_|refine Za (Zf ..) ?_|refine Za (Zg ..) ?_|refine Za rfl ?_
   rw[wrapI (n:=d+1) (by omega) (by omega)];refine Yd (c188' cs hcs t k x.els (d+1) (by omega) (QG hfx) (by omega)) rfl g188_ok.plain rfl ?_;repeat first|refine Xa ?_|refine Xb ?_|refine Za (ldr (row:=chk cs t) rfl) ?_|refine Za hN ?_|refine Za hC ?_|refine Za (ld hB0 rfl) ?_|refine Za (Zf ..) ?_|refine Za (Zg ..) ?_|refine Za rfl ?_
   refine Zc (λa9=>bad ?_) (λa9=>kk ?_ _)
   ·have a9:lstOk cs t (d+1) x.els=false:=by simpa using a9
    simp[a9]
   ·simp at a4 a5 a6 a7 a8 a9;simp[a4,a5,a6,a7,a8,a9]
  have a3:x.op≠8:=by simpa using a3
  rw[if_neg a3] at kk bad;repeat first|refine Za hN ?_|refine Za hC ?_|refine Za (ld hB0 rfl) ?_|refine Za (Zf ..) ?_|refine Za (Zg ..) ?_|refine Za rfl ?_
  refine Yd (c227 _) rfl g227_ok.plain (cnRo _) ?_;repeat first|refine Za hN ?_|refine Za hC ?_|refine Za (ld hB0 rfl) ?_|refine Za (Zf ..) ?_|refine Za (Zg ..) ?_|refine Za rfl ?_
  rcases YBE (!noCond x.c) with a4|a4
  ·rw[a4];repeat first|refine Zb rfl ?_|refine Yc rfl ?_|refine Qc rfl ?_|refine Zd rfl ?_|refine Za rfl ?_
   refine Ze (bad ?_);have a4:noCond x.c=false:=by simpa using a4
   simp[a4]
  rw[a4];repeat first|refine Xa ?_|refine Xb ?_|refine Za (ldr (row:=chk cs t) rfl) ?_|refine Za hN ?_|refine Za hC ?_|refine Za (ld hB0 rfl) ?_|refine Za (Zf ..) ?_|refine Za (Zg ..) ?_|refine Za rfl ?_
  rcases YBE (decide (((x.thn.map efC).length:Int)>0)) with a5|a5
  ·rw[a5];repeat first|refine Zb rfl ?_|refine Yc rfl ?_|refine Qc rfl ?_|refine Zd rfl ?_|refine Za rfl ?_
   refine Ze (bad ?_);have a5:x.thn.length≠0:=by simp at a5; omega
   simp[a5]
  rw[a5];repeat first|refine Xa ?_|refine Xb ?_|refine Za (ldr (row:=chk cs t) rfl) ?_|refine Za hN ?_|refine Za hC ?_|refine Za (ld hB0 rfl) ?_|refine Za (Zf ..) ?_|refine Za (Zg ..) ?_|refine Za rfl ?_
  refine Zc (λa6=>bad ?_) (λa6=>?_)
  ·have a6:x.els.length≠0:=by simp at a6; omega
   simp[a6]
  have a4:noCond x.c=true:=by simpa using a4
  have a5:x.thn.length=0:=by simp at a5; simpa using a5
  have a6:x.els.length=0:=by simp at a6; simpa using a6
  simp only[a4,a5,a6,decide_true,Bool.true_and] at kk bad;repeat first|refine Za hN ?_|refine Za hC ?_|refine Za (ld hB0 rfl) ?_|refine Za (Zf ..) ?_|refine Za (Zg ..) ?_|refine Za rfl ?_
  refine Yd (c130 _) rfl g130_ok.plain rfl ?_;apply cutF ((if cntOp x.op then nmOk t x.n else noNum x.n)=true)
  ·intro hR;rcases YBE (cntOp x.op) with c1|c1
   ·rw[c1];repeat first|refine Xa ?_|refine Xb ?_|refine Za (ldr (row:=chk cs t) rfl) ?_|refine Za hN ?_|refine Za hC ?_|refine Za (ld hB0 rfl) ?_|refine Za (Zf ..) ?_|refine Za (Zg ..) ?_|refine Za rfl ?_
    refine Yd (c77 cs t _ (QX hfx)) rfl g77_ok.plain (nmRo2 ..) ?_;repeat first|refine Xa ?_|refine Xb ?_|refine Za (ldr (row:=chk cs t) rfl) ?_|refine Za hN ?_|refine Za hC ?_|refine Za (ld hB0 rfl) ?_|refine Za (Zf ..) ?_|refine Za (Zg ..) ?_|refine Za rfl ?_
    rcases YBE (!nmOk t x.n) with c2|c2
    ·rw[c2];repeat first|refine Zb rfl ?_|refine Yc rfl ?_|refine Qc rfl ?_|refine Zd rfl ?_|refine Za rfl ?_
     refine Ze (bad ?_);have c2:nmOk t x.n=false:=by simpa using c2
     simp[c1,c2]
    rw[c2];repeat first|refine Xa ?_|refine Xb ?_|refine Za (ldr (row:=chk cs t) rfl) ?_|refine Za hN ?_|refine Za hC ?_|refine Za (ld hB0 rfl) ?_|refine Za (Zf ..) ?_|refine Za (Zg ..) ?_|refine Za rfl ?_
    refine Yd (c130 _) rfl g130_ok.plain rfl ?_;rw[c1];repeat first|refine Xa ?_|refine Xb ?_|refine Zb rfl ?_|refine Yc rfl ?_|refine Qc rfl ?_|refine Zd rfl ?_|refine Za (ldr (row:=chk cs t) rfl) ?_|refine Za hN ?_|refine Za hC ?_|refine Za (ld hB0 rfl) ?_|refine Za (Zf ..) ?_|refine Za (Zg ..) ?_|refine Za rfl ?_
    refine Xi ?_;exact hR (by have c2:nmOk t x.n=true:=(by simpa using c2); simp[c1,c2])
   rw[c1];repeat first|refine Xa ?_|refine Xb ?_|refine Zb rfl ?_|refine Yc rfl ?_|refine Qc rfl ?_|refine Zd rfl ?_|refine Za (ldr (row:=chk cs t) rfl) ?_|refine Za hN ?_|refine Za hC ?_|refine Za (ld hB0 rfl) ?_|refine Za (Zf ..) ?_|refine Za (Zg ..) ?_|refine Za rfl ?_
   refine Yd (c130 _) rfl g130_ok.plain rfl ?_;rw[c1];repeat first|refine Xa ?_|refine Xb ?_|refine Za (ldr (row:=chk cs t) rfl) ?_|refine Za hN ?_|refine Za hC ?_|refine Za (ld hB0 rfl) ?_|refine Za (Zf ..) ?_|refine Za (Zg ..) ?_|refine Za rfl ?_
   refine Yd (c225 _) rfl g225_ok.plain (nmRo _) ?_;repeat first|refine Xa ?_|refine Xb ?_|refine Za (ldr (row:=chk cs t) rfl) ?_|refine Za hN ?_|refine Za hC ?_|refine Za (ld hB0 rfl) ?_|refine Za (Zf ..) ?_|refine Za (Zg ..) ?_|refine Za rfl ?_
   refine Zc (λc2=>bad ?_) (λc2=>hR ?_)
   ·have c2:noNum x.n=false:=by simpa using c2
    simp[c1,c2]
   ·have c2:noNum x.n=true:=by simpa using c2
    simp[c1,c2]
  intro b1;rw[b1,Bool.true_and] at kk bad;repeat first|refine Za hN ?_|refine Za hC ?_|refine Za (ld hB0 rfl) ?_|refine Za (Zf ..) ?_|refine Za (Zg ..) ?_|refine Za rfl ?_
  apply cutF ((if x.op=7 then findC cs x.name true else x.name==[])=true)
  ·intro hR;rcases YBE (decide (x.op=7)) with c1|c1
   ·rw[c1];repeat first|refine Xa ?_|refine Xb ?_|refine Za (ldr (row:=chk cs t) rfl) ?_|refine Za hN ?_|refine Za hC ?_|refine Za (ld hB0 rfl) ?_|refine Za (Zf ..) ?_|refine Za (Zg ..) ?_|refine Za rfl ?_
    refine Yd (c228 cs hcs t _ _) rfl g228_ok.plain rfl ?_;repeat first|refine Xa ?_|refine Xb ?_|refine Za (ldr (row:=chk cs t) rfl) ?_|refine Za hN ?_|refine Za hC ?_|refine Za (ld hB0 rfl) ?_|refine Za (Zf ..) ?_|refine Za (Zg ..) ?_|refine Za rfl ?_
    have c1:x.op=7:=by simpa using c1
    rcases YBE (!findC cs x.name true) with c2|c2
    ·rw[c2];repeat first|refine Zb rfl ?_|refine Yc rfl ?_|refine Qc rfl ?_|refine Zd rfl ?_|refine Za rfl ?_
     refine Ze (bad ?_);have c2:findC cs x.name true=false:=by simpa using c2
     simp[c1,c2]
    rw[c2];repeat first|refine Xa ?_|refine Xb ?_|refine Za (ldr (row:=chk cs t) rfl) ?_|refine Za hN ?_|refine Za hC ?_|refine Za (ld hB0 rfl) ?_|refine Za (Zf ..) ?_|refine Za (Zg ..) ?_|refine Za rfl ?_
    have c3:(x.op != 7)=false:=by simpa using c1
    rw[c3];repeat first|refine Xa ?_|refine Xb ?_|refine Zb rfl ?_|refine Yc rfl ?_|refine Qc rfl ?_|refine Zd rfl ?_|refine Za (ldr (row:=chk cs t) rfl) ?_|refine Za hN ?_|refine Za hC ?_|refine Za (ld hB0 rfl) ?_|refine Za (Zf ..) ?_|refine Za (Zg ..) ?_|refine Za rfl ?_
    refine Xi ?_;exact hR (by have c2:findC cs x.name true=true:=(by simpa using c2); simp[c1,c2])
   rw[c1];repeat first|refine Xa ?_|refine Xb ?_|refine Zb rfl ?_|refine Yc rfl ?_|refine Qc rfl ?_|refine Zd rfl ?_|refine Za (ldr (row:=chk cs t) rfl) ?_|refine Za hN ?_|refine Za hC ?_|refine Za (ld hB0 rfl) ?_|refine Za (Zf ..) ?_|refine Za (Zg ..) ?_|refine Za rfl ?_
   have c1:x.op≠7:=by simpa using c1
   have c3:(x.op != 7)=true:=by simpa using c1
   rw[c3];repeat first|refine Xa ?_|refine Xb ?_|refine Za (ldr (row:=chk cs t) rfl) ?_|refine Za hN ?_|refine Za hC ?_|refine Za (ld hB0 rfl) ?_|refine Za (Zf ..) ?_|refine Za (Zg ..) ?_|refine Za rfl ?_
   refine Zc (λc2=>bad ?_) (λc2=>hR ?_)
   ·have c2:(x.name==[])=false:=by simpa using c2
    rw[if_neg c1,c2]; rfl
   ·have c2:(x.name==[])=true:=by simpa using c2
    rw[if_neg c1,c2]
  intro b2;rw[b2,Bool.true_and] at kk bad;repeat first|refine Za hN ?_|refine Za hC ?_|refine Za (ld hB0 rfl) ?_|refine Za (Zf ..) ?_|refine Za (Zg ..) ?_|refine Za rfl ?_
  have fin:∀s,VV.rd (Qn .not [.bool (efEnd t x.op x.who)] s) λt177_151=>VV.test t177_151 (AVal.bool false=AVal.bool (efsOk cs t d l)) (kj [] s):=by
   intro s;refine Za rfl ?_;refine Zc (λc=>bad ?_) (λc=>kk ?_ _)
   ·simpa using c
   ·simpa using c
  rcases YBE (decide (x.op=0)) with e1|e1
  ·rw[e1];repeat first|refine Xa ?_|refine Xb ?_|refine Zb rfl ?_|refine Yc rfl ?_|refine Qc rfl ?_|refine Zd rfl ?_|refine Za (ldr (row:=chk cs t) rfl) ?_|refine Za hN ?_|refine Za hC ?_|refine Za (ld hB0 rfl) ?_|refine Za (Zf ..) ?_|refine Za (Zg ..) ?_|refine Za rfl ?_
   have e1:x.op=0:=by simpa using e1
   refine Yk λk1 hk1=>?_;have m1:k1 [.bool (efMid t x.op x.who)] base:=by
    rw[hk1];repeat first|refine Za hN ?_|refine Za hC ?_|refine Za (ld hB0 rfl) ?_|refine Za (Zf ..) ?_|refine Za (Zg ..) ?_|refine Za rfl ?_
    rw[show decide (x.op=2)=false by simp[e1]];repeat first|refine Xa ?_|refine Xb ?_|refine Za (ldr (row:=chk cs t) rfl) ?_|refine Za hN ?_|refine Za hC ?_|refine Za (ld hB0 rfl) ?_|refine Za (Zf ..) ?_|refine Za (Zg ..) ?_|refine Za rfl ?_
    rw[show decide (x.op=4)=false by simp[e1]];repeat first|refine Xa ?_|refine Xb ?_|refine Za (ldr (row:=chk cs t) rfl) ?_|refine Za hN ?_|refine Za hC ?_|refine Za (ld hB0 rfl) ?_|refine Za (Zf ..) ?_|refine Za (Zg ..) ?_|refine Za rfl ?_
    rw[show decide (x.op=6)=false by simp[e1]];refine XM (Xi ?_);have:=fin base;rw[show efEnd t x.op x.who=efMid t x.op x.who by simp[efEnd,e1]] at this;exact this
   clear hk1;refine Ze ?_;repeat first|refine Za hN ?_|refine Za hC ?_|refine Za (ld hB0 rfl) ?_|refine Za (Zf ..) ?_|refine Za (Zg ..) ?_|refine Za rfl ?_
   refine Yd (c121 _) rfl g121_ok.plain rfl ?_;rw[show efMid t x.op x.who=(sdOp x.who||(decide (x.who=2)&&t)) by simp[efMid,e1]] at m1;rcases YBE (sdOp x.who) with e2|e2
   ·rw[e2] at m1 ⊢;repeat first|refine Xa ?_|refine Xb ?_|refine Zb rfl ?_|refine Yc rfl ?_|refine Qc rfl ?_|refine Zd rfl ?_|refine Za (ldr (row:=chk cs t) rfl) ?_|refine Za hN ?_|refine Za hC ?_|refine Za (ld hB0 rfl) ?_|refine Za (Zf ..) ?_|refine Za (Zg ..) ?_|refine Za rfl ?_
    exact m1
   rw[e2] at m1 ⊢;repeat first|refine Xa ?_|refine Xb ?_|refine Za (ldr (row:=chk cs t) rfl) ?_|refine Za hN ?_|refine Za hC ?_|refine Za (ld hB0 rfl) ?_|refine Za (Zf ..) ?_|refine Za (Zg ..) ?_|refine Za rfl ?_
   rcases YBE (decide (x.who=2)) with e3|e3
   ·rw[e3] at m1 ⊢;repeat first|refine Xa ?_|refine Xb ?_|refine Zb rfl ?_|refine Yc rfl ?_|refine Qc rfl ?_|refine Zd rfl ?_|refine Za (ldr (row:=chk cs t) rfl) ?_|refine Za hN ?_|refine Za hC ?_|refine Za (ld hB0 rfl) ?_|refine Za (Zf ..) ?_|refine Za (Zg ..) ?_|refine Za rfl ?_
    exact m1
   rw[e3] at m1 ⊢;repeat first|refine Xa ?_|refine Xb ?_|refine Zb rfl ?_|refine Yc rfl ?_|refine Qc rfl ?_|refine Zd rfl ?_|refine Za (ldr (row:=chk cs t) rfl) ?_|refine Za hN ?_|refine Za hC ?_|refine Za (ld hB0 rfl) ?_|refine Za (Zf ..) ?_|refine Za (Zg ..) ?_|refine Za rfl ?_
   exact m1
  rw[e1];repeat first|refine Xa ?_|refine Xb ?_|refine Za (ldr (row:=chk cs t) rfl) ?_|refine Za hN ?_|refine Za hC ?_|refine Za (ld hB0 rfl) ?_|refine Za (Zf ..) ?_|refine Za (Zg ..) ?_|refine Za rfl ?_
  have e1:x.op≠0:=by simpa using e1
  refine Yk λk1 hk1=>?_;have m1:k1 [.bool (efMid t x.op x.who)] base:=by
   rw[hk1];repeat first|refine Za hN ?_|refine Za hC ?_|refine Za (ld hB0 rfl) ?_|refine Za (Zf ..) ?_|refine Za (Zg ..) ?_|refine Za rfl ?_
   rcases YBE (decide (x.op=2)) with e3|e3
   ·rw[e3];repeat first|refine Xa ?_|refine Xb ?_|refine Zb rfl ?_|refine Yc rfl ?_|refine Qc rfl ?_|refine Zd rfl ?_|refine Za (ldr (row:=chk cs t) rfl) ?_|refine Za hN ?_|refine Za hC ?_|refine Za (ld hB0 rfl) ?_|refine Za (Zf ..) ?_|refine Za (Zg ..) ?_|refine Za rfl ?_
    have e3:x.op=2:=by simpa using e3
    refine XM (Ze ?_);repeat first|refine Za hN ?_|refine Za hC ?_|refine Za (ld hB0 rfl) ?_|refine Za (Zf ..) ?_|refine Za (Zg ..) ?_|refine Za rfl ?_
    refine Yd (c121 _) rfl g121_ok.plain rfl ?_;have:=fin base;rw[show efEnd t x.op x.who=sdOp x.who by simp[efEnd,e3]] at this;exact this
   rw[e3];repeat first|refine Xa ?_|refine Xb ?_|refine Za (ldr (row:=chk cs t) rfl) ?_|refine Za hN ?_|refine Za hC ?_|refine Za (ld hB0 rfl) ?_|refine Za (Zf ..) ?_|refine Za (Zg ..) ?_|refine Za rfl ?_
   rcases YBE (decide (x.op=4)) with e4|e4
   ·rw[e4];repeat first|refine Xa ?_|refine Xb ?_|refine Zb rfl ?_|refine Yc rfl ?_|refine Qc rfl ?_|refine Zd rfl ?_|refine Za (ldr (row:=chk cs t) rfl) ?_|refine Za hN ?_|refine Za hC ?_|refine Za (ld hB0 rfl) ?_|refine Za (Zf ..) ?_|refine Za (Zg ..) ?_|refine Za rfl ?_
    have e4:x.op=4:=by simpa using e4
    refine XM (Ze ?_);repeat first|refine Za hN ?_|refine Za hC ?_|refine Za (ld hB0 rfl) ?_|refine Za (Zf ..) ?_|refine Za (Zg ..) ?_|refine Za rfl ?_
    refine Yd (c121 _) rfl g121_ok.plain rfl ?_;have:=fin base;rw[show efEnd t x.op x.who=sdOp x.who by simp[efEnd,e4]] at this;exact this
   rw[e4];repeat first|refine Xa ?_|refine Xb ?_|refine Za (ldr (row:=chk cs t) rfl) ?_|refine Za hN ?_|refine Za hC ?_|refine Za (ld hB0 rfl) ?_|refine Za (Zf ..) ?_|refine Za (Zg ..) ?_|refine Za rfl ?_
   refine XM (Zc (λe5=>?_) (λe5=>?_))
   ·have e5:x.op=6:=by simpa using e5
    repeat first|refine Za hN ?_|refine Za hC ?_|refine Za (ld hB0 rfl) ?_|refine Za (Zf ..) ?_|refine Za (Zg ..) ?_|refine Za rfl ?_
    refine Yd (c121 _) rfl g121_ok.plain rfl ?_;have:=fin base;rw[show efEnd t x.op x.who=sdOp x.who by simp[efEnd,e5]] at this;exact this
   ·simp at e3 e4 e5;have:=fin base;rw[show efEnd t x.op x.who=efMid t x.op x.who by simp[efEnd,e3,e4,e5]] at this;exact this
  clear hk1;refine Zc (λe2=>?_) (λe2=>?_);rotate_left
  ·have e2:x.op≠1:=by simpa using e2
   rw[show efMid t x.op x.who=decide (x.who=0) by simp[efMid,e1,e2]] at m1;exact m1
  have e2:x.op=1:=by simpa using e2
  repeat first|refine Za hN ?_|refine Za hC ?_|refine Za (ld hB0 rfl) ?_|refine Za (Zf ..) ?_|refine Za (Zg ..) ?_|refine Za rfl ?_
  refine Yd (c121 _) rfl g121_ok.plain rfl ?_;rw[show efMid t x.op x.who=(sdOp x.who||(decide (x.who=2)&&t)) by simp[efMid,e2]] at m1;rcases YBE (sdOp x.who) with e2|e2
  ·rw[e2] at m1 ⊢;repeat first|refine Xa ?_|refine Xb ?_|refine Zb rfl ?_|refine Yc rfl ?_|refine Qc rfl ?_|refine Zd rfl ?_|refine Za (ldr (row:=chk cs t) rfl) ?_|refine Za hN ?_|refine Za hC ?_|refine Za (ld hB0 rfl) ?_|refine Za (Zf ..) ?_|refine Za (Zg ..) ?_|refine Za rfl ?_
   exact m1
  rw[e2] at m1 ⊢;repeat first|refine Xa ?_|refine Xb ?_|refine Za (ldr (row:=chk cs t) rfl) ?_|refine Za hN ?_|refine Za hC ?_|refine Za (ld hB0 rfl) ?_|refine Za (Zf ..) ?_|refine Za (Zg ..) ?_|refine Za rfl ?_
  rcases YBE (decide (x.who=2)) with e3|e3
  ·rw[e3] at m1 ⊢;repeat first|refine Xa ?_|refine Xb ?_|refine Zb rfl ?_|refine Yc rfl ?_|refine Qc rfl ?_|refine Zd rfl ?_|refine Za (ldr (row:=chk cs t) rfl) ?_|refine Za hN ?_|refine Za hC ?_|refine Za (ld hB0 rfl) ?_|refine Za (Zf ..) ?_|refine Za (Zg ..) ?_|refine Za rfl ?_
   exact m1
  rw[e3] at m1 ⊢;repeat first|refine Xa ?_|refine Xb ?_|refine Zb rfl ?_|refine Yc rfl ?_|refine Qc rfl ?_|refine Zd rfl ?_|refine Za (ldr (row:=chk cs t) rfl) ?_|refine Za hN ?_|refine Za hC ?_|refine Za (ld hB0 rfl) ?_|refine Za (Zf ..) ?_|refine Za (Zg ..) ?_|refine Za rfl ?_
  exact m1
theorem c188(cs:List Cd)(hcs:cs.length≤big)(t:Bool)(l:List Ef)(d:Int)(hf:lsFit l=true)(hd:0≤d):PC 188 [.rptr (chk cs t) 0,efV l,iv d] (.bool (lstOk cs t d l)):=c188' cs hcs t _ l d (Nat.le_refl _) hf hd
end Go.Ah.Tz
end
section
namespace Go.Ah.Tz
open Go.Proofs.Tryz (prog)
def isLet(x:Int):Bool:=decide ((97≤x∧x≤122)∨(65≤x∧x≤90)∨(192≤x∧x≤591∧x≠215∧x≠247))
def isDig(x:Int):Bool:=decide (48≤x∧x≤57)
def shl6(x:Int):Int:=IntKind.i64.wrap (x*2 ^ (min 6 IntKind.i64.bits))
def rStep(x:Int)(c:UInt8):Int:=bits .or .i64 (shl6 x) (IntKind.i64.wrap (bits .and .u8 (c.toNat:Int) 63))
def rCont(c:UInt8):Bool:=(bits .and .u8 (c.toNat:Int) 192 != 128)
def rTail(s:Tx)(at_:Nat):Nat→Nat→Int→Option Int
 |0,_,x=>some x
 |m+1,i,x=>match s[at_+i]? with
  |none=>none
  |some c=>if rCont c then none else rTail s at_ m (i+1) (rStep x c)
def rHead(c:Int):Option (Nat×Int×Int):=
 if 192≤c∧c<224 then some (2,bits .and .i64 c 31,128) else if 224≤c∧c<240 then some (3,bits .and .i64 c 15,2048) else if 240≤c∧c<248 then some (4,bits .and .i64 c 7,65536) else if 128≤c then none else some (1,c,0)
def rEnd(n:Nat)(least:Int):Option Int→Int×Nat
 |none=>(0,0)
 |some y=>if y<least∨1114111<y∨(55296≤y∧y≤57343) then (0,0) else (y,n)
def runeR(s:Tx)(at_:Nat):Int×Nat:=match s[at_]? with
 |none=>(0,0)
 |some c=>match rHead c.toNat with
  |none=>(0,0)
  |some (n,x,least)=>rEnd n least (rTail s at_ (n-1) 1 x)
def Zam(s:Tx)(at_ n:Nat):Prop:=(runeR s at_).2=0∨(isLet (runeR s at_).1=false∧(n=0∨(isDig (runeR s at_).1=false∧(runeR s at_).1≠39)))
instance (s:Tx) (at_ n:Nat):Decidable (Zam s at_ n):=inferInstanceAs (Decidable (_∨_))
def nameR(s:Tx)(at_ n:Nat):Nat×Nat:=
 if _h:at_<s.length then (if hk:Zam s at_ n then (at_,n) else nameR s (at_+(runeR s at_).2) (n+1)) else (at_,n)
termination_by s.length-at_
decreasing_by
 have:(runeR s at_).2≠0:=λe=>hk (Or.inl e);omega
def ownIn:List Tx→Tx→Bool
 |[],_=>false
 |k::l,s=>k==s||ownIn l s
def keysR:List Tx:=[[99,97,114,100],
 [117,110,105,116],
 [99,104,97,114,109],
 [102,111,114,109,97,116],
 [112,108,97,121,101,100],
 [100,101,97,100],
 [100,97,119,110],
 [97,117,114,97],
 [115,104,105,101,108,100],
 [104,97,114,109],
 [109,101,110,100],
 [100,114,97,119],
 [103,97,105,110],
 [100,114,111,112],
 [108,111,111,107],
 [115,104,111,119],
 [115,117,109,109,111,110],
 [105,102],
 [101,108,115,101],
 [109,101],
 [102,111,101],
 [116,97,114,103,101,116],
 [108,105,102,101],
 [104,97,110,100],
 [100,101,99,107],
 [117,110,105,116,115],
 [109,97,110,97],
 [99,111,115,116],
 [116,111,112],
 [112,111,119,101,114],
 [109,105,110],
 [109,97,120],
 [110,111,116],
 [97,110,100],
 [111,114],
 [104,111,108,100,115],
 [108,101,97,115,116],
 [109,111,115,116],
 [99,111,112,105,101,115],
 [98,97,110,110,101,100],
 [115,105,110,103,108,101]]
def nameOk(s:Tx):Bool:=decide (1≤(nameR s 0 0).2)&&(decide ((nameR s 0 0).2≤24)&&(decide ((nameR s 0 0).1=s.length)&&(decide (s.length≤40) && !ownIn keysR s)))
attribute [local irreducible] Ans.rd Ans.pu Ans.wr Ans.dr Ans.gr Ans.gw Ans.gl Ans.gd Ans.opt joinK W
theorem X0{P:Program}{GL:Globs}{c d:Bool}{K:AVal→Prop}{r1:SRes}{f2:AVal→SRes}{σ:List ABlk}{v1:AVal}(h1:r1=.ok v1 [] [])(h2:f2 v1=.ok (.bool d) [] [])(hK:K (.bool (c&&d))) :
  (W P GL).gr (.bool c) true (λk=>(W P GL).rd r1 k) λt1=>(W P GL).gr (.bool c) true (λk=>(W P GL).rd (f2 t1) k) λt2=>(W P GL).rd (Yi [.bool c,t2,.bool false] σ) K:=by
 cases c with
 |true=>exact Xa (Za h1 (Xa (Za h2 (Za rfl hK))))
 |false=>exact Zb rfl (Zb rfl (Za rfl hK))
theorem c198(x:Int):PC 198 [iv x] (.bool (isDig x)):=by
 refine Xd hP g198_ok rfl rfl ?_;unfold g198;refine Za rfl ?_;rcases YBE (decide (x ≥ 48)) with h|h
 rotate_left
 ·rw[h];repeat first|refine Zb rfl ?_|refine Yc rfl ?_|refine Qc rfl ?_|refine Zd rfl ?_|refine Za rfl ?_
  have h:¬48≤x:=by simpa using h
  simp[isDig,h]
 rw[h];repeat first|refine Xa ?_|refine Xb ?_|refine Za rfl ?_
 have h:48≤x:=by simpa using h
 exact congrArg AVal.bool (by rw[Bool.eq_iff_iff]; simp[isDig,h])
theorem c197(x:Int):PC 197 [iv x] (.bool (isLet x)):=by
 refine Xd hP g197_ok rfl rfl ?_;unfold g197;refine Za rfl ?_;apply cutF (¬(97≤x∧x≤122))
 ·intro hR;rcases YBE (decide (x ≥ 97)) with h|h
  ·rw[h];repeat first|refine Xa ?_|refine Xb ?_|refine Za rfl ?_
   have h:97≤x:=by simpa using h
   rcases YBE (decide (x≤122)) with h2|h2
   ·rw[h2];repeat first|refine Xa ?_|refine Xb ?_|refine Zb rfl ?_|refine Yc rfl ?_|refine Qc rfl ?_|refine Zd rfl ?_|refine Za rfl ?_
    have h2:x≤122:=by simpa using h2
    simp[isLet,h,h2]
   rw[h2];have h2:¬x≤122:=by simpa using h2
   repeat first|refine Xa ?_|refine Xb ?_|refine Zb rfl ?_|refine Yc rfl ?_|refine Qc rfl ?_|refine Zd rfl ?_|refine Za rfl ?_
   exact hR (by omega)
  rw[h];have h:¬97≤x:=by simpa using h
  repeat first|refine Xa ?_|refine Xb ?_|refine Zb rfl ?_|refine Yc rfl ?_|refine Qc rfl ?_|refine Zd rfl ?_|refine Za rfl ?_
  exact hR (by omega)
 intro n1;apply cutF (¬(65≤x∧x≤90))
 ·intro hR;rcases YBE (decide (x ≥ 65)) with h|h
  ·rw[h];repeat first|refine Xa ?_|refine Xb ?_|refine Za rfl ?_
   have h:65≤x:=by simpa using h
   rcases YBE (decide (x≤90)) with h2|h2
   ·rw[h2];repeat first|refine Xa ?_|refine Xb ?_|refine Zb rfl ?_|refine Yc rfl ?_|refine Qc rfl ?_|refine Zd rfl ?_|refine Za rfl ?_
    have h2:x≤90:=by simpa using h2
    simp[isLet,h,h2]
   rw[h2];have h2:¬x≤90:=by simpa using h2
   repeat first|refine Xa ?_|refine Xb ?_|refine Zb rfl ?_|refine Yc rfl ?_|refine Qc rfl ?_|refine Zd rfl ?_|refine Za rfl ?_
   exact hR (by omega)
  rw[h];have h:¬65≤x:=by simpa using h
  repeat first|refine Xa ?_|refine Xb ?_|refine Zb rfl ?_|refine Yc rfl ?_|refine Qc rfl ?_|refine Zd rfl ?_|refine Za rfl ?_
  exact hR (by omega)
 intro n2;rcases YBE (decide (x ≥ 192)) with h1|h1
 rotate_left
 ·rw[h1];repeat first|refine Xa ?_|refine Xb ?_|refine Zb rfl ?_|refine Yc rfl ?_|refine Qc rfl ?_|refine Zd rfl ?_|refine Za rfl ?_
  exact congrArg AVal.bool (by rw[Bool.eq_iff_iff]; simp at h1; simp[isLet]; omega)
 rw[h1];repeat first|refine Xa ?_|refine Xb ?_|refine Za rfl ?_
 rcases YBE (decide (x≤591)) with h2|h2
 rotate_left
 ·rw[h2];repeat first|refine Xa ?_|refine Xb ?_|refine Zb rfl ?_|refine Yc rfl ?_|refine Qc rfl ?_|refine Zd rfl ?_|refine Za rfl ?_
  exact congrArg AVal.bool (by rw[Bool.eq_iff_iff]; simp at h2; simp[isLet]; omega)
 rw[h2];repeat first|refine Xa ?_|refine Xb ?_|refine Za rfl ?_
 rcases YBE (x != 215) with h3|h3
 rotate_left
 ·rw[h3];repeat first|refine Xa ?_|refine Xb ?_|refine Zb rfl ?_|refine Yc rfl ?_|refine Qc rfl ?_|refine Zd rfl ?_|refine Za rfl ?_
  exact congrArg AVal.bool (by rw[Bool.eq_iff_iff]; simp at h3; simp[isLet]; omega)
 rw[h3];repeat first|refine Xa ?_|refine Xb ?_|refine Za rfl ?_
 exact congrArg AVal.bool (by rw[Bool.eq_iff_iff]; simp at h1 h2 h3; simp[isLet]; omega)
theorem c196(s:Tx)(hs:s.length≤big)(a:Nat)(ha:a<s.length):PC 196 [.str s,iv a] (.tup [iv (runeR s a).1,iv (runeR s a).2]):=by
 rw[bigE] at hs;refine Xd hP g196_ok rfl rfl ?_;unfold g196;refine Za (YbL _ s .i64 a ha) (Za (Ycb ..) ?_);have hc:s[a].toNat<256:=s[a].toNat_lt;rw[wrapI (n:=(s[a].toNat:Int)) (by omega) (by omega)];have hr:runeR s a=match rHead s[a].toNat with
  |none=>(0,0)
  |some (n,x,least)=>rEnd n least (rTail s a (n-1) 1 x):=by
  rw[runeR,List.getElem?_eq_getElem ha]
 generalize s[a].toNat=c0 at hr hc ⊢;obtain⟨c,hcc⟩:∃c:Int,c=(c0:Int):=⟨_,rfl⟩;rw[←hcc] at hr ⊢;have hc2:0≤c∧c<256:=by omega
 clear hcc hc;refine Za rfl ?_;refine X0 rfl rfl ?_;refine Yk λkj hkj=>?_;have zero:∀y:Option Int,y=none→∀n least,AVal.tup [iv 0,iv 0]=AVal.tup [iv (rEnd n least y).1,iv (rEnd n least y).2]:=by
  rintro _ rfl n least; rfl
 have kk:∀(n:Nat) (x least:Int),1≤n→n≤4→rHead c=some (n,x,least)→kj [iv n,iv x,iv least] []:=by
  intro n x least n1 n4 hh;rw[hkj]; clear hkj kj;rw[hh] at hr
  replace hr:runeR s a=rEnd n least (rTail s a (n-1) 1 x):=hr
  rw[hr];clear hr hh;refine Qi (ι:=Nat) (λi vs σ=>∃y,vs=[iv i,iv y]∧1≤i∧i≤n∧rTail s a (n-1) 1 x=rTail s a (n-i) i y) (λi=>n-i) 1 ⟨x,rfl,by omega,by omega,rfl⟩ ?_;rintro i vs σ again ⟨y,rfl,i1,i2,hu⟩ hag;refine Za rfl ?_;refine Zc (λh=>?_) (λh=>?_)
  ·have h:i<n:=by simpa using h
   have hadd:∀σ,Yh .add false [iv a,iv i] σ=.ok (iv ((a+i:Nat):Int)) [] []:=λσ=>by
    rw[Qj,wrapI (by omega) (by omega)]; rfl
   have hni:n-i=(n-(i+1))+1:=by omega
   rw[hni,rTail] at hu;refine Za (hadd _) (Za rfl (Za rfl ?_));rcases YBE (decide (((a+i:Nat):Int) ≥ (s.length:Int))) with h1|h1
   ·rw[h1];repeat first|refine Xa ?_|refine Xb ?_|refine Zb rfl ?_|refine Yc rfl ?_|refine Qc rfl ?_|refine Zd rfl ?_|refine Za rfl ?_
    refine Ze ?_;have h1:s.length≤a+i:=by simp at h1; omega
    rw[List.getElem?_eq_none h1] at hu;exact zero _ hu _ _
   rw[h1];have h1:a+i<s.length:=by simp at h1; omega
   have hix:∀σ,Yv [.str s,iv ((a+i:Nat):Int)] σ=.ok (.int .u8 s[a+i].toNat) [] []:=λσ=>YbL _ s .i64 (a+i) h1;rw[List.getElem?_eq_getElem h1] at hu;generalize s[a+i]=q at hu hix;repeat first|refine Xa ?_|refine Za (hadd _) ?_|refine Za (hix _) ?_|refine Za rfl ?_
   refine Zc (λh2=>?_) (λh2=>?_)
   ·have h2:rCont q=true:=h2;simp only[h2,if_true] at hu;exact zero _ hu _ _
   ·have h2:rCont q=false:=h2;simp only[h2,Bool.false_eq_true,if_false] at hu;refine Za rfl (Za (hadd _) (Za (hix _) (Za rfl (Za (Ycb ..) (Za rfl (Za (Qj ..) ?_))))));rw[Qe (n:=i) (by omega)];exact hag (i+1) _ _ (by omega) ⟨_,rfl,by omega,by omega,hu⟩
  ·have h:i=n:=by simp at h; omega
   subst h;rw[Nat.sub_self,rTail] at hu;rw[hu];clear hu hag zero;refine Za rfl ?_;have bad:(y<least∨1114111<y∨(55296≤y∧y≤57343))→AVal.tup [iv 0,iv 0]=AVal.tup [iv (rEnd i least (some y)).1,iv (rEnd i least (some y)).2]:=by
    intro hb; rw[rEnd,if_pos hb]; rfl
   have good:¬(y<least∨1114111<y∨(55296≤y∧y≤57343))→AVal.tup [iv y,iv i]=AVal.tup [iv (rEnd i least (some y)).1,iv (rEnd i least (some y)).2]:=by
    intro hb; rw[rEnd,if_neg hb]
   rcases YBE (decide (y<least)) with h1|h1
   ·rw[h1];repeat first|refine Xa ?_|refine Xb ?_|refine Zb rfl ?_|refine Yc rfl ?_|refine Qc rfl ?_|refine Zd rfl ?_|refine Za rfl ?_
    exact Ze (bad (by simp at h1; omega))
   rw[h1];repeat first|refine Xa ?_|refine Xb ?_|refine Za rfl ?_
   rcases YBE (decide (y>1114111)) with h2|h2
   ·rw[h2];repeat first|refine Xa ?_|refine Xb ?_|refine Zb rfl ?_|refine Yc rfl ?_|refine Qc rfl ?_|refine Zd rfl ?_|refine Za rfl ?_
    exact Ze (bad (by simp at h2; omega))
   rw[h2];repeat first|refine Xa ?_|refine Xb ?_|refine Za rfl ?_
   rcases YBE (decide (y ≥ 55296)) with h3|h3
   ·rw[h3];repeat first|refine Xa ?_|refine Xb ?_|refine Za rfl ?_
    refine Zc (λh4=>bad ?_) (λh4=>good ?_)
    ·simp at h3 h4; omega
    ·simp at h1 h2 h3 h4; omega
   rw[h3];repeat first|refine Xa ?_|refine Xb ?_|refine Zb rfl ?_|refine Yc rfl ?_|refine Qc rfl ?_|refine Zd rfl ?_|refine Za rfl ?_
   exact Xi (good (by simp at h1 h2 h3; omega))
 clear hkj;refine Zc (λh=>?_) (λn1=>?_)
 ·have h:192≤c∧c<224:=by simpa using h
  refine Za rfl (kk 2 _ _ (by omega) (by omega) ?_);rw[rHead,if_pos h]
 have n1:¬(192≤c∧c<224):=by simp at n1; omega
 refine Za rfl (X0 rfl rfl ?_);refine Zc (λh=>?_) (λn2=>?_)
 ·have h:224≤c∧c<240:=by simpa using h
  refine Za rfl (kk 3 _ _ (by omega) (by omega) ?_);rw[rHead,if_neg n1,if_pos h]
 have n2:¬(224≤c∧c<240):=by simp at n2; omega
 refine Za rfl (X0 rfl rfl ?_);refine Zc (λh=>?_) (λn3=>?_)
 ·have h:240≤c∧c<248:=by simpa using h
  refine Za rfl (kk 4 _ _ (by omega) (by omega) ?_);rw[rHead,if_neg n1,if_neg n2,if_pos h]
 have n3:¬(240≤c∧c<248):=by simp at n3; omega
 refine Za rfl ?_;refine Zc (λh=>?_) (λh=>?_)
 ·have h:128≤c:=by simpa using h
  have e:rHead c=none:=by rw[rHead,if_neg n1,if_neg n2,if_neg n3,if_pos h]
  rw[hr,e]; rfl
 ·have h:¬128≤c:=by simpa using h
  exact kk 1 _ _ (by omega) (by omega) (by rw[rHead,if_neg n1,if_neg n2,if_neg n3,if_neg h])
theorem Zb6{c:Int}{n:Nat}{x least:Int}(h:rHead c=some (n,x,least)):n≤4:=by
 unfold rHead at h;repeat (split at h; first|(cases h; omega)|skip)
 all_goals first|(cases h; omega)|cases h
theorem Ybr(s:Tx)(a:Nat):(runeR s a).2≤4:=by
 unfold runeR;split
 ·simp
 ·split
  ·simp
  ·rename_i n x least h;have:=Zb6 h;cases rTail s a (n-1) 1 x with
   |none=>simp[rEnd]
   |some y=>rw[rEnd]; split<;>simp; omega
theorem c193(s:Tx)(hs:s.length≤big)(a0:Nat)(ha0:a0≤s.length):PC 193 [.str s,iv a0] (.tup [iv (nameR s a0 0).1,iv (nameR s a0 0).2]):=by
 have hs2:=hs;rw[bigE] at hs2;refine Xd hP g193_ok rfl rfl ?_;unfold g193;refine Yk λk0 hk0=>?_;have kk:∀a n:Nat,nameR s a0 0=(a,n)→k0 [iv a,iv n] []:=by
  intro a n e;rw[hk0,e]; exact rfl
 clear hk0;refine Qi (ι:=Nat) (λa vs σ=>∃n:Nat,vs=[iv a,iv n]∧σ=[]∧n≤a∧a≤s.length+4∧nameR s a0 0=nameR s a n) (λa=>s.length+10-a) a0 ⟨0,rfl,rfl,by omega,by omega,rfl⟩ ?_;rintro a vs σ again ⟨n,rfl,rfl,i1,i2,hu⟩ hag;refine Za rfl (Za rfl ?_);refine Zc (λh=>?_) (λh=>?_);rotate_left
 ·have h:¬a<s.length:=by simpa using h
  exact kk a n (by rw[hu,nameR,dif_neg h])
 have h:a<s.length:=by simpa using h
 refine Yd (c196 s hs a h) rfl g196_ok.plain rfl ?_;refine Za rfl (Za rfl ?_);have stp:Zam s a n→k0 [iv a,iv n] []:=λhst=>kk a n (by rw[hu,nameR,dif_pos h,dif_pos hst]);have cont:¬Zam s a n→again [iv ((a+(runeR s a).2:Nat):Int),iv ((n+1:Nat):Int)] []:=by
  intro hst;have h1:(runeR s a).2≠0:=λe=>hst (Or.inl e);have h4:=Ybr s a;exact hag _ _ _ (by omega) ⟨n+1,rfl,rfl,by omega,by omega,by rw[hu,nameR,dif_pos h,dif_neg hst]⟩
 have h4:=Ybr s a;unfold Zam at stp cont;clear hag hu kk;generalize (runeR s a).1=x at stp cont ⊢;generalize (runeR s a).2=k at stp cont h4 ⊢;have go:¬(k=0∨(isLet x=false∧(n=0∨(isDig x=false∧x≠39))))→VV.rd (Yh .add false [iv a,iv k] []) λt41_27=>VV.rd (Yh .add false [iv n,(.int .i64 1)] []) λt43_28=>again [t41_27,t43_28] []:=by
  intro hst;refine Za (Qj ..) (Za (Qj ..) ?_);rw[Qe (n:=n) (by omega),wrapI (n:=(a:Int)+(k:Int)) (by omega) (by omega)];exact cont hst
 refine Za rfl ?_;rcases YBE ((k:Int)==0) with h1|h1
 ·rw[h1];repeat first|refine Xa ?_|refine Xb ?_|refine Zb rfl ?_|refine Yc rfl ?_|refine Qc rfl ?_|refine Zd rfl ?_|refine Za rfl ?_
  exact Ze (stp (Or.inl (by simpa using h1)))
 rw[h1];have h1:k≠0:=by simpa using h1
 repeat first|refine Xa ?_|refine Xb ?_|refine Za rfl ?_
 refine Yd (c197 _) rfl g197_ok.plain rfl ?_;repeat first|refine Xa ?_|refine Xb ?_|refine Za rfl ?_
 rcases YBE (!isLet x) with h2|h2
 rotate_left
 ·rw[h2];repeat first|refine Xa ?_|refine Xb ?_|refine Zb rfl ?_|refine Yc rfl ?_|refine Qc rfl ?_|refine Zd rfl ?_|refine Za rfl ?_
  exact Xi (go (by have h2:isLet x=true:=(by simpa using h2); simp[h1,h2]))
 rw[h2];have h2:isLet x=false:=by simpa using h2
 repeat first|refine Xa ?_|refine Xb ?_|refine Za rfl ?_
 rcases YBE ((n:Int)==0) with h3|h3
 ·rw[h3];repeat first|refine Xa ?_|refine Xb ?_|refine Zb rfl ?_|refine Yc rfl ?_|refine Qc rfl ?_|refine Zd rfl ?_|refine Za rfl ?_
  exact Ze (stp (Or.inr ⟨h2,Or.inl (by simpa using h3)⟩))
 rw[h3];have h3:n≠0:=by simpa using h3
 repeat first|refine Xa ?_|refine Xb ?_|refine Za rfl ?_
 refine Yd (c198 _) rfl g198_ok.plain rfl ?_;repeat first|refine Xa ?_|refine Xb ?_|refine Za rfl ?_
 rcases YBE (!isDig x) with h5|h5
 rotate_left
 ·rw[h5];repeat first|refine Xa ?_|refine Xb ?_|refine Zb rfl ?_|refine Yc rfl ?_|refine Qc rfl ?_|refine Zd rfl ?_|refine Za rfl ?_
  exact Xi (go (by have h5:isDig x=true:=(by simpa using h5); simp[h1,h3,h5]))
 rw[h5];have h5:isDig x=false:=by simpa using h5
 repeat first|refine Xa ?_|refine Xb ?_|refine Za rfl ?_
 refine Zc (λh6=>stp ?_) (λh6=>go ?_)
 ·exact Or.inr ⟨h2,Or.inr ⟨h5,by simpa using h6⟩⟩
 ·have h6:x=39:=by simpa using h6
  simp[h1,h3,h6]
theorem c229:∃e n,PC 229 [] (.rsl e n 1 (keysR.map txC)):=by
 have hw:∃v bs,g229 VV [] [] (λv' σ=>v'=v∧σ=bs)∧∃e n,frz bs v=some (.rsl e n 1 (keysR.map txC)):=by
  unfold g229;apply Exists.intro;apply Exists.intro;apply And.intro
  ·refine Zh rfl rfl ?_;exact⟨rfl,rfl⟩
  ·exact⟨_,_,rfl⟩
 obtain⟨v,bs,h1,e,n,h2⟩:=hw;exact⟨e,n,Qa1 hP g229_ok rfl ⟨v,bs,h2,h1⟩⟩
theorem txLd(x:Tx):partA false 0 1 (txC x)=some (.str x):=rfl
theorem c194(s:Tx):PC 194 [.str s] (.bool (ownIn keysR s)):=by
 refine Xd hP g194_ok rfl rfl ?_;unfold g194;obtain⟨e,n,hk⟩:=c229;refine Yd hk rfl g229_ok.plain rfl ?_;have hlen:keysR.length=41:=rfl;generalize keysR=l at hlen ⊢;refine Qi (ι:=Nat) (λi vs σ=>vs=[iv i]∧i≤l.length∧ownIn l s=ownIn (l.drop i) s) (λi=>l.length-i) 0 ⟨rfl,by omega,by simp⟩ ?_;rintro i vs σ again ⟨rfl,hi,hu⟩ hag;refine Za rfl (Za rfl ?_);refine Zc (λh=>?_) (λh=>?_)
 ·have h:i<l.length:=by simpa using h
  have hdr:l.drop i=l[i]::l.drop (i+1):=by rw[YLD h]
  rw[hdr,ownIn] at hu;refine Za (Zn _ txC _ _ _ l .i64 i h) (Za (ldr (txLd _)) (Za (Zg ..) ?_));refine Zc (λh=>?_) (λh=>?_)
  ·rw[hu,h]; rfl
  ·rw[h,Bool.false_or] at hu;refine Za (Qj ..) ?_;rw[Qe (n:=i) (by omega)];exact hag (i+1) _ _ (by omega) ⟨rfl,by omega,hu⟩
 ·have h:i=l.length:=by simp at h; omega
  subst h;rw[List.drop_length] at hu;rw[hu]; rfl
theorem c147(s:Tx)(hs:s.length≤big):PC 147 [.str s] (.bool (nameOk s)):=by
 refine Xd hP g147_ok rfl rfl ?_;unfold g147;have:=c193 s hs 0 (by omega);refine Yd this rfl g193_ok.plain rfl ?_;unfold nameOk;generalize (nameR s 0 0).1=e;generalize (nameR s 0 0).2=n;refine Za rfl (Za rfl (Za rfl ?_));rcases YBE (decide ((n:Int) ≥ 1)) with h1|h1
 rotate_left
 ·rw[h1];repeat first|refine Zb rfl ?_|refine Yc rfl ?_|refine Qc rfl ?_|refine Zd rfl ?_|refine Za rfl ?_
  have h1:¬1≤n:=by simp at h1; omega
  simp[h1]
 rw[h1];repeat first|refine Xa ?_|refine Xb ?_|refine Za rfl ?_
 rcases YBE (decide ((n:Int)≤24)) with h2|h2
 rotate_left
 ·rw[h2];repeat first|refine Zb rfl ?_|refine Yc rfl ?_|refine Qc rfl ?_|refine Zd rfl ?_|refine Za rfl ?_
  have h2:¬n≤24:=by simp at h2; omega
  simp[h2]
 rw[h2];repeat first|refine Xa ?_|refine Xb ?_|refine Za rfl ?_
 rcases YBE ((e:Int)==(s.length:Int)) with h3|h3
 rotate_left
 ·rw[h3];repeat first|refine Zb rfl ?_|refine Yc rfl ?_|refine Qc rfl ?_|refine Zd rfl ?_|refine Za rfl ?_
  have h3:¬e=s.length:=by simp at h3; omega
  simp[h3]
 rw[h3];repeat first|refine Xa ?_|refine Xb ?_|refine Za rfl ?_
 rcases YBE (decide ((s.length:Int)≤40)) with h4|h4
 rotate_left
 ·rw[h4];repeat first|refine Zb rfl ?_|refine Yc rfl ?_|refine Qc rfl ?_|refine Zd rfl ?_|refine Za rfl ?_
  have h4:¬s.length≤40:=by simp at h4; omega
  simp[h4]
 rw[h4];repeat first|refine Xa ?_|refine Xb ?_|refine Za rfl ?_
 refine Yd (c194 _) rfl g194_ok.plain rfl ?_;repeat first|refine Xa ?_|refine Xb ?_|refine Za rfl ?_
 have h1:1≤n:=by simp at h1; omega
 have h2:n≤24:=by simp at h2; omega
 have h3:e=s.length:=by simp at h3; omega
 have h4:s.length≤40:=by simp at h4; omega
 simp[h1,h2,h3,h4]
end Go.Ah.Tz
end
section
namespace Go.Ah.Tz
open Go.Proofs.Tryz (prog)
def in999(n:Int):Bool:=decide (0≤n)&&decide (n≤999)
def cdSum(c:Cd):Bool:=if c.unit then decide (1≤c.health) else decide (c.power+c.health+c.shield+c.aurap+c.aurah≤0)&&decide (c.dead.length+c.dawn.length=0)
def cdW(c:Cd):Int:=min (efsW 0 c.played+efsW 0 c.dead+efsW 0 c.dawn) 1073741824
def cdOk(cs:List Cd)(c:Cd):Bool:=
 nameOk c.name&&(in999 c.cost&&(in999 c.power&&(in999 c.health&&(in999 c.shield&&(in999 c.aurap&&(in999 c.aurah&&(cdSum c&&(decide (cdW c≤200)&&(lstOk cs true 1 c.played&&(lstOk cs false 1 c.dead&&lstOk cs false 1 c.dawn))))))))))
def cdFit(c:Cd):Bool:=decide (c.name.length≤big)&&(lsFit c.played&&(lsFit c.dead&&lsFit c.dawn))
def XI(l:List Cd):Bool:=decide (l.length≤big)&&l.all cdFit
def cdsGo(cs:List Cd):List Cd→List Cd→Int×Int
 |_,[]=>(0,0)
 |pre,c::l=>if pre.any λd=>d.name==c.name then (101,c.pl) else if cdOk cs c then cdsGo cs (pre++[c]) l else (130,c.pl)
def cdsChk(cs:List Cd):Int×Int:=if 240<cs.length then (3,0) else cdsGo cs [] cs
attribute [local irreducible] Ans.rd Ans.pu Ans.wr Ans.dr Ans.gr Ans.gw Ans.gl Ans.gd Ans.opt joinK W
set_option maxHeartbeats 1000000
theorem c145(cs:List Cd)(hcs:cs.length≤big)(c:Cd)(hf:cdFit c=true):PC 145 [cdV cs,.agg (cdC c)] (.bool (cdOk cs c)):=by
 simp only[cdFit,Bool.and_eq_true,decide_eq_true_eq] at hf;obtain⟨f0,f1,f2,f3⟩:=hf;refine Xd hP g145_ok rfl rfl ?_;unfold g145;refine Zh rfl rfl ?_;generalize hB:([]++[ABlk.box (cdC c)]:List ABlk)=base;have hB0:hget base 0=.box (cdC c):=by rw[←hB]; rfl
 refine Za rfl (Za (ld hB0 rfl) ?_);refine Yd (c147 _ f0) rfl g147_ok.plain rfl ?_;refine Za rfl ?_;rcases YBE (!nameOk c.name) with a0|a0
 ·rw[a0];repeat first|refine Xa ?_|refine Xb ?_|refine Zb rfl ?_|refine Yc rfl ?_|refine Qc rfl ?_|refine Zd rfl ?_|refine Za (ld hB0 rfl) ?_|refine Za rfl ?_
  refine Ze ?_;have a0:nameOk c.name=false:=by simpa using a0
  simp[cdOk,a0]
 rw[a0];repeat first|refine Xa ?_|refine Xb ?_|refine Za (ld hB0 rfl) ?_|refine Za rfl ?_
 refine Yd (c187 _) rfl g187_ok.plain rfl ?_;repeat first|refine Xa ?_|refine Xb ?_|refine Za (ld hB0 rfl) ?_|refine Za rfl ?_
 rcases YBE (!(decide (0≤c.cost)&&decide (c.cost≤999))) with a1|a1
 ·rw[a1];repeat first|refine Xa ?_|refine Xb ?_|refine Zb rfl ?_|refine Yc rfl ?_|refine Qc rfl ?_|refine Zd rfl ?_|refine Za (ld hB0 rfl) ?_|refine Za rfl ?_
  refine Ze ?_;have a1:in999 c.cost=false:=by unfold in999; exact(Bool.not_eq_true' _).mp a1
  simp[cdOk,a1]
 rw[a1];repeat first|refine Xa ?_|refine Xb ?_|refine Za (ld hB0 rfl) ?_|refine Za rfl ?_
 refine Yd (c187 _) rfl g187_ok.plain rfl ?_;repeat first|refine Xa ?_|refine Xb ?_|refine Za (ld hB0 rfl) ?_|refine Za rfl ?_
 rcases YBE (!(decide (0≤c.power)&&decide (c.power≤999))) with a2|a2
 ·rw[a2];repeat first|refine Xa ?_|refine Xb ?_|refine Zb rfl ?_|refine Yc rfl ?_|refine Qc rfl ?_|refine Zd rfl ?_|refine Za (ld hB0 rfl) ?_|refine Za rfl ?_
  refine Ze ?_;have a2:in999 c.power=false:=by unfold in999; exact(Bool.not_eq_true' _).mp a2
  simp[cdOk,a2]
 rw[a2];repeat first|refine Xa ?_|refine Xb ?_|refine Za (ld hB0 rfl) ?_|refine Za rfl ?_
 refine Yd (c187 _) rfl g187_ok.plain rfl ?_;repeat first|refine Xa ?_|refine Xb ?_|refine Za (ld hB0 rfl) ?_|refine Za rfl ?_
 rcases YBE (!(decide (0≤c.health)&&decide (c.health≤999))) with a3|a3
 ·rw[a3];repeat first|refine Xa ?_|refine Xb ?_|refine Zb rfl ?_|refine Yc rfl ?_|refine Qc rfl ?_|refine Zd rfl ?_|refine Za (ld hB0 rfl) ?_|refine Za rfl ?_
  refine Ze ?_;have a3:in999 c.health=false:=by unfold in999; exact(Bool.not_eq_true' _).mp a3
  simp[cdOk,a3]
 rw[a3];repeat first|refine Xa ?_|refine Xb ?_|refine Za (ld hB0 rfl) ?_|refine Za rfl ?_
 refine Yd (c187 _) rfl g187_ok.plain rfl ?_;repeat first|refine Xa ?_|refine Xb ?_|refine Za (ld hB0 rfl) ?_|refine Za rfl ?_
 rcases YBE (!(decide (0≤c.shield)&&decide (c.shield≤999))) with a4|a4
 ·rw[a4];repeat first|refine Xa ?_|refine Xb ?_|refine Zb rfl ?_|refine Yc rfl ?_|refine Qc rfl ?_|refine Zd rfl ?_|refine Za (ld hB0 rfl) ?_|refine Za rfl ?_
  refine Ze ?_;have a4:in999 c.shield=false:=by unfold in999; exact(Bool.not_eq_true' _).mp a4
  simp[cdOk,a4]
 rw[a4];repeat first|refine Xa ?_|refine Xb ?_|refine Za (ld hB0 rfl) ?_|refine Za rfl ?_
 refine Yd (c187 _) rfl g187_ok.plain rfl ?_;repeat first|refine Xa ?_|refine Xb ?_|refine Za (ld hB0 rfl) ?_|refine Za rfl ?_
 rcases YBE (!(decide (0≤c.aurap)&&decide (c.aurap≤999))) with a5|a5
 ·rw[a5];repeat first|refine Xa ?_|refine Xb ?_|refine Zb rfl ?_|refine Yc rfl ?_|refine Qc rfl ?_|refine Zd rfl ?_|refine Za (ld hB0 rfl) ?_|refine Za rfl ?_
  refine Ze ?_;have a5:in999 c.aurap=false:=by unfold in999; exact(Bool.not_eq_true' _).mp a5
  simp[cdOk,a5]
 rw[a5];repeat first|refine Xa ?_|refine Xb ?_|refine Za (ld hB0 rfl) ?_|refine Za rfl ?_
 refine Yd (c187 _) rfl g187_ok.plain rfl ?_;repeat first|refine Xa ?_|refine Xb ?_|refine Za (ld hB0 rfl) ?_|refine Za rfl ?_
 refine Zc (λa6=>?_) (λa6=>?_)
 ·have a6:in999 c.aurah=false:=by unfold in999; exact(Bool.not_eq_true' _).mp a6
  simp[cdOk,a6]
 have a1:in999 c.cost=true:=by simpa[in999] using a1
 have a2:in999 c.power=true:=by simpa[in999] using a2
 have a3:in999 c.health=true:=by simpa[in999] using a3
 have a4:in999 c.shield=true:=by simpa[in999] using a4
 have a5:in999 c.aurap=true:=by simpa[in999] using a5
 have a6:in999 c.aurah=true:=by simpa[in999] using a6
 have a0:nameOk c.name=true:=by simpa using a0
 have b1:=a1; have b2:=a2; have b3:=a3; have b4:=a4; have b5:=a5; have b6:=a6;simp only[in999,Bool.and_eq_true,decide_eq_true_eq] at b1 b2 b3 b4 b5 b6;simp only[cdOk,a0,a1,a2,a3,a4,a5,a6,Bool.true_and];clear a0 a1 a2 a3 a4 a5 a6;repeat first|refine Xa ?_|refine Xb ?_|refine Za (ld hB0 rfl) ?_|refine Za rfl ?_
 apply cutF (cdSum c=true)
 ·intro hR;cases hu:c.unit with
  |true=>
   try rw[hu]
   repeat first|refine Xa ?_|refine Xb ?_|refine Za (ld hB0 rfl) ?_|refine Za rfl ?_
   rcases YBE (decide (c.health<1)) with h|h
   ·rw[h];repeat first|refine Xa ?_|refine Xb ?_|refine Zb rfl ?_|refine Yc rfl ?_|refine Qc rfl ?_|refine Zd rfl ?_|refine Za (ld hB0 rfl) ?_|refine Za rfl ?_
    refine Ze ?_;have h:¬1≤c.health:=by simp at h; omega
    simp[cdSum,hu,h]
   ·rw[h];repeat first|refine Xa ?_|refine Xb ?_|refine Zb rfl ?_|refine Yc rfl ?_|refine Qc rfl ?_|refine Zd rfl ?_|refine Za (ld hB0 rfl) ?_|refine Za rfl ?_
    try rw[hu]
    repeat first|refine Xa ?_|refine Xb ?_|refine Zb rfl ?_|refine Yc rfl ?_|refine Qc rfl ?_|refine Zd rfl ?_|refine Za (ld hB0 rfl) ?_|refine Za rfl ?_
    refine Xi (hR ?_);have h:1≤c.health:=by simp at h; omega
    simp[cdSum,hu,h]
  |false=>
   try rw[hu]
   repeat first|refine Xa ?_|refine Xb ?_|refine Zb rfl ?_|refine Yc rfl ?_|refine Qc rfl ?_|refine Zd rfl ?_|refine Za (ld hB0 rfl) ?_|refine Za rfl ?_
   try rw[hu]
   repeat first|refine Xa ?_|refine Xb ?_|refine Zb rfl ?_|refine Yc rfl ?_|refine Qc rfl ?_|refine Zd rfl ?_|refine Za (ld hB0 rfl) ?_|refine Za rfl ?_
   rw[wrapI (n:=c.power+c.health) (by omega) (by omega),wrapI (n:=c.power+c.health+c.shield) (by omega) (by omega),wrapI (n:=c.power+c.health+c.shield+c.aurap) (by omega) (by omega),wrapI (n:=c.power+c.health+c.shield+c.aurap+c.aurah) (by omega) (by omega)];rcases YBE (decide (c.power+c.health+c.shield+c.aurap+c.aurah>0)) with h|h
   ·rw[h];repeat first|refine Xa ?_|refine Xb ?_|refine Zb rfl ?_|refine Yc rfl ?_|refine Qc rfl ?_|refine Zd rfl ?_|refine Za (ld hB0 rfl) ?_|refine Za rfl ?_
    refine Ze ?_;have h:¬(c.power+c.health+c.shield+c.aurap+c.aurah≤0):=by simp at h; omega
    simp[cdSum,hu,h]
   rw[h];repeat first|refine Xa ?_|refine Xb ?_|refine Za (ld hB0 rfl) ?_|refine Za rfl ?_
   have h:(c.power+c.health+c.shield+c.aurap+c.aurah≤0):=by simp at h; omega
   have l1:=Zz f2;have l2:=Zz f3;rw[bigE] at l1 l2;rw[List.length_map,List.length_map,wrapI (n:=(c.dead.length:Int)+(c.dawn.length:Int)) (by omega) (by omega)];refine Zc (λh2=>?_) (λh2=>hR ?_)
   ·have h2:¬(c.dead.length+c.dawn.length=0):=by simp at h2; omega
    have:cdSum c=false:=by rw[cdSum,hu,decide_eq_false h2]; simp
    simp[this]
   ·have h2:(c.dead.length+c.dawn.length=0):=by simp at h2; omega
    rw[cdSum,hu,decide_eq_true h2,decide_eq_true h]; rfl
 intro b7;rw[b7,Bool.true_and];refine Za (ld hB0 rfl) ?_;refine Yd (c110 c f1 f2 f3) rfl g110_ok.plain rfl ?_;refine Za rfl ?_;refine Zc (λh=>?_) (λh=>?_)
 ·have h:¬(cdW c≤200):=by simp at h; unfold cdW; omega
  simp[h]
 have h:cdW c≤200:=by simp at h; unfold cdW; omega
 simp only[h,decide_true,Bool.true_and];subst hB;refine Za rfl (Zh rfl rfl (Za rfl (Zh rfl rfl ?_)));refine Za rfl (Za rfl ?_);refine Yy (c188 cs hcs true c.played 1 f1 (by omega)) rfl g188_ok.plain rfl rfl ?_;rcases YBE (lstOk cs true 1 c.played) with p1|p1
 rotate_left
 ·rw[p1];repeat first|refine Xa ?_|refine Xb ?_|refine Zb rfl ?_|refine Yc rfl ?_|refine Qc rfl ?_|refine Zd rfl ?_|refine Za (ld hB0 rfl) ?_|refine Za rfl ?_
  simp[p1]
 rw[p1];repeat first|refine Xa ?_|refine Xb ?_|refine Za rfl ?_
 refine Yy (c188 cs hcs false c.dead 1 f2 (by omega)) rfl g188_ok.plain rfl rfl ?_;repeat first|refine Xa ?_|refine Xb ?_|refine Za rfl ?_
 rcases YBE (lstOk cs false 1 c.dead) with p2|p2
 rotate_left
 ·rw[p2];repeat first|refine Xa ?_|refine Xb ?_|refine Zb rfl ?_|refine Yc rfl ?_|refine Qc rfl ?_|refine Zd rfl ?_|refine Za rfl ?_
  simp[p1,p2]
 rw[p2];repeat first|refine Xa ?_|refine Xb ?_|refine Za rfl ?_
 refine Yy (c188 cs hcs false c.dawn 1 f3 (by omega)) rfl g188_ok.plain rfl rfl ?_;repeat first|refine Xa ?_|refine Xb ?_|refine Za rfl ?_
 simp[p1,p2]
theorem cdLd(x:Cd):partA true 0 12 (cdC x)=some (.agg (cdC x)):=rfl
theorem Xbi(x:Cd):partA false 11 1 (cdC x)=some (iv x.pl):=rfl
theorem c113(cs:List Cd)(hf:XI cs=true):PC 113 [cdV cs] (.agg [iv (cdsChk cs).1,iv (cdsChk cs).2]):=by
 simp only[XI,Bool.and_eq_true,decide_eq_true_eq] at hf;obtain⟨f0,f1⟩:=hf;have f02:=f0;rw[bigE] at f02;refine Xd hP g113_ok rfl rfl ?_;unfold g113;refine Zh rfl rfl (Za rfl (Za rfl ?_));refine Zc (λh=>?_) (λh=>?_)
 ·have h:240<cs.length:=by simp at h; omega
  refine Za rfl (Zh rfl rfl (Zw rfl ?_));rw[cdsChk,if_pos h]
 have h:¬240<cs.length:=by simp at h; omega
 rw[cdsChk,if_neg h];refine Qi (ι:=Nat) (λi vs σ=>vs=[iv i]∧σ=[.box [iv 0,iv 0]]∧i≤cs.length∧cdsGo cs [] cs=cdsGo cs (cs.take i) (cs.drop i)) (λi=>cs.length-i) 0 ⟨rfl,rfl,by omega,by simp⟩ ?_;rintro i vs σ again ⟨rfl,rfl,hi,hu⟩ hag;refine Za rfl (Za rfl ?_);refine Zc (λh=>?_) (λh=>?_);rotate_left
 ·have h:i=cs.length:=by simp at h; omega
  subst h;rw[List.drop_length,cdsGo] at hu;refine Za rfl (Zh rfl rfl (Zw rfl ?_));rw[hu]
 have hi:i<cs.length:=by simpa using h
 have hdr:cs.drop i=cs[i]::cs.drop (i+1):=by rw[YLD hi]
 have hix:=λ(s:List ABlk)=>Zn s cdC false false 12 cs .i64 i hi;have hfi:=List.all_eq_true.1 f1 _ (List.getElem_mem hi);have htk:cs.take (i+1)=cs.take i++[cs[i]]:=Yw cs i hi;generalize cs[i]=c at hdr hix hfi htk;rw[hdr,cdsGo] at hu;refine Qi (ι:=Nat) (λj vs σ=>vs=[iv j]∧σ=[.box [iv 0,iv 0]]∧j≤i∧(cs.take i).any (λd=>d.name==c.name)=((cs.take i).drop j).any (λd=>d.name==c.name)) (λj=>i-j) 0 ⟨rfl,rfl,by omega,by simp⟩ ?_;rintro j vs σ again2 ⟨rfl,rfl,hj,hv⟩ hag2;refine Za rfl ?_;refine Zc (λh=>?_) (λh=>?_)
 ·have h:j<i:=by simpa using h
  have hjx:j<(cs.take i).length:=by rw[List.length_take]; omega
  have hdr2:(cs.take i).drop j=(cs.take i)[j]::(cs.take i).drop (j+1):=by rw[YLD hjx]
  rw[List.getElem_take] at hdr2;rw[hdr2,List.any_cons] at hv;refine Za (Zn _ cdC false false 12 cs .i64 j (by omega)) (Za rfl (Za (ldr (cdLd0 _)) (Za (hix _) (Za rfl (Za (ldr (cdLd0 _)) (Za (Zg ..) ?_))))));refine Zc (λh=>?_) (λh=>?_)
  ·rw[h,Bool.true_or] at hv;rw[hv,if_pos rfl] at hu;refine Za (hix _) (Za rfl (Za (ldr (Xbi _)) (Za rfl (Zh rfl rfl (Zw rfl ?_)))));rw[hu]
  ·rw[h,Bool.false_or] at hv;refine Za (Qj ..) ?_;rw[Qe (n:=j) (by omega)];exact hag2 (j+1) _ _ (by omega) ⟨rfl,rfl,by omega,hv⟩
 have h:j=i:=by simp at h; omega
 subst h;rw[List.drop_eq_nil_of_le (by rw[List.length_take]; omega),List.any_nil] at hv;rw[hv] at hu
 replace hu:cdsGo cs [] cs=if cdOk cs c then cdsGo cs (cs.take j++[c]) (cs.drop (j+1)) else (130,c.pl):=hu
 rw[←htk] at hu;refine Za (hix _) (Za (ldr (cdLd _)) ?_);refine Yd (c145 cs f0 c hfi) rfl g145_ok.plain rfl ?_;refine Za rfl ?_;refine Zc (λh=>?_) (λh=>?_)
 ·have h:cdOk cs c=false:=by simpa using h
  rw[h] at hu
  replace hu:cdsGo cs [] cs=(130,c.pl):=hu
  refine Za (hix _) (Za rfl (Za (ldr (Xbi _)) (Za rfl (Zh rfl rfl (Zw rfl ?_)))));rw[hu]
 ·have h:cdOk cs c=true:=by simpa using h
  rw[h,if_pos rfl] at hu;refine Za (Qj ..) ?_;rw[Qe (n:=j) (by omega)];exact hag (j+1) _ _ (by omega) ⟨rfl,rfl,by omega,hu⟩
end Go.Ah.Tz
end
section
namespace Go.Ah.Tz
open Go.Proofs.Tryz (prog)
def lbN(a:Int):Int:=if a<0∨3<a then 3 else a
def joinL(a b:Int):Int:=if lbN a=lbN b∨lbN b=0 then lbN a else if lbN a=0 then lbN b else 3
def QaF(a b:Int):Bool:=decide (joinL a b=joinL b b)
mutual
def nmL:Nm→Int
 |.mk op _ _ kids=>if 8≤op∧op≤12 then nmLs (if op=6 then 3 else 0) kids else if op=6 then 3 else 0
def nmLs:Int→List Nm→Int
 |n,[]=>n
 |n,x::l=>nmLs (joinL n (nmL x)) l
end
theorem Zcc(x:Nm):nmL x=if 8≤x.op∧x.op≤12 then nmLs (if x.op=6 then 3 else 0) x.kids else if x.op=6 then 3 else 0:=by cases x; rfl
mutual
def cnL:Cn→Int
 |.mk op who _ nums kids=>if op=6 then (if who=0 then 1 else if who=1 then 2 else 3) else cnLs (nmLs 0 nums) kids
def cnLs:Int→List Cn→Int
 |n,[]=>n
 |n,x::l=>cnLs (joinL n (cnL x)) l
end
theorem Yca(x:Cn):cnL x=if x.op=6 then (if x.who=0 then 1 else if x.who=1 then 2 else 3) else cnLs (nmLs 0 x.nums) x.kids:=by cases x; rfl
mutual
def efL (u:Int):Ef→Bool
 |.mk op _ n _ c thn els=>if op=5 then QaF (joinL u (nmL n)) 1 else if op=8 then efsL (joinL u (cnL c)) thn&&efsL (joinL u (cnL c)) els else if op=0∨op=1∨op=2∨op=3 then decide (joinL u (nmL n)=0) else decide (joinL u u=0)
def efsL (u:Int):List Ef→Bool
 |[]=>true
 |x::l=>efL u x&&efsL u l
end
theorem YaX(u:Int)(x:Ef):efL u x=if x.op=5 then QaF (joinL u (nmL x.n)) 1 else if x.op=8 then efsL (joinL u (cnL x.c)) x.thn&&efsL (joinL u (cnL x.c)) x.els else if x.op=0∨x.op=1∨x.op=2∨x.op=3 then decide (joinL u (nmL x.n)=0) else decide (joinL u u=0):=by cases x; rfl
attribute [local irreducible] Ans.rd Ans.pu Ans.wr Ans.dr Ans.gr Ans.gw Ans.gl Ans.gd Ans.opt joinK W
set_option maxHeartbeats 1000000
theorem ZB{P:Program}{GL:Globs}{c d:Bool}{K:AVal→Prop}{r1:SRes}{f2:AVal→SRes}{σ:List ABlk}{v1:AVal}(h1:r1=.ok v1 [] [])(h2:f2 v1=.ok (.bool d) [] [])(hK:K (.bool (c||d))) :
  (W P GL).gr (.bool c) false (λk=>(W P GL).rd r1 k) λt1=>(W P GL).gr (.bool c) false (λk=>(W P GL).rd (f2 t1) k) λt2=>(W P GL).rd (Yi [.bool c,.bool true,t2] σ) K:=by
 cases c with
 |false=>exact Xa (Za h1 (Xa (Za h2 (Za rfl hK))))
 |true=>exact Zb rfl (Zb rfl (Za rfl hK))
theorem Z7{P:Program}{GL:Globs}{c d:Bool}{K:AVal→Prop}{r1:SRes}{f2 f3:AVal→SRes}{σ:List ABlk}{v1 v2:AVal}{q1 q2 q3:List Nat}(h1:r1=.ok v1 q1 [])(h2:f2 v1=.ok v2 q2 [])(h3:f3 v2=.ok (.bool d) q3 [])(hK:K (.bool (c&&d))) :
  (W P GL).gr (.bool c) true (λk=>(W P GL).rd r1 k) λt1=>(W P GL).gr (.bool c) true (λk=>(W P GL).rd (f2 t1) k) λt2=>(W P GL).gr (.bool c) true (λk=>(W P GL).rd (f3 t2) k) λt3=>(W P GL).rd (Yi [.bool c,t3,.bool false] σ) K:=by
 cases c with
 |true=>exact Xa (Za h1 (Xa (Za h2 (Xa (Za h3 (Za rfl hK))))))
 |false=>exact Zb rfl (Zb rfl (Zb rfl (Za rfl hK)))
theorem c190(a b:Int):PC 190 [iv8 a,iv8 b] (iv8 (joinL a b)):=by
 refine Xd hP g190_ok rfl rfl ?_;unfold g190;refine Za rfl (ZB rfl rfl ?_);refine Yk λk1 hk1=>?_;have kk:k1 [iv8 (lbN a)] []:=by
  rw[hk1]; clear hk1 k1;refine Za rfl (ZB rfl rfl ?_);refine Yk λk1 hk1=>?_;have kk:k1 [iv8 (lbN b)] []:=by
   rw[hk1]; clear hk1 k1;unfold joinL;generalize lbN a=a;generalize lbN b=b;refine Za (Zf ..) ?_;have hp:∀K:AVal→Prop,K (.bool (decide (a=b)||decide (b=0)))→VV.gr (.bool (decide (a=b))) false (λk=>VV.rd (Xh [iv8 b] []) k) λt22=>VV.gr (.bool (decide (a=b))) false (λk=>VV.rd (Yh .eql false [t22,(.int .i8 0)] []) k) λt23=>VV.rd (Yi [.bool (decide (a=b)),(.bool true),t23] []) K:=λK hK=>ZB rfl (Zf ..) hK;refine hp _ ?_;refine Zc (λh=>?_) (λh=>?_)
   ·rw[if_pos (by simpa using h)]; rfl
   have h:¬(a=b∨b=0):=by simpa using h
   rw[if_neg h];refine Za (Zf ..) ?_;refine Zc (λh=>?_) (λh=>?_)
   ·rw[if_pos (by simpa using h)]; rfl
   ·rw[if_neg (by simpa using h)]
  refine Zc (λh=>?_) (λh=>?_)
  ·rw[lbN,if_pos (by simpa using h)] at kk; exact kk
  ·rw[lbN,if_neg (by simpa using h)] at kk; exact kk
 refine Zc (λh=>?_) (λh=>?_)
 ·rw[lbN,if_pos (by simpa using h)] at kk; exact kk
 ·rw[lbN,if_neg (by simpa using h)] at kk; exact kk
theorem c189(a b:Int):PC 189 [iv8 a,iv8 b] (.bool (QaF a b)):=by
 refine Xd hP g189_ok rfl rfl ?_;unfold g189;refine Yd (c190 a b) rfl g190_ok.plain rfl ?_;refine Yd (c190 b b) rfl g190_ok.plain rfl ?_;refine Za (Zf ..) ?_;rfl
theorem c191':∀(k:Nat) (x:Nm),SizeOf.sizeOf x≤k→nmFit x=true→PC 191 [.agg (nmC x)] (iv8 (nmL x))
 |0,x,h,_=>by cases x; simp at h
 |k+1,x,hk,hf=>by
  rw[ZC];refine Xd hP g191_ok rfl rfl ?_;unfold g191;refine Zh rfl rfl ?_;rw[Zcc];have hlen:=YW hf;rw[bigE] at hlen;generalize hB:([]++[ABlk.box [iv8 x.op,iv x.n,iv8 x.who,.rsl false false 4 (x.kids.map nmC)]]:List ABlk)=base;have hB0:hget base 0=.box [iv8 x.op,iv x.n,iv8 x.who,.rsl false false 4 (x.kids.map nmC)]:=by rw[←hB]; rfl
  clear hB;refine Za rfl (Za (ld hB0 rfl) (Za (Zf ..) ?_));refine Yk λk1 hk1=>?_;have kk:k1 [iv8 (if x.op=6 then 3 else 0)] base:=by
   rw[hk1]; clear hk1 k1;generalize (if x.op=6 then (3:Int) else 0)=n0;refine Za rfl (Za (ld hB0 rfl) (Za rfl ?_));refine Z7 rfl (ld hB0 rfl) rfl ?_;rw[show (decide (x.op ≥ 8)&&decide (x.op≤12))=decide (8≤x.op∧x.op≤12) by simp];refine Zc (λh=>?_) (λh=>?_);rotate_left
   ·rw[if_neg (by simpa using h)]; rfl
   rw[if_pos (by simpa using h)];refine Qi (ι:=Nat) (λi vs σ=>∃n,vs=[iv i,iv8 n]∧σ=base∧i≤x.kids.length∧nmLs n0 x.kids=nmLs n (x.kids.drop i)) (λi=>x.kids.length-i) 0 ⟨n0,rfl,rfl,by omega,by simp⟩ ?_;rintro i vs σ again ⟨n,rfl,rfl,hi,hu⟩ hag;repeat first|refine Za (ld hB0 rfl) ?_|refine Za rfl ?_
   refine Zc (λh=>?_) (λh=>?_)
   ·have h:i<x.kids.length:=by simpa using h
    have hdr:x.kids.drop i=x.kids[i]::x.kids.drop (i+1):=by rw[YLD h]
    rw[hdr,nmLs] at hu;have hm:x.kids[i]∈x.kids:=List.getElem_mem h;refine Za rfl (Za (ld hB0 rfl) (Za (Zn _ nmC _ _ _ x.kids _ i h) (Za (ldr (nmLd _)) ?_)));refine Yd (c191' k _ (by have:=Qaa hm; omega) (ZR hf hm)) rfl g191_ok.plain (nmRo _) ?_;refine Yd (c190 _ _) rfl g190_ok.plain rfl ?_;refine Za (Qj ..) ?_;rw[Qe (n:=i) (by omega)];exact hag (i+1) _ _ (by omega) ⟨_,rfl,rfl,by omega,hu⟩
   ·have h:i=x.kids.length:=by simp at h; omega
    subst h;rw[List.drop_length,nmLs] at hu;rw[hu]; rfl
  refine Zc (λh=>?_) (λh=>?_)
  ·have e:x.op=6:=by simpa using h
   rw[if_pos e] at kk; exact kk
  ·have e:x.op≠6:=by simpa using h
   rw[if_neg e] at kk; exact kk
theorem c191(x:Nm)(hf:nmFit x=true):PC 191 [.agg (nmC x)] (iv8 (nmL x)):=c191' _ x (Nat.le_refl _) hf
theorem c192':∀(k:Nat) (x:Cn),SizeOf.sizeOf x≤k→cnFit x=true→PC 192 [.agg (cnC x)] (iv8 (cnL x))
 |0,x,h,_=>by cases x; simp at h
 |k+1,x,hk,hf=>by
  rw[YL];refine Xd hP g192_ok rfl rfl ?_;unfold g192;refine Zh rfl rfl ?_;rw[Yca];have hl1:=XJ hf;have hl2:=YJ hf;rw[bigE] at hl1 hl2;generalize hB:([]++[ABlk.box [iv8 x.op,iv8 x.who,.str x.name,.rsl false false 4 (x.nums.map nmC),.rsl false false 5 (x.kids.map cnC)]]:List ABlk)=base;have hB0:hget base 0=.box [iv8 x.op,iv8 x.who,.str x.name,.rsl false false 4 (x.nums.map nmC),.rsl false false 5 (x.kids.map cnC)]:=by rw[←hB]; rfl
  clear hB;refine Za rfl (Za (ld hB0 rfl) (Za (Zf ..) ?_));refine Zc (λh=>?_) (λh=>?_)
  ·rw[if_pos (by simpa using h)];refine Za rfl (Za (ld hB0 rfl) (Za (Zf ..) ?_));refine Zc (λh=>?_) (λh=>?_)
   ·rw[if_pos (by simpa using h)]
   rw[if_neg (by simpa using h)];refine Za (Zf ..) ?_;refine Zc (λh=>?_) (λh=>?_)
   ·rw[if_pos (by simpa using h)]
   ·rw[if_neg (by simpa using h)]
  rw[if_neg (by simpa using h)];refine Qi (ι:=Nat) (λi vs σ=>∃n,vs=[iv i,iv8 n]∧σ=base∧i≤x.nums.length∧nmLs 0 x.nums=nmLs n (x.nums.drop i)) (λi=>x.nums.length-i) 0 ⟨0,rfl,rfl,by omega,by simp⟩ ?_;rintro i vs σ again ⟨n,rfl,rfl,hi,hu⟩ hag;repeat first|refine Za (ld hB0 rfl) ?_|refine Za rfl ?_
  refine Zc (λh=>?_) (λh=>?_)
  ·have h:i<x.nums.length:=by simpa using h
   have hdr:x.nums.drop i=x.nums[i]::x.nums.drop (i+1):=by rw[YLD h]
   rw[hdr,nmLs] at hu;have hm:x.nums[i]∈x.nums:=List.getElem_mem h;refine Za rfl (Za (ld hB0 rfl) (Za (Zn _ nmC _ _ _ x.nums _ i h) (Za (ldr (nmLd _)) ?_)));refine Yd (c191 _ (QP hf hm)) rfl g191_ok.plain (nmRo _) ?_;refine Yd (c190 _ _) rfl g190_ok.plain rfl ?_;refine Za (Qj ..) ?_;rw[Qe (n:=i) (by omega)];exact hag (i+1) _ _ (by omega) ⟨_,rfl,rfl,by omega,hu⟩
  have h:i=x.nums.length:=by simp at h; omega
  subst h;rw[List.drop_length,nmLs] at hu;rw[hu];clear hag hu hi;refine Qi (ι:=Nat) (λi vs s=>∃m,vs=[iv i,iv8 m]∧s=σ∧i≤x.kids.length∧cnLs n x.kids=cnLs m (x.kids.drop i)) (λi=>x.kids.length-i) 0 ⟨n,rfl,rfl,by omega,by simp⟩ ?_;rintro i vs s again ⟨m,rfl,rfl,hi,hu⟩ hag;repeat first|refine Za (ld hB0 rfl) ?_|refine Za rfl ?_
  refine Zc (λh=>?_) (λh=>?_)
  ·have h:i<x.kids.length:=by simpa using h
   have hdr:x.kids.drop i=x.kids[i]::x.kids.drop (i+1):=by rw[YLD h]
   rw[hdr,cnLs] at hu;have hm:x.kids[i]∈x.kids:=List.getElem_mem h;refine Za rfl (Za (ld hB0 rfl) (Za (Zn _ cnC _ _ _ x.kids _ i h) (Za (ldr (cnLd _)) ?_)));refine Yd (c192' k _ (by have:=X9 hm; omega) (XP hf hm)) rfl g192_ok.plain (cnRo _) ?_;refine Yd (c190 _ _) rfl g190_ok.plain rfl ?_;refine Za (Qj ..) ?_;rw[Qe (n:=i) (by omega)];exact hag (i+1) _ _ (by omega) ⟨_,rfl,rfl,by omega,hu⟩
  ·have h:i=x.kids.length:=by simp at h; omega
   subst h;rw[List.drop_length,cnLs] at hu;rw[hu]; rfl
theorem c192(x:Cn)(hf:cnFit x=true):PC 192 [.agg (cnC x)] (iv8 (cnL x)):=c192' _ x (Nat.le_refl _) hf
end Go.Ah.Tz
end
section
namespace Go.Ah.Tz
open Go.Proofs.Tryz (prog)
def cdL(c:Cd):Bool:=efsL 0 c.played&&(efsL 0 c.dead&&efsL 0 c.dawn)
def cdsL:List Cd→Int×Int
 |[]=>(0,0)
 |c::l=>if cdL c then cdsL l else (140,c.pl)
attribute [local irreducible] Ans.rd Ans.pu Ans.wr Ans.dr Ans.gr Ans.gw Ans.gl Ans.gd Ans.opt joinK W
set_option maxHeartbeats 1000000
theorem XG{σ:List ABlk}{b j n:Nat}{row:List AVal}{v:AVal}(hb:b<σ.length)(hv:partA true j n row=some v):cellV true n (.bptr b j) (σ.set b (.box row))=some v:=by
 have:hget (σ.set b (.box row)) b=.box row:=YT (by simp[hb]);simp only[cellV,this,hv]
theorem c146':∀(k:Nat) (l:List Ef) (u:Int),SizeOf.sizeOf l≤k→lsFit l=true→PC 146 [iv8 u,efV l] (.bool (efsL u l))
 |0,l,_,h,_=>by cases l<;>simp at h
 |k+1,l,u,hk,hf=>by
  refine Xd hP g146_ok rfl rfl ?_;unfold g146;have hlen:=Zz hf;rw[bigE] at hlen;refine Qi (ι:=Nat) (λi vs σ=>vs=[iv i]∧i≤l.length∧efsL u l=efsL u (l.drop i)) (λi=>l.length-i) 0 ⟨rfl,by omega,by simp⟩ ?_;rintro i vs σ again ⟨rfl,hi,hu⟩ hag;refine Za rfl (Za rfl ?_);refine Zc (λh=>?_) (λh=>?_);rotate_left
  ·have h:i=l.length:=by simp at h; omega
   subst h;rw[List.drop_length,efsL] at hu;rw[hu]
  have h:i<l.length:=by simpa using h
  have hdr:l.drop i=l[i]::l.drop (i+1):=by rw[YLD h]
  rw[hdr,efsL] at hu;have hm:l[i]∈l:=List.getElem_mem h;have hsz:=List.sizeOf_lt_of_mem hm;have hfx:=YH hf hm;have ix:=λ(s:List ABlk)=>Zn s efC false false 14 l .i64 i h;generalize l[i]=x at hu hsz hfx ix;refine Yk λkj hkj=>?_;have kk:efL u x=true→∀s,kj [] s:=by
   intro he s;rw[hkj];refine Za (Qj ..) ?_;rw[Qe (n:=i) (by omega)];exact hag (i+1) _ _ (by omega) ⟨rfl,by omega,by rw[hu,he,Bool.true_and]⟩
  have bad:efL u x=false→AVal.bool false=AVal.bool (efsL u l):=by
   intro he; rw[hu,he]; rfl
  clear hkj hag;refine Za (ix _) (Za (ldr (efLd x)) ?_);refine Qs (row:=[iv8 x.op,iv8 x.who,iv8 x.n.op,iv x.n.n,iv8 x.n.who,.rsl false false 4 (x.n.kids.map nmC),.str x.name,iv8 x.c.op,iv8 x.c.who,.str x.c.name,.rsl false false 4 (x.c.nums.map nmC),.rsl false false 5 (x.c.kids.map cnC),.rsl false false 14 (x.thn.map efC),.rsl false false 14 (x.els.map efC)]) (row':=[iv8 x.op,iv8 x.who,iv8 x.n.op,iv x.n.n,iv8 x.n.who,.rsl false false 4 (x.n.kids.map nmC),.str x.name,iv8 x.c.op,iv8 x.c.who,.str x.c.name,.rsl false false 4 (x.c.nums.map nmC),.rsl false false 5 (x.c.kids.map cnC),.rsl false false 14 (x.thn.map efC),.rsl false false 14 (x.els.map efC)]) (by rw[XA]; rfl) rfl rfl ?_;have hB0:=Yj σ (ABlk.box [iv8 x.op,iv8 x.who,iv8 x.n.op,iv x.n.n,iv8 x.n.who,.rsl false false 4 (x.n.kids.map nmC),.str x.name,iv8 x.c.op,iv8 x.c.who,.str x.c.name,.rsl false false 4 (x.c.nums.map nmC),.rsl false false 5 (x.c.kids.map cnC),.rsl false false 14 (x.thn.map efC),.rsl false false 14 (x.els.map efC)]);generalize σ++[ABlk.box [iv8 x.op,iv8 x.who,iv8 x.n.op,iv x.n.n,iv8 x.n.who,.rsl false false 4 (x.n.kids.map nmC),.str x.name,iv8 x.c.op,iv8 x.c.who,.str x.c.name,.rsl false false 4 (x.c.nums.map nmC),.rsl false false 5 (x.c.kids.map cnC),.rsl false false 14 (x.thn.map efC),.rsl false false 14 (x.els.map efC)]]=base at hB0 ⊢;generalize σ.length=b at hB0 ⊢;have hN:Xc true 4 [.bptr b 2] base=.ok (.agg (nmC x.n)) [b] []:=ld hB0 (by rw[ZC]; rfl);have hC:Xc true 5 [.bptr b 7] base=.ok (.agg (cnC x.c)) [b] []:=ld hB0 (by rw[YL]; rfl);rw[YaX] at kk bad;repeat first|refine Za hN ?_|refine Za hC ?_|refine Za (ld hB0 rfl) ?_|refine Za (Zf ..) ?_|refine Za rfl ?_
  refine Zc (λa1=>?_) (λa1=>?_)
  ·have a1:x.op=5:=by simpa using a1
   rw[if_pos a1] at kk bad;repeat first|refine Za hN ?_|refine Za hC ?_|refine Za (ld hB0 rfl) ?_|refine Za (Zf ..) ?_|refine Za rfl ?_
   refine Yd (c191 _ (QX hfx)) rfl g191_ok.plain (nmRo _) ?_;refine Yd (c190 _ _) rfl g190_ok.plain rfl ?_;refine Yd (c189 _ _) rfl g189_ok.plain rfl ?_;refine Za rfl ?_;exact Zc (λh=>bad (by simpa using h)) (λh=>kk (by simpa using h) _)
  have a1:x.op≠5:=by simpa using a1
  rw[if_neg a1] at kk bad;repeat first|refine Za hN ?_|refine Za hC ?_|refine Za (ld hB0 rfl) ?_|refine Za (Zf ..) ?_|refine Za rfl ?_
  refine Zc (λa2=>?_) (λa2=>?_)
  ·have a2:x.op=8:=by simpa using a2
   rw[if_pos a2] at kk bad;have hs2:=ZY x;repeat first|refine Za hN ?_|refine Za hC ?_|refine Za (ld hB0 rfl) ?_|refine Za (Zf ..) ?_|refine Za rfl ?_
   refine Yd (c192 _ (ZU hfx)) rfl g192_ok.plain (cnRo _) ?_;refine Yd (c190 _ _) rfl g190_ok.plain rfl ?_;repeat first|refine Za hN ?_|refine Za hC ?_|refine Za (ld hB0 rfl) ?_|refine Za (Zf ..) ?_|refine Za rfl ?_
   refine Yd (c146' k x.thn _ (by omega) (ZH hfx)) rfl g146_ok.plain rfl ?_;repeat first|refine Za hN ?_|refine Za hC ?_|refine Za (ld hB0 rfl) ?_|refine Za (Zf ..) ?_|refine Za rfl ?_
   rcases YBE (!efsL (joinL u (cnL x.c)) x.thn) with a3|a3
   ·rw[a3];repeat first|refine Xa ?_|refine Xb ?_|refine Zb rfl ?_|refine Yc rfl ?_|refine Qc rfl ?_|refine Zd rfl ?_|refine Za (ld hB0 rfl) ?_|refine Za rfl ?_
    refine Ze (bad ?_);have a3:efsL (joinL u (cnL x.c)) x.thn=false:=by simpa using a3
    simp[a3]
   rw[a3];repeat first|refine Xa ?_|refine Xb ?_|refine Za (ld hB0 rfl) ?_|refine Za rfl ?_
   have a3:efsL (joinL u (cnL x.c)) x.thn=true:=by simpa using a3
   refine Yd (c146' k x.els _ (by omega) (QG hfx)) rfl g146_ok.plain rfl ?_;repeat first|refine Xa ?_|refine Xb ?_|refine Za (ld hB0 rfl) ?_|refine Za rfl ?_
   refine Zc (λh=>bad ?_) (λh=>kk ?_ _)
   ·have h:efsL (joinL u (cnL x.c)) x.els=false:=by simpa using h
    simp[h]
   ·have h:efsL (joinL u (cnL x.c)) x.els=true:=by simpa using h
    simp[a3,h]
  have a2:x.op≠8:=by simpa using a2
  rw[if_neg a2] at kk bad;repeat first|refine Za hN ?_|refine Za hC ?_|refine Za (ld hB0 rfl) ?_|refine Za (Zf ..) ?_|refine Za rfl ?_
  refine Yk λk1 hk1=>?_;have m1:∀c:Bool,c=decide (x.op=0∨x.op=1∨x.op=2∨x.op=3)→k1 [.bool c] base:=by
   rintro c hc;rw[hk1];refine Zc (λh=>?_) (λh=>?_)
   ·rw[h] at hc;rw[if_pos (by simpa using hc.symm)] at kk bad;repeat first|refine Za hN ?_|refine Za hC ?_|refine Za (ld hB0 rfl) ?_|refine Za (Zf ..) ?_|refine Za rfl ?_
    refine Yd (c191 _ (QX hfx)) rfl g191_ok.plain (nmRo _) ?_;refine Yd (c190 _ _) rfl g190_ok.plain rfl ?_;refine Za rfl ?_;exact Zc (λh=>bad (by simpa using h)) (λh=>kk (by simpa using h) _)
   ·rw[h] at hc;rw[if_neg (by simpa using hc.symm)] at kk bad;refine Yd (c190 _ _) rfl g190_ok.plain rfl ?_;refine Za rfl ?_;exact Zc (λh=>bad (by simpa using h)) (λh=>kk (by simpa using h) _)
  clear hk1;refine Zc (λh=>m1 _ ?_) (λh=>?_)
  ·simp at h; simp[h]
  refine Za (Zf ..) (Zc (λh2=>m1 _ ?_) (λh2=>?_))
  ·simp at h2; simp[h2]
  refine Za (Zf ..) (Zc (λh3=>m1 _ ?_) (λh3=>?_))
  ·simp at h3; simp[h3]
  refine Za (Zf ..) (m1 _ ?_);simp at h h2 h3; simp[h,h2,h3]
theorem c146(l:List Ef)(u:Int)(hf:lsFit l=true):PC 146 [iv8 u,efV l] (.bool (efsL u l)):=c146' _ l u (Nat.le_refl _) hf
theorem c114(cs:List Cd)(hf:XI cs=true):PC 114 [cdV cs] (.agg [iv (cdsL cs).1,iv (cdsL cs).2]):=by
 simp only[XI,Bool.and_eq_true,decide_eq_true_eq] at hf;obtain⟨f0,f1⟩:=hf;rw[bigE] at f0;refine Xd hP g114_ok rfl rfl ?_;unfold g114;refine Zh rfl rfl ?_;refine Qi (ι:=Nat) (λi vs σ=>vs=[iv i]∧hget σ 0=.box [iv 0,iv 0]∧0<σ.length∧i≤cs.length∧cdsL cs=cdsL (cs.drop i)) (λi=>cs.length-i) 0 ⟨rfl,rfl,by simp,by omega,by simp⟩ ?_;rintro i vs σ again ⟨rfl,hz,hz2,hi,hu⟩ hag;refine Za rfl (Za rfl ?_);refine Zc (λh=>?_) (λh=>?_);rotate_left
 ·have h:i=cs.length:=by simp at h; omega
  subst h;rw[List.drop_length,cdsL] at hu;refine Za rfl (Zh (stv hz rfl rfl rfl) (Ys _ hz2) (Zw (XG hz2 rfl) ?_));rw[hu]
 have hi:i<cs.length:=by simpa using h
 have hdr:cs.drop i=cs[i]::cs.drop (i+1):=by rw[YLD hi]
 have hix:=λ(s:List ABlk)=>Zn s cdC false false 12 cs .i64 i hi;have hfi:=List.all_eq_true.1 f1 _ (List.getElem_mem hi);generalize cs[i]=c at hdr hix hfi;rw[hdr,cdsL] at hu;simp only[cdFit,Bool.and_eq_true,decide_eq_true_eq] at hfi;obtain⟨g0,g1,g2,g3⟩:=hfi;refine Za (hix _) (Za (ldr (cdLd _)) (Qs (row:=cdC c) (row':=cdC c) rfl rfl rfl ?_));have hB0:=Yj σ (ABlk.box (cdC c));have hz':hget (σ++[ABlk.box (cdC c)]) 0=.box [iv 0,iv 0]:=Xj _ hz (by simp);have hz2':0<(σ++[ABlk.box (cdC c)]).length:=by simp
 generalize σ++[ABlk.box (cdC c)]=base at hB0 hz' hz2' ⊢;generalize σ.length=b at hB0 ⊢;clear hz hz2;repeat first|refine Za (ld hB0 rfl) ?_|refine Za rfl ?_
 refine Yd (c146 _ 0 g1) rfl g146_ok.plain rfl ?_;repeat first|refine Za (ld hB0 rfl) ?_|refine Za rfl ?_
 have bad:cdL c=false→VV.rd (Ya 11 [.bptr b 0] base) λt31_22=>True:=λ_=>Za rfl trivial;clear bad;apply cutF (cdL c=false)
 ·intro hR;have good:cdL c=true→VV.rd (Yh .add false [iv i,(.int .i64 1)] base) λt10_26=>again [t10_26] base:=by
   intro hc;rw[hc,if_pos rfl] at hu;refine Za (Qj ..) ?_;rw[Qe (n:=i) (by omega)];exact hag (i+1) _ _ (by omega) ⟨rfl,hz',hz2',by omega,hu⟩
  rcases YBE (!efsL 0 c.played) with a1|a1
  ·rw[a1];repeat first|refine Xa ?_|refine Xb ?_|refine Zb rfl ?_|refine Yc rfl ?_|refine Qc rfl ?_|refine Zd rfl ?_|refine Za (ld hB0 rfl) ?_|refine Za rfl ?_
   refine Ze (hR ?_);have a1:efsL 0 c.played=false:=by simpa using a1
   simp[cdL,a1]
  rw[a1];repeat first|refine Xa ?_|refine Xb ?_|refine Za (ld hB0 rfl) ?_|refine Za rfl ?_
  have a1:efsL 0 c.played=true:=by simpa using a1
  refine Yd (c146 _ 0 g2) rfl g146_ok.plain rfl ?_;repeat first|refine Xa ?_|refine Xb ?_|refine Za (ld hB0 rfl) ?_|refine Za rfl ?_
  rcases YBE (!efsL 0 c.dead) with a2|a2
  ·rw[a2];repeat first|refine Xa ?_|refine Xb ?_|refine Zb rfl ?_|refine Yc rfl ?_|refine Qc rfl ?_|refine Zd rfl ?_|refine Za (ld hB0 rfl) ?_|refine Za rfl ?_
   refine Ze (hR ?_);have a2:efsL 0 c.dead=false:=by simpa using a2
   simp[cdL,a2]
  rw[a2];repeat first|refine Xa ?_|refine Xb ?_|refine Za (ld hB0 rfl) ?_|refine Za rfl ?_
  have a2:efsL 0 c.dead=true:=by simpa using a2
  refine Yd (c146 _ 0 g3) rfl g146_ok.plain rfl ?_;repeat first|refine Xa ?_|refine Xb ?_|refine Za (ld hB0 rfl) ?_|refine Za rfl ?_
  refine Zc (λa3=>hR ?_) (λa3=>good ?_)
  ·have a3:efsL 0 c.dawn=false:=by simpa using a3
   simp[cdL,a3]
  ·have a3:efsL 0 c.dawn=true:=by simpa using a3
   simp[cdL,a1,a2,a3]
 intro hc;rw[hc] at hu
 replace hu:cdsL cs=(140,c.pl):=hu
 refine Za rfl (Za (ld hB0 rfl) (Za rfl (Zh (stv hz' rfl rfl rfl) (Ys _ hz2') (Zw (XG hz2' rfl) ?_))));rw[hu]
end Go.Ah.Tz
end
section
namespace Go.Ah.Tz
open Go.Proofs.Tryz (prog)
def fndI:Nat→List Cd→Tx→Nat×Bool
 |_,[],_=>(0,false)
 |i,c::l,t=>if c.name==t then (i,true) else fndI (i+1) l t
def nmsGo(cs:List Cd):List Tx→List Tx→Bool
 |_,[]=>true
 |pre,t::l=>((fndI 0 cs t).2&&pre.all λp=>!(p==t))&&nmsGo cs (pre++[t]) l
def fmtOk(b:Bk)(pre:List Fo)(f:Fo):Bool:=
 !(pre.any λg=>g.name==f.name)&&(decide (pre.length<240)&&(nameOk f.name&&(decide (0≤f.least)&&(decide (f.least≤f.most)&&(decide (f.most≤60)&&(decide (0≤f.copies)&&(decide (f.copies≤999)&&(nmsGo b.cards [] f.banned&&nmsGo b.cards [] f.single))))))))
def fmtGo(b:Bk):List Fo→List Fo→Int×Int
 |_,[]=>(0,0)
 |pre,f::l=>if fmtOk b pre f then fmtGo b (pre++[f]) l else (151,f.pl)
def bkR(b:Bk):Int×Int:=if (cdsChk b.cards).1≠0 then cdsChk b.cards else if (cdsL b.cards).1≠0 then cdsL b.cards else fmtGo b [] b.formats
def foFit(f:Fo):Bool:=decide (f.name.length≤big)&&(decide (f.banned.length≤big)&&decide (f.single.length≤big))
def bkFit(b:Bk):Bool:=XI b.cards&&(decide (b.formats.length≤big)&&b.formats.all foFit)
attribute [local irreducible] Ans.rd Ans.pu Ans.wr Ans.dr Ans.gr Ans.gw Ans.gl Ans.gd Ans.opt joinK W
set_option maxHeartbeats 1000000
theorem c195(b:Bk)(hc:b.cards.length≤big)(t:Tx):PC 195 [bkV b,.str t] (.tup [iv (fndI 0 b.cards t).1,.bool (fndI 0 b.cards t).2]):=by
 rw[bigE] at hc;refine Xd hP g195_ok rfl rfl ?_;unfold g195;refine Zh rfl rfl ?_;generalize hB:([]++[ABlk.box [cdV b.cards,foV b.formats]]:List ABlk)=base;have hB0:hget base 0=.box [cdV b.cards,foV b.formats]:=by rw[←hB]; rfl
 clear hB;generalize b.cards=cs at hc hB0 ⊢;refine Qi (ι:=Nat) (λi vs σ=>vs=[iv i]∧σ=base∧i≤cs.length∧fndI 0 cs t=fndI i (cs.drop i) t) (λi=>cs.length-i) 0 ⟨rfl,rfl,by omega,by simp⟩ ?_;rintro i vs σ again ⟨rfl,rfl,hi,hu⟩ hag;repeat first|refine Za (ld hB0 rfl) ?_|refine Za rfl ?_
 refine Zc (λh=>?_) (λh=>?_)
 ·have h:i<cs.length:=by simpa using h
  have hdr:cs.drop i=cs[i]::cs.drop (i+1):=by rw[YLD h]
  rw[hdr,fndI] at hu;refine Za rfl (Za (ld hB0 rfl) (Za (Zn _ cdC false false 12 cs .i64 i h) (Za rfl (Za (ldr (cdLd0 _)) (Za (Zg ..) ?_)))));refine Zc (λh=>?_) (λh=>?_)
  ·rw[if_pos h] at hu;rw[hu]; rfl
  ·rw[if_neg (by simpa using h)] at hu;refine Za (Qj ..) ?_;rw[Qe (n:=i) (by omega)];exact hag (i+1) _ _ (by omega) ⟨rfl,rfl,by omega,hu⟩
 ·have h:i=cs.length:=by simp at h; omega
  subst h;rw[List.drop_length,fndI] at hu;rw[hu]; rfl
theorem c148(b:Bk)(hc:b.cards.length≤big)(l:List Tx)(hl:l.length≤big):PC 148 [bkV b,txV l] (.bool (nmsGo b.cards [] l)):=by
 rw[bigE] at hl;refine Xd hP g148_ok rfl rfl ?_;unfold g148;refine Zh rfl rfl ?_;refine Qi (ι:=Nat) (λi vs σ=>vs=[iv i]∧σ=[]++[ABlk.box [cdV b.cards,foV b.formats]]∧i≤l.length∧nmsGo b.cards [] l=nmsGo b.cards (l.take i) (l.drop i)) (λi=>l.length-i) 0 ⟨rfl,rfl,by omega,by simp⟩ ?_;rintro i vs σ again ⟨rfl,rfl,hi,hu⟩ hag;refine Za rfl (Za rfl ?_);refine Zc (λh=>?_) (λh=>?_);rotate_left
 ·have h:i=l.length:=by simp at h; omega
  subst h;rw[List.drop_length,nmsGo] at hu;rw[hu]
 have h:i<l.length:=by simpa using h
 have hdr:l.drop i=l[i]::l.drop (i+1):=by rw[YLD h]
 have hix:=λ(s:List ABlk)=>Zn s txC false false 1 l .i64 i h;have htk:l.take (i+1)=l.take i++[l[i]]:=Yw l i h;generalize l[i]=t at hdr hix htk;rw[hdr,nmsGo,←htk] at hu;refine Xl rfl rfl (Xl (hix _) rfl (Xl (ldr (txLd _)) rfl ?_));refine Xk (c195 b hc t) rfl g195_ok.plain rfl ?_;refine Zj rfl (Zj rfl (QC (by kernel_rfl) ?_));refine Qi (ι:=Nat) (λk vs σ=>∃ok,vs=[iv k,.bool ok]∧σ=[]++[ABlk.box [cdV b.cards,foV b.formats]]∧k≤i∧((fndI 0 b.cards t).2&&(l.take i).all λp=>!(p==t))=(ok&&((l.take i).drop k).all λp=>!(p==t))) (λk=>i-k) 0 ⟨_,rfl,rfl,by omega,by simp⟩ ?_;rintro k vs σ again2 ⟨ok,rfl,rfl,hk,hv⟩ hag2;refine Za rfl ?_;refine Zc (λh2=>?_) (λh2=>?_)
 ·have h2:k<i:=by simpa using h2
  have hkx:k<(l.take i).length:=by rw[List.length_take]; omega
  have hdr2:(l.take i).drop k=(l.take i)[k]::(l.take i).drop (k+1):=by rw[YLD hkx]
  rw[List.getElem_take] at hdr2;rw[hdr2,List.all_cons,←Bool.and_assoc] at hv;cases ok with
  |true=>
   have hixk:=λ(s:List ABlk)=>Zn s txC false false 1 l .i64 k (by omega);repeat first|refine Xa ?_|refine Za (hixk _) ?_|refine Za (hix _) ?_|refine Za (ldr (txLd _)) ?_|refine Za rfl ?_
   rw[Qe (n:=k) (by omega)];exact hag2 (k+1) _ _ (by omega) ⟨_,rfl,rfl,by omega,by rw[hv,Bool.true_and]⟩
  |false=>
   repeat first|refine Zb rfl ?_|refine Qc rfl ?_
   refine Za rfl (Za (Qj ..) ?_);rw[Qe (n:=k) (by omega)];exact hag2 (k+1) _ _ (by omega) ⟨_,rfl,rfl,by omega,by rw[hv]; simp⟩
 have h2:k=i:=by simp at h2; omega
 subst h2;rw[List.drop_eq_nil_of_le (by rw[List.length_take]; omega),List.all_nil,Bool.and_true] at hv;rw[hv] at hu;refine Za rfl ?_;refine Zc (λh3=>?_) (λh3=>?_)
 ·have h3:ok=false:=by simpa using h3
  subst h3;rw[hu]; rfl
 ·have h3:ok=true:=by simpa using h3
  subst h3;rw[Bool.true_and] at hu;refine Za (Qj ..) ?_;rw[Qe (n:=k) (by omega)];exact hag (k+1) _ _ (by omega) ⟨rfl,rfl,by omega,hu⟩
theorem foLd(x:Fo):partA true 0 7 (foC x)=some (.agg (foC x)):=rfl
theorem foLd0(x:Fo):partA false 0 1 (foC x)=some (.str x.name):=rfl
theorem foLd6(x:Fo):partA false 6 1 (foC x)=some (iv x.pl):=rfl
theorem c115(b:Bk)(hc:b.cards.length≤big)(hfl:b.formats.length≤big)(k:Nat)(hk:k<b.formats.length)(hf:foFit b.formats[k]=true):PC 115 [bkV b,iv k] (.bool (fmtOk b (b.formats.take k) b.formats[k])):=by
 rw[bigE] at hfl;refine Xd hP g115_ok rfl rfl ?_;unfold g115;refine Zh rfl rfl ?_;have hix:=λ(s:List ABlk)=>Zn s foC false false 7 b.formats .i64 k hk;generalize b.formats[k]=f at hf hix ⊢;simp only[foFit,Bool.and_eq_true,decide_eq_true_eq] at hf;obtain⟨f0,f1,f2⟩:=hf;refine Za rfl (Za rfl (Za (hix _) (Za (ldr (foLd f)) (Qs (row:=foC f) (row':=foC f) rfl rfl rfl ?_))));generalize hB:([]++[ABlk.box [cdV b.cards,foV b.formats]]++[ABlk.box (foC f)]:List ABlk)=base;have hB0:hget base 0=.box [cdV b.cards,foV b.formats]:=by rw[←hB]; rfl
 have hB1:hget base 1=.box (foC f):=by rw[←hB]; rfl
 clear hB;have htl:(b.formats.take k).length=k:=by rw[List.length_take]; omega
 refine Qi (ι:=Nat) (λj vs σ=>vs=[iv j]∧σ=base∧j≤k∧((b.formats.take k).any λg=>g.name==f.name)=(((b.formats.take k).drop j).any λg=>g.name==f.name)) (λj=>k-j) 0 ⟨rfl,rfl,by omega,by simp⟩ ?_;rintro j vs σ again ⟨rfl,rfl,hj,hv⟩ hag;refine Za rfl ?_;refine Zc (λh=>?_) (λh=>?_)
 ·have h:j<k:=by simpa using h
  have hjx:j<(b.formats.take k).length:=by omega
  have hdr2:(b.formats.take k).drop j=(b.formats.take k)[j]::(b.formats.take k).drop (j+1):=by rw[YLD hjx]
  rw[List.getElem_take] at hdr2;rw[hdr2,List.any_cons] at hv;refine Za rfl (Za (ld hB0 rfl) (Za (Zn _ foC false false 7 b.formats .i64 j (by omega)) (Za rfl (Za (ldr (foLd0 _)) (Za rfl (Za (ld hB1 rfl) (Za (Zg ..) ?_)))))));refine Zc (λh=>?_) (λh=>?_)
  ·rw[h,Bool.true_or] at hv;simp[fmtOk,hv]
  ·rw[h,Bool.false_or] at hv;refine Za (Qj ..) ?_;rw[Qe (n:=j) (by omega)];exact hag (j+1) _ _ (by omega) ⟨rfl,rfl,by omega,hv⟩
 have h:j=k:=by simp at h; omega
 subst h;rw[List.drop_eq_nil_of_le (by omega),List.any_nil] at hv;unfold fmtOk;rw[hv,htl,Bool.not_false,Bool.true_and];clear hv hag hix;refine Za rfl ?_;rcases YBE (decide ((j:Int) ≥ 240)) with a1|a1
 ·rw[a1];repeat first|refine Xa ?_|refine Xb ?_|refine Zb rfl ?_|refine Yc rfl ?_|refine Qc rfl ?_|refine Zd rfl ?_|refine Za (ld hB0 rfl) ?_|refine Za (ld hB1 rfl) ?_|refine Za rfl ?_
  refine Ze ?_;have a1:¬j<240:=by simp at a1; omega
  simp[a1]
 rw[a1];repeat first|refine Xa ?_|refine Xb ?_|refine Za (ld hB0 rfl) ?_|refine Za (ld hB1 rfl) ?_|refine Za rfl ?_
 have a1:j<240:=by simp at a1; omega
 refine Yd (c147 _ f0) rfl g147_ok.plain rfl ?_;repeat first|refine Xa ?_|refine Xb ?_|refine Za (ld hB0 rfl) ?_|refine Za (ld hB1 rfl) ?_|refine Za rfl ?_
 refine Zc (λa2=>?_) (λa2=>?_)
 ·have a2:nameOk f.name=false:=by simpa using a2
  simp[a2]
 have a2:nameOk f.name=true:=by simpa using a2
 rw[decide_eq_true a1,a2,Bool.true_and,Bool.true_and];clear a1 a2;repeat first|refine Xa ?_|refine Xb ?_|refine Za (ld hB0 rfl) ?_|refine Za (ld hB1 rfl) ?_|refine Za rfl ?_
 rcases YBE (decide (f.least ≥ 0)) with b1|b1
 rotate_left
 ·rw[b1];repeat first|refine Xa ?_|refine Xb ?_|refine Zb rfl ?_|refine Yc rfl ?_|refine Qc rfl ?_|refine Zd rfl ?_|refine Za (ld hB0 rfl) ?_|refine Za (ld hB1 rfl) ?_|refine Za rfl ?_
  have b1:¬0≤f.least:=by simpa using b1
  simp[b1]
 rw[b1];repeat first|refine Xa ?_|refine Xb ?_|refine Za (ld hB0 rfl) ?_|refine Za (ld hB1 rfl) ?_|refine Za rfl ?_
 have b1:0≤f.least:=by simpa using b1
 rcases YBE (decide (f.least≤f.most)) with b2|b2
 rotate_left
 ·rw[b2];repeat first|refine Xa ?_|refine Xb ?_|refine Zb rfl ?_|refine Yc rfl ?_|refine Qc rfl ?_|refine Zd rfl ?_|refine Za (ld hB0 rfl) ?_|refine Za (ld hB1 rfl) ?_|refine Za rfl ?_
  have b2:¬f.least≤f.most:=by simpa using b2
  simp[b2]
 rw[b2];repeat first|refine Xa ?_|refine Xb ?_|refine Za (ld hB0 rfl) ?_|refine Za (ld hB1 rfl) ?_|refine Za rfl ?_
 have b2:f.least≤f.most:=by simpa using b2
 rcases YBE (decide (f.most≤60)) with b3|b3
 rotate_left
 ·rw[b3];repeat first|refine Xa ?_|refine Xb ?_|refine Zb rfl ?_|refine Yc rfl ?_|refine Qc rfl ?_|refine Zd rfl ?_|refine Za (ld hB0 rfl) ?_|refine Za (ld hB1 rfl) ?_|refine Za rfl ?_
  have b3:¬f.most≤60:=by simpa using b3
  simp[b3]
 rw[b3];repeat first|refine Xa ?_|refine Xb ?_|refine Za (ld hB0 rfl) ?_|refine Za (ld hB1 rfl) ?_|refine Za rfl ?_
 have b3:f.most≤60:=by simpa using b3
 rcases YBE (decide (f.copies ≥ 0)) with b4|b4
 rotate_left
 ·rw[b4];repeat first|refine Xa ?_|refine Xb ?_|refine Zb rfl ?_|refine Yc rfl ?_|refine Qc rfl ?_|refine Zd rfl ?_|refine Za (ld hB0 rfl) ?_|refine Za (ld hB1 rfl) ?_|refine Za rfl ?_
  have b4:¬0≤f.copies:=by simpa using b4
  simp[b4]
 rw[b4];repeat first|refine Xa ?_|refine Xb ?_|refine Za (ld hB0 rfl) ?_|refine Za (ld hB1 rfl) ?_|refine Za rfl ?_
 have b4:0≤f.copies:=by simpa using b4
 rcases YBE (decide (f.copies≤999)) with b5|b5
 rotate_left
 ·rw[b5];repeat first|refine Xa ?_|refine Xb ?_|refine Zb rfl ?_|refine Yc rfl ?_|refine Qc rfl ?_|refine Zd rfl ?_|refine Za (ld hB0 rfl) ?_|refine Za (ld hB1 rfl) ?_|refine Za rfl ?_
  have b5:¬f.copies≤999:=by simpa using b5
  simp[b5]
 rw[b5];repeat first|refine Xa ?_|refine Xb ?_|refine Za (ld hB0 rfl) ?_|refine Za (ld hB1 rfl) ?_|refine Za rfl ?_
 have b5:f.copies≤999:=by simpa using b5
 simp only[b1,b2,b3,b4,b5,decide_true,Bool.true_and];refine Yd (c148 b hc _ f1) rfl g148_ok.plain rfl ?_;repeat first|refine Xa ?_|refine Xb ?_|refine Za (ld hB0 rfl) ?_|refine Za (ld hB1 rfl) ?_|refine Za rfl ?_
 rcases YBE (nmsGo b.cards [] f.banned) with c1|c1
 rotate_left
 ·rw[c1];repeat first|refine Xa ?_|refine Xb ?_|refine Zb rfl ?_|refine Yc rfl ?_|refine Qc rfl ?_|refine Zd rfl ?_|refine Za (ld hB0 rfl) ?_|refine Za (ld hB1 rfl) ?_|refine Za rfl ?_
  simp[c1]
 rw[c1];repeat first|refine Xa ?_|refine Xb ?_|refine Za (ld hB0 rfl) ?_|refine Za (ld hB1 rfl) ?_|refine Za rfl ?_
 refine Yd (c148 b hc _ f2) rfl g148_ok.plain rfl ?_;repeat first|refine Xa ?_|refine Xb ?_|refine Za (ld hB0 rfl) ?_|refine Za (ld hB1 rfl) ?_|refine Za rfl ?_
 simp[c1]
theorem c67(b:Bk)(hf:bkFit b=true):PC 67 [bkV b] (.agg [iv (bkR b).1,iv (bkR b).2]):=by
 simp only[bkFit,Bool.and_eq_true,decide_eq_true_eq] at hf;obtain⟨f0,f1,f2⟩:=hf;have f12:=f1;rw[bigE] at f12;have fc:b.cards.length≤big:=by simp only[XI,Bool.and_eq_true,decide_eq_true_eq] at f0; exact f0.1
 refine Xd hP g67_ok rfl rfl ?_;unfold g67;refine Zh rfl rfl (Zh rfl rfl (Za rfl (Za rfl ?_)));refine Yd (c113 _ f0) rfl g113_ok.plain rfl ?_;refine Qs rfl rfl rfl (Za rfl (Za rfl (Za rfl ?_)));unfold bkR;refine Zc (λh=>?_) (λh=>?_)
 ·rw[if_pos (by simpa using h)];refine Za rfl (Zh rfl rfl (Zw rfl rfl))
 rw[if_neg (by simpa using h)];refine Za rfl (Za rfl ?_);refine Yd (c114 _ f0) rfl g114_ok.plain rfl ?_;refine Qs rfl rfl rfl (Za rfl (Za rfl (Za rfl ?_)));refine Zc (λh=>?_) (λh=>?_)
 ·rw[if_pos (by simpa using h)];refine Za rfl (Zh rfl rfl (Zw rfl rfl))
 rw[if_neg (by simpa using h)];generalize cdsChk b.cards=p1;generalize cdsL b.cards=p2;refine Qi (ι:=Nat) (λi vs σ=>vs=[iv i]∧σ=[]++[ABlk.box [cdV b.cards,foV b.formats]]++[.box [iv 0,iv 0]]++[.box [iv p1.1,iv p1.2]]++[.box [iv p2.1,iv p2.2]]∧i≤b.formats.length∧fmtGo b [] b.formats=fmtGo b (b.formats.take i) (b.formats.drop i)) (λi=>b.formats.length-i) 0 ⟨rfl,rfl,by omega,by simp⟩ ?_;rintro i vs σ again ⟨rfl,rfl,hi,hu⟩ hag;refine Za rfl (Za rfl (Za rfl (Za rfl ?_)));refine Zc (λh=>?_) (λh=>?_);rotate_left
 ·have h:i=b.formats.length:=by simp at h; omega
  subst h;rw[List.drop_length,fmtGo] at hu;refine Za rfl (Zh rfl rfl (Zw rfl ?_));rw[hu]
 have h:i<b.formats.length:=by simpa using h
 have hdr:b.formats.drop i=b.formats[i]::b.formats.drop (i+1):=by rw[YLD h]
 have hix:=λ(s:List ABlk)=>Zn s foC false false 7 b.formats .i64 i h;have htk:b.formats.take (i+1)=b.formats.take i++[b.formats[i]]:=Yw b.formats i h;have hmy:=c115 b fc f1 i h (List.all_eq_true.1 f2 _ (List.getElem_mem h));generalize b.formats[i]=f at hdr hix htk hmy;rw[hdr,fmtGo,←htk] at hu;refine Za rfl ?_;refine Yd hmy rfl g115_ok.plain rfl ?_;refine Za rfl ?_;refine Zc (λh3=>?_) (λh3=>?_)
 ·rw[if_neg (by simpa using h3)] at hu;refine Za rfl (Za rfl (Za (hix _) (Za rfl (Za (ldr (foLd6 _)) (Za rfl (Zh rfl rfl (Zw rfl ?_)))))));rw[hu]
 ·rw[if_pos (by simpa using h3)] at hu;refine Za (Qj ..) ?_;rw[Qe (n:=i) (by omega)];exact hag (i+1) _ _ (by omega) ⟨rfl,rfl,by omega,hu⟩
end Go.Ah.Tz
end
section
namespace Go.Ah.Tz
open Go.Proofs.Tryz (prog)
structure NmAt (row:List AVal) (j:Nat) (x:Nm):Prop where
 h0:partA false (j+0) 1 row=some (iv8 x.op)
 h1:partA false (j+1) 1 row=some (iv x.n)
 h2:partA false (j+2) 1 row=some (iv8 x.who)
 h3:partA false (j+3) 1 row=some (.rsl false false 4 (x.kids.map nmC))
theorem nmAt(x:Nm):NmAt (nmC x) 0 x:=by rw[ZC]; exact⟨rfl,rfl,rfl,rfl⟩
theorem nmAt2(x:Ef):NmAt (efC x) 2 x.n:=by rw[XA]; exact⟨rfl,rfl,rfl,rfl⟩
attribute [local irreducible] Ans.rd Ans.pu Ans.wr Ans.dr Ans.gr Ans.gw Ans.gl Ans.gd Ans.opt joinK W
set_option maxHeartbeats 1000000
theorem c210(w:Int):PC 210 [iv8 w] (.bool (cntOp w)):=by
 refine Xd hP g210_ok rfl rfl ?_;unfold g210;refine Za (Zf ..) ?_;refine Yk λk1 hk1=>?_;have kk:∀c,c=cntOp w→k1 [.bool c] []:=by
  rintro c hc;rw[hk1];refine Zc (λh=>?_) (λh=>?_)
  ·rw[←hc,h]
  ·rw[←hc,h]
 clear hk1;refine Zc (λa0=>kk _ ?_) (λa0=>?_)
 ·simp at a0; simp[cntOp,a0]
 refine Za (Zf ..) (Zc (λa1=>kk _ ?_) (λa1=>?_))
 ·simp at a1; simp[cntOp,a1]
 refine Za (Zf ..) (Zc (λa2=>kk _ ?_) (λa2=>?_))
 ·simp at a2; simp[cntOp,a2]
 refine Za (Zf ..) (Zc (λa3=>kk _ ?_) (λa3=>?_))
 ·simp at a3; simp[cntOp,a3]
 refine Za (Zf ..) (kk _ ?_);simp at a0 a1 a2 a3;simp[cntOp,a0,a1,a2,a3]
theorem c212(w:Int):PC 212 [iv8 w] (.bool (sdOp w)):=by
 refine Xd hP g212_ok rfl rfl ?_;unfold g212;refine Za (Zf ..) ?_;rcases YBE (decide (w=0)) with h1|h1
 ·rw[h1];repeat first|refine Xa ?_|refine Xb ?_|refine Zb rfl ?_|refine Yc rfl ?_|refine Qc rfl ?_|refine Zd rfl ?_|refine Za rfl ?_
  simp at h1; simp[sdOp,h1]
 rw[h1];repeat first|refine Xa ?_|refine Xb ?_|refine Za rfl ?_
 have h1:w≠0:=by simpa using h1
 exact congrArg AVal.bool (by rw[Bool.eq_iff_iff]; simp[sdOp,h1])
theorem c211'(u:AVal)(t:Bool):∀(k:Nat) (x:Nm) (row:List AVal) (j:Nat),NmAt row j x→SizeOf.sizeOf x≤k→nmFit x=true→PC 211 [.rptr [u,.bool t] 0,.rptr row j] (.bool (nmOk t x))
 |0,x,_,_,_,h,_=>by cases x; simp at h
 |k+1,x,row,j,hx,hk,hf=>by
  refine Xd hP g211_ok rfl rfl ?_;unfold g211;rw[QbP];have hlen:=YW hf;rw[bigE] at hlen;repeat first|refine Za (ldr hx.h0) ?_|refine Za (ldr hx.h1) ?_|refine Za (ldr hx.h2) ?_|refine Za (ldr hx.h3) ?_|refine Za (Zf ..) ?_|refine Za (ldr (row:=[u,.bool t]) rfl) ?_|refine Za rfl ?_
  refine Yk λk11 hk11=>?_;have bad:∀b1 b2 b3:Bool,(b1&&(b2&&b3))=false→AVal.bool false=AVal.bool (b1&&(b2&&b3)):=by
   intro b1 b2 b3 h; rw[h]
  have kk:∀(p o:Bool) (kd:Nat),kd=nmK x.op→(0≤x.op∧x.op≤12)→(p&&o)=nmEnd t x.op x.n x.who→k11 [.bool p,.bool o,iv kd] []:=by
   rintro p o kd rfl hop hpo;rw[hk11]; clear hk11 k11;repeat first|refine Za (ldr hx.h0) ?_|refine Za (ldr hx.h1) ?_|refine Za (ldr hx.h2) ?_|refine Za (ldr hx.h3) ?_|refine Za (Zf ..) ?_|refine Za (ldr (row:=[u,.bool t]) rfl) ?_|refine Za rfl ?_
   cases p with
   |false=>
    repeat first|refine Xa ?_|refine Xb ?_|refine Zb rfl ?_|refine Yc rfl ?_|refine Qc rfl ?_|refine Zd rfl ?_|refine Za (ldr hx.h0) ?_|refine Za (ldr hx.h1) ?_|refine Za (ldr hx.h2) ?_|refine Za (ldr hx.h3) ?_|refine Za (Zf ..) ?_|refine Za (ldr (row:=[u,.bool t]) rfl) ?_|refine Za rfl ?_
    refine Ze (bad _ _ _ ?_);rw[←hpo]; simp
   |true=>
    repeat first|refine Xa ?_|refine Xb ?_|refine Za (ldr hx.h0) ?_|refine Za (ldr hx.h1) ?_|refine Za (ldr hx.h2) ?_|refine Za (ldr hx.h3) ?_|refine Za (Zf ..) ?_|refine Za (ldr (row:=[u,.bool t]) rfl) ?_|refine Za rfl ?_
    cases o with
    |false=>
     repeat first|refine Xa ?_|refine Xb ?_|refine Zb rfl ?_|refine Yc rfl ?_|refine Qc rfl ?_|refine Zd rfl ?_|refine Za (ldr hx.h0) ?_|refine Za (ldr hx.h1) ?_|refine Za (ldr hx.h2) ?_|refine Za (ldr hx.h3) ?_|refine Za (Zf ..) ?_|refine Za (ldr (row:=[u,.bool t]) rfl) ?_|refine Za rfl ?_
     refine Ze (bad _ _ _ ?_);rw[←hpo]; simp
    |true=>
     repeat first|refine Xa ?_|refine Xb ?_|refine Za (ldr hx.h0) ?_|refine Za (ldr hx.h1) ?_|refine Za (ldr hx.h2) ?_|refine Za (ldr hx.h3) ?_|refine Za (Zf ..) ?_|refine Za (ldr (row:=[u,.bool t]) rfl) ?_|refine Za rfl ?_
     refine Zc (λh=>bad _ _ _ ?_) (λh=>?_)
     ·have:nmTop t x.op x.n x.who x.kids.length=false:=by
       rw[Bool.eq_false_iff]; intro hh; simp[nmTop] at hh; simp at h; omega
      rw[this]; rfl
     have ht:nmTop t x.op x.n x.who x.kids.length=true:=by simp at h; simp[nmTop]; omega
     rw[ht,←hpo,Bool.true_and,Bool.and_self,Bool.and_true];repeat first|refine Za (ldr hx.h0) ?_|refine Za (ldr hx.h1) ?_|refine Za (ldr hx.h2) ?_|refine Za (ldr hx.h3) ?_|refine Za (Zf ..) ?_|refine Za (ldr (row:=[u,.bool t]) rfl) ?_|refine Za rfl ?_
     refine Qi (ι:=Nat) (λi vs σ=>vs=[iv i]∧σ=[]∧i≤x.kids.length∧nmsOk t x.kids=nmsOk t (x.kids.drop i)) (λi=>x.kids.length-i) 0 ⟨rfl,rfl,by omega,by simp⟩ ?_;rintro i vs σ again ⟨rfl,rfl,hi,hu⟩ hag;refine Za rfl ?_;refine Zc (λh=>?_) (λh=>?_)
     ·have h:i<x.kids.length:=by simpa using h
      have hdr:x.kids.drop i=x.kids[i]::x.kids.drop (i+1):=by rw[YLD h]
      rw[hdr,nmsOk] at hu;have hm:x.kids[i]∈x.kids:=List.getElem_mem h;refine Za rfl (Za rfl (Za (ldr hx.h3) (Za (Zn _ nmC _ _ _ x.kids _ i h) ?_)));refine Yd (c211' u t k _ _ 0 (nmAt _) (by have:=Qaa hm; omega) (ZR hf hm)) rfl g211_ok.plain rfl ?_;refine Za rfl ?_;refine Zc (λh4=>?_) (λh4=>?_)
      ·have h4:nmOk t x.kids[i]=false:=by simpa using h4
       rw[hu,h4]; rfl
      ·have h4:nmOk t x.kids[i]=true:=by simpa using h4
       rw[h4,Bool.true_and] at hu;refine Za (Qj ..) ?_;rw[Qe (n:=i) (by omega)];exact hag (i+1) _ _ (by omega) ⟨rfl,rfl,by omega,hu⟩
     have h:i=x.kids.length:=by simp at h; omega
     subst h;rw[List.drop_length,nmsOk] at hu;rw[hu]
  clear hk11;repeat first|refine Za (ldr hx.h0) ?_|refine Za (ldr hx.h1) ?_|refine Za (ldr hx.h2) ?_|refine Za (ldr hx.h3) ?_|refine Za (Zf ..) ?_|refine Za (ldr (row:=[u,.bool t]) rfl) ?_|refine Za rfl ?_
  refine Zc (λa0=>?_) (λa0=>?_)
  ·have a0:x.op=0:=by simpa using a0
   repeat first|refine Za (ldr hx.h0) ?_|refine Za (ldr hx.h1) ?_|refine Za (ldr hx.h2) ?_|refine Za (ldr hx.h3) ?_|refine Za (Zf ..) ?_|refine Za (ldr (row:=[u,.bool t]) rfl) ?_|refine Za rfl ?_
   have e:nmEnd t x.op x.n x.who=((decide (0≤x.n)&&decide (x.n≤999))&&decide (x.who=0)):=by simp[nmEnd,a0,Bool.and_assoc]
   rcases YBE (decide (x.n ≥ 0)) with h|h
   ·rw[h];repeat first|refine Xa ?_|refine Xb ?_|refine Za (ldr hx.h0) ?_|refine Za (ldr hx.h1) ?_|refine Za (ldr hx.h2) ?_|refine Za (ldr hx.h3) ?_|refine Za (Zf ..) ?_|refine Za (ldr (row:=[u,.bool t]) rfl) ?_|refine Za rfl ?_
    refine kk _ _ 0 (by simp[nmK,a0]) (by omega) ?_;simp at h; rw[e]; simp[h]
   ·rw[h];repeat first|refine Xa ?_|refine Xb ?_|refine Zb rfl ?_|refine Yc rfl ?_|refine Qc rfl ?_|refine Zd rfl ?_|refine Za (ldr hx.h0) ?_|refine Za (ldr hx.h1) ?_|refine Za (ldr hx.h2) ?_|refine Za (ldr hx.h3) ?_|refine Za (Zf ..) ?_|refine Za (ldr (row:=[u,.bool t]) rfl) ?_|refine Za rfl ?_
    refine kk _ _ 0 (by simp[nmK,a0]) (by omega) ?_;simp at h; rw[e]; simp; intro h1; omega
  have a0:x.op≠0:=by simpa using a0
  repeat first|refine Za (ldr hx.h0) ?_|refine Za (ldr hx.h1) ?_|refine Za (ldr hx.h2) ?_|refine Za (ldr hx.h3) ?_|refine Za (Zf ..) ?_|refine Za (ldr (row:=[u,.bool t]) rfl) ?_|refine Za rfl ?_
  refine Yk λk25 hk25=>?_;have m1:∀c,c=decide (x.op=1∨x.op=2∨x.op=3∨x.op=4)→k25 [.bool c] []:=by
   rintro c hc;rw[hk25]; clear hk25 k25;refine Zc (λh=>?_) (λh=>?_)
   ·rw[h] at hc;have a1:x.op=1∨x.op=2∨x.op=3∨x.op=4:=by simpa using hc.symm
    repeat first|refine Za (ldr hx.h0) ?_|refine Za (ldr hx.h1) ?_|refine Za (ldr hx.h2) ?_|refine Za (ldr hx.h3) ?_|refine Za (Zf ..) ?_|refine Za (ldr (row:=[u,.bool t]) rfl) ?_|refine Za rfl ?_
    refine Yd (c212 _) rfl g212_ok.plain rfl ?_;refine kk _ _ 0 (by simp[nmK]; omega) (by omega) ?_;rw[nmEnd,if_neg a0,if_pos (by omega)]
   rw[h] at hc;have a1:¬(x.op=1∨x.op=2∨x.op=3∨x.op=4):=by simpa using hc.symm
   have e:nmEnd t x.op x.n x.who=(decide (x.n=0)&&(decide (x.who=0)&&(decide (x.op≠7)||t)))∨¬(0≤x.op∧x.op≤12):=by
    by_cases hr:0≤x.op∧x.op≤12
    ·left; rw[nmEnd,if_neg a0,if_neg (by omega)]
    ·right; exact hr
   repeat first|refine Za (ldr hx.h0) ?_|refine Za (ldr hx.h1) ?_|refine Za (ldr hx.h2) ?_|refine Za (ldr hx.h3) ?_|refine Za (Zf ..) ?_|refine Za (ldr (row:=[u,.bool t]) rfl) ?_|refine Za rfl ?_
   refine Yk λk35 hk35=>?_;have m2:∀c,c=decide (x.op=5∨x.op=6)→k35 [.bool c] []:=by
    rintro c hc;rw[hk35]; clear hk35 k35;refine Zc (λh=>?_) (λh=>?_)
    ·rw[h] at hc;have a2:x.op=5∨x.op=6:=by simpa using hc.symm
     refine kk _ _ 0 (by simp[nmK]; omega) (by omega) ?_;rcases e with e|e
     ·rw[e]; simp[show x.op≠7 by omega]
     ·omega
    rw[h] at hc;have a2:¬(x.op=5∨x.op=6):=by simpa using hc.symm
    repeat first|refine Za (ldr hx.h0) ?_|refine Za (ldr hx.h1) ?_|refine Za (ldr hx.h2) ?_|refine Za (ldr hx.h3) ?_|refine Za (Zf ..) ?_|refine Za (ldr (row:=[u,.bool t]) rfl) ?_|refine Za rfl ?_
    refine Zc (λa3=>?_) (λa3=>?_)
    ·have a3:x.op=7:=by simpa using a3
     rcases e with e|e
     ·rcases YBE (decide (x.who=0)) with h|h
      ·rw[h];repeat first|refine Xa ?_|refine Xb ?_|refine Za (ldr hx.h0) ?_|refine Za (ldr hx.h1) ?_|refine Za (ldr hx.h2) ?_|refine Za (ldr hx.h3) ?_|refine Za (Zf ..) ?_|refine Za (ldr (row:=[u,.bool t]) rfl) ?_|refine Za rfl ?_
       refine kk _ _ 0 (by simp[nmK,a3]) (by omega) ?_;rw[e,h]; simp[a3]
      ·rw[h];repeat first|refine Xa ?_|refine Xb ?_|refine Zb rfl ?_|refine Yc rfl ?_|refine Qc rfl ?_|refine Zd rfl ?_|refine Za (ldr hx.h0) ?_|refine Za (ldr hx.h1) ?_|refine Za (ldr hx.h2) ?_|refine Za (ldr hx.h3) ?_|refine Za (Zf ..) ?_|refine Za (ldr (row:=[u,.bool t]) rfl) ?_|refine Za rfl ?_
       refine kk _ _ 0 (by simp[nmK,a3]) (by omega) ?_;rw[e,h]; simp
     ·omega
    have a3:x.op≠7:=by simpa using a3
    repeat first|refine Za (ldr hx.h0) ?_|refine Za (ldr hx.h1) ?_|refine Za (ldr hx.h2) ?_|refine Za (ldr hx.h3) ?_|refine Za (Zf ..) ?_|refine Za (ldr (row:=[u,.bool t]) rfl) ?_|refine Za rfl ?_
    refine Yk λk45 hk45=>?_;have m3:∀c,c=decide (x.op=8∨x.op=9∨x.op=10∨x.op=11∨x.op=12)→k45 [.bool c] []:=by
     rintro c hc;rw[hk45]; clear hk45 k45;refine Zc (λh=>?_) (λh=>?_)
     ·rw[h] at hc;have a4:x.op=8∨x.op=9∨x.op=10∨x.op=11∨x.op=12:=by simpa using hc.symm
      refine kk _ _ 2 (by simp[nmK]; omega) (by omega) ?_;rcases e with e|e
      ·rw[e]; simp[a3]
      ·omega
     ·rw[h] at hc;have a4:¬(x.op=8∨x.op=9∨x.op=10∨x.op=11∨x.op=12):=by simpa using hc.symm
      refine bad _ _ _ ?_;have:nmTop t x.op x.n x.who x.kids.length=false:=by
       rw[Bool.eq_false_iff]; intro hh; simp[nmTop] at hh; omega
      rw[this]; rfl
    clear hk45;refine Zc (λc1=>m3 _ ?_) (λc1=>?_)
    ·simp at c1; simp[c1]
    refine Za (Zf ..) (Zc (λc2=>m3 _ ?_) (λc2=>?_))
    ·simp at c2; simp[c2]
    refine Za (Zf ..) (Zc (λc3=>m3 _ ?_) (λc3=>?_))
    ·simp at c3; simp[c3]
    refine Za (Zf ..) (Zc (λc4=>m3 _ ?_) (λc4=>?_))
    ·simp at c4; simp[c4]
    refine Za (Zf ..) (m3 _ ?_);simp at c1 c2 c3 c4; simp[c1,c2,c3,c4]
   clear hk35;refine Zc (λc1=>m2 _ ?_) (λc1=>?_)
   ·simp at c1; simp[c1]
   refine Za (Zf ..) (m2 _ ?_);simp at c1; simp[c1]
  clear hk25;refine Zc (λc1=>m1 _ ?_) (λc1=>?_)
  ·simp at c1; simp[c1]
  refine Za (Zf ..) (Zc (λc2=>m1 _ ?_) (λc2=>?_))
  ·simp at c2; simp[c2]
  refine Za (Zf ..) (Zc (λc3=>m1 _ ?_) (λc3=>?_))
  ·simp at c3; simp[c3]
  refine Za (Zf ..) (m1 _ ?_);simp at c1 c2 c3; simp[c1,c2,c3]
theorem c211(u:AVal)(t:Bool)(x:Nm)(row:List AVal)(j:Nat)(hx:NmAt row j x)(hf:nmFit x=true):PC 211 [.rptr [u,.bool t] 0,.rptr row j] (.bool (nmOk t x)):=c211' u t _ x row j hx (Nat.le_refl _) hf
end Go.Ah.Tz
end
section
namespace Go.Ah.Tz
open Go.Proofs.Tryz (prog)
def tlook(t:Tx):List (Tx×Bool)→Option Bool
 |[]=>none
 |p::l=>if t==p.1 then some p.2 else tlook t l
def mpE(l:List (Tx×Bool)):List (AVal×AVal):=l.map λp=>(AVal.str p.1,AVal.bool p.2)
theorem Y1(t:Tx):∀l,alook (.str t) (mpE l)=some ((tlook t l).map AVal.bool)
 |[]=>rfl
 |p::l=>by
  simp only[mpE,List.map_cons,alook,keyEq,tlook];cases h:t==p.1 with
  |true=>rfl
  |false=>exact Y1 t l
def chkM(l:List (Tx×Bool))(t:Bool):List AVal:=[.rmap (mpE l),.bool t]
theorem XQ(l:List (Tx×Bool))(t:Tx)(σ:List ABlk):Yo true true (.bool false) [.rmap (mpE l),.str t] σ=.ok (.tup [.bool ((tlook t l).getD false),.bool (tlook t l).isSome]) [] []:=by
 show (match alook (.str t) (mpE l) with
  |some r=>SRes.ok (lookV true (.bool false) r) [] []
  | none=>.stop)=_
 rw[Y1];cases tlook t l<;>rfl
theorem Zm(l:List (Tx×Bool))(t:Tx)(σ:List ABlk):Yo true false (.bool false) [.rmap (mpE l),.str t] σ=.ok (.bool ((tlook t l).getD false)) [] []:=by
 show (match alook (.str t) (mpE l) with
  |some r=>SRes.ok (lookV false (.bool false) r) [] []
  | none=>.stop)=_
 rw[Y1];cases tlook t l<;>rfl
def Units(l:List (Tx×Bool))(cs:List Cd):Prop:=∀t u,findC cs t u=match tlook t l with
 |none=>false
 |some b=>b || !u
structure CnAt (row:List AVal) (j:Nat) (x:Cn):Prop where
 h0:partA false (j+0) 1 row=some (iv8 x.op)
 h1:partA false (j+1) 1 row=some (iv8 x.who)
 h2:partA false (j+2) 1 row=some (.str x.name)
 h3:partA false (j+3) 1 row=some (.rsl false false 4 (x.nums.map nmC))
 h4:partA false (j+4) 1 row=some (.rsl false false 5 (x.kids.map cnC))
theorem cnAt(x:Cn):CnAt (cnC x) 0 x:=by rw[YL]; exact⟨rfl,rfl,rfl,rfl,rfl⟩
theorem cnAt7(x:Ef):CnAt (efC x) 7 x.c:=by rw[XA]; exact⟨rfl,rfl,rfl,rfl,rfl⟩
attribute [local irreducible] Ans.rd Ans.pu Ans.wr Ans.dr Ans.gr Ans.gw Ans.gl Ans.gd Ans.opt joinK W
set_option maxHeartbeats 1000000
theorem Yb9{P:Program}{GL:Globs}{c d:Bool}{K:AVal→Prop}{r1:SRes}{f2 f3 f4 f5:AVal→SRes}{σ:List ABlk}{v1 v2 v3 v4:AVal}{q1 q2 q3 q4 q5:List Nat}(h1:r1=.ok v1 q1 [])(h2:f2 v1=.ok v2 q2 [])(h3:f3 v2=.ok v3 q3 [])(h4:f4 v3=.ok v4 q4 [])(h5:f5 v4=.ok (.bool d) q5 [])(hK:K (.bool (c&&d))) :
  (W P GL).gr (.bool c) true (λk=>(W P GL).rd r1 k) λt1=>(W P GL).gr (.bool c) true (λk=>(W P GL).rd (f2 t1) k) λt2=>(W P GL).gr (.bool c) true (λk=>(W P GL).rd (f3 t2) k) λt3=>(W P GL).gr (.bool c) true (λk=>(W P GL).rd (f4 t3) k) λt4=>(W P GL).gr (.bool c) true (λk=>(W P GL).rd (f5 t4) k) λt5=>(W P GL).rd (Yi [.bool c,t5,.bool false] σ) K:=by
 cases c with
 |true=>exact Xa (Za h1 (Xa (Za h2 (Xa (Za h3 (Xa (Za h4 (Xa (Za h5 (Za rfl hK))))))))))
 |false=>exact Zb rfl (Zb rfl (Zb rfl (Zb rfl (Zb rfl (Za rfl hK)))))
theorem c213'(l:List (Tx×Bool))(cs:List Cd)(hU:Units l cs)(t:Bool):∀(k:Nat) (x:Cn) (row:List AVal) (j:Nat),CnAt row j x→SizeOf.sizeOf x≤k→cnFit x=true→PC 213 [.rptr (chkM l t) 0,.rptr row j] (.bool (cnOk cs t x))
 |0,x,_,_,_,h,_=>by cases x; simp at h
 |k+1,x,row,j,hx,hk,hf=>by
  refine Xd hP g213_ok rfl rfl ?_;unfold g213;rw[ZbG];have hl1:=XJ hf;have hl2:=YJ hf;rw[bigE] at hl1 hl2;refine Za rfl (Za rfl (Za (ldr hx.h1) (Za (Zf ..) ?_)));refine Yb9 rfl rfl rfl (ldr hx.h2) (Zg ..) ?_;refine Za rfl (Za rfl (Za (ldr hx.h0) ?_));have bad:∀b1 b2 b3 b4:Bool,(b1&&(b2&&(b3&&b4)))=false→AVal.bool false=AVal.bool (b1&&(b2&&(b3&&b4))):=by
   intro b1 b2 b3 b4 h; rw[h]
  have badT:¬(0≤x.op∧x.op≤6∧x.nums.length=cnK3 x.op∧x.kids.length=cnK4 x.op)→AVal.bool false=AVal.bool (cnTop x.op x.nums.length x.kids.length&&(nmsOk t x.nums&&(cnsOk cs t x.kids&&cnEnd cs x.op x.who x.name))):=by
   intro hn;have:cnTop x.op x.nums.length x.kids.length=false:=by
    rw[Bool.eq_false_iff]; intro hh; simp[cnTop] at hh; exact hn hh
   rw[this]; rfl
  refine Yk λk13 hk13=>?_;have kk:∀(ok:Bool) (k3 k4:Nat),k3=cnK3 x.op→k4=cnK4 x.op→(0≤x.op∧x.op≤6)→ok=cnEnd cs x.op x.who x.name→k13 [.bool ok,iv k3,iv k4] []:=by
   rintro ok k3 k4 rfl rfl hop hok;rw[hk13]; clear hk13 k13;repeat first|refine Za (ldr hx.h0) ?_|refine Za (ldr hx.h1) ?_|refine Za (ldr hx.h2) ?_|refine Za (ldr hx.h3) ?_|refine Za (ldr hx.h4) ?_|refine Za (Zf ..) ?_|refine Za (Zg ..) ?_|refine Za (ldr (row:=chkM l t) rfl) ?_|refine Za (XQ ..) ?_|refine Za rfl ?_
   cases ok with
   |false=>
    repeat first|refine Xa ?_|refine Xb ?_|refine Zb rfl ?_|refine Yc rfl ?_|refine Qc rfl ?_|refine Zd rfl ?_|refine Za (ldr hx.h0) ?_|refine Za (ldr hx.h1) ?_|refine Za (ldr hx.h2) ?_|refine Za (ldr hx.h3) ?_|refine Za (ldr hx.h4) ?_|refine Za (Zf ..) ?_|refine Za (Zg ..) ?_|refine Za (ldr (row:=chkM l t) rfl) ?_|refine Za (XQ ..) ?_|refine Za rfl ?_
    refine Ze (bad _ _ _ _ ?_);rw[←hok]; simp
   |true=>
    repeat first|refine Xa ?_|refine Xb ?_|refine Za (ldr hx.h0) ?_|refine Za (ldr hx.h1) ?_|refine Za (ldr hx.h2) ?_|refine Za (ldr hx.h3) ?_|refine Za (ldr hx.h4) ?_|refine Za (Zf ..) ?_|refine Za (Zg ..) ?_|refine Za (ldr (row:=chkM l t) rfl) ?_|refine Za (XQ ..) ?_|refine Za rfl ?_
    rcases YBE (((x.nums.map nmC).length:Int) != (cnK3 x.op:Int)) with h3|h3
    ·rw[h3];repeat first|refine Xa ?_|refine Xb ?_|refine Zb rfl ?_|refine Yc rfl ?_|refine Qc rfl ?_|refine Zd rfl ?_|refine Za (ldr hx.h0) ?_|refine Za (ldr hx.h1) ?_|refine Za (ldr hx.h2) ?_|refine Za (ldr hx.h3) ?_|refine Za (ldr hx.h4) ?_|refine Za (Zf ..) ?_|refine Za (Zg ..) ?_|refine Za (ldr (row:=chkM l t) rfl) ?_|refine Za (XQ ..) ?_|refine Za rfl ?_
     refine Ze (badT ?_);simp at h3; omega
    rw[h3];repeat first|refine Xa ?_|refine Xb ?_|refine Za (ldr hx.h0) ?_|refine Za (ldr hx.h1) ?_|refine Za (ldr hx.h2) ?_|refine Za (ldr hx.h3) ?_|refine Za (ldr hx.h4) ?_|refine Za (Zf ..) ?_|refine Za (Zg ..) ?_|refine Za (ldr (row:=chkM l t) rfl) ?_|refine Za (XQ ..) ?_|refine Za rfl ?_
    refine Zc (λh4=>badT ?_) (λh4=>?_)
    ·simp at h4; omega
    simp at h3 h4;have ht:cnTop x.op x.nums.length x.kids.length=true:=by simp[cnTop]; omega
    rw[ht,←hok,Bool.true_and,Bool.and_true];repeat first|refine Za (ldr hx.h0) ?_|refine Za (ldr hx.h1) ?_|refine Za (ldr hx.h2) ?_|refine Za (ldr hx.h3) ?_|refine Za (ldr hx.h4) ?_|refine Za (Zf ..) ?_|refine Za (Zg ..) ?_|refine Za (ldr (row:=chkM l t) rfl) ?_|refine Za (XQ ..) ?_|refine Za rfl ?_
    refine Qi (ι:=Nat) (λi vs σ=>vs=[iv i]∧σ=[]∧i≤x.nums.length∧nmsOk t x.nums=nmsOk t (x.nums.drop i)) (λi=>x.nums.length-i) 0 ⟨rfl,rfl,by omega,by simp⟩ ?_;rintro i vs σ again ⟨rfl,rfl,hi,hu⟩ hag;refine Za rfl ?_;refine Zc (λh=>?_) (λh=>?_)
    ·have h:i<x.nums.length:=by simpa using h
     have hdr:x.nums.drop i=x.nums[i]::x.nums.drop (i+1):=by rw[YLD h]
     rw[hdr,nmsOk] at hu;have hm:x.nums[i]∈x.nums:=List.getElem_mem h;refine Za rfl (Za rfl (Za (ldr hx.h3) (Za (Zn _ nmC _ _ _ x.nums _ i h) ?_)));refine Yd (c211 _ t _ _ 0 (nmAt _) (QP hf hm)) rfl g211_ok.plain rfl ?_;refine Za rfl ?_;refine Zc (λh4=>?_) (λh4=>?_)
     ·have h4:nmOk t x.nums[i]=false:=by simpa using h4
      rw[hu,h4]; rfl
     ·have h4:nmOk t x.nums[i]=true:=by simpa using h4
      rw[h4,Bool.true_and] at hu;refine Za (Qj ..) ?_;rw[Qe (n:=i) (by omega)];exact hag (i+1) _ _ (by omega) ⟨rfl,rfl,by omega,hu⟩
    have h:i=x.nums.length:=by simp at h; omega
    subst h;rw[List.drop_length,nmsOk] at hu;rw[hu,Bool.true_and];clear hag hu hi;repeat first|refine Za (ldr hx.h0) ?_|refine Za (ldr hx.h1) ?_|refine Za (ldr hx.h2) ?_|refine Za (ldr hx.h3) ?_|refine Za (ldr hx.h4) ?_|refine Za (Zf ..) ?_|refine Za (Zg ..) ?_|refine Za (ldr (row:=chkM l t) rfl) ?_|refine Za (XQ ..) ?_|refine Za rfl ?_
    refine Qi (ι:=Nat) (λi vs s=>vs=[iv i]∧s=[]∧i≤x.kids.length∧cnsOk cs t x.kids=cnsOk cs t (x.kids.drop i)) (λi=>x.kids.length-i) 0 ⟨rfl,rfl,by omega,by simp⟩ ?_;rintro i vs s again ⟨rfl,rfl,hi,hu⟩ hag;refine Za rfl ?_;refine Zc (λh=>?_) (λh=>?_)
    ·have h:i<x.kids.length:=by simpa using h
     have hdr:x.kids.drop i=x.kids[i]::x.kids.drop (i+1):=by rw[YLD h]
     rw[hdr,cnsOk] at hu;have hm:x.kids[i]∈x.kids:=List.getElem_mem h;refine Za rfl (Za rfl (Za (ldr hx.h4) (Za (Zn _ cnC _ _ _ x.kids _ i h) ?_)));refine Yd (c213' l cs hU t k _ _ 0 (cnAt _) (by have:=X9 hm; omega) (XP hf hm)) rfl g213_ok.plain rfl ?_;refine Za rfl ?_;refine Zc (λh4=>?_) (λh4=>?_)
     ·have h4:cnOk cs t x.kids[i]=false:=by simpa using h4
      rw[hu,h4]; rfl
     ·have h4:cnOk cs t x.kids[i]=true:=by simpa using h4
      rw[h4,Bool.true_and] at hu;refine Za (Qj ..) ?_;rw[Qe (n:=i) (by omega)];exact hag (i+1) _ _ (by omega) ⟨rfl,rfl,by omega,hu⟩
    have h:i=x.kids.length:=by simp at h; omega
    subst h;rw[List.drop_length,cnsOk] at hu;rw[hu]
  clear hk13;have e6:x.op≠6→(decide (x.who=0)&&(x.name==[]))=cnEnd cs x.op x.who x.name:=by
   intro h; rw[cnEnd,if_neg h]
  refine Za (Zf ..) ?_;refine Yk λk1 hk1=>?_;have m1:∀c,c=decide (x.op=0∨x.op=1∨x.op=2)→k1 [.bool c] []:=by
   rintro c hc;rw[hk1]; clear hk1 k1;refine Zc (λh=>?_) (λh=>?_)
   ·rw[h] at hc;have a1:x.op=0∨x.op=1∨x.op=2:=by simpa using hc.symm
    exact kk _ 2 0 (by simp[cnK3]; omega) (by unfold cnK4; split<;>(try split)<;>omega) (by omega) (e6 (by omega))
   rw[h] at hc;have a1:¬(x.op=0∨x.op=1∨x.op=2):=by simpa using hc.symm
   refine Za (Zf ..) (Zc (λa3=>?_) (λa3=>?_))
   ·have a3:x.op=3:=by simpa using a3
    exact kk _ 0 1 (by simp[cnK3]; omega) (by unfold cnK4; split<;>(try split)<;>omega) (by omega) (e6 (by omega))
   have a3:x.op≠3:=by simpa using a3
   refine Za (Zf ..) ?_;refine Yk λk1 hk1=>?_;have m2:∀c,c=decide (x.op=4∨x.op=5)→k1 [.bool c] []:=by
    rintro c hc;rw[hk1]; clear hk1 k1;refine Zc (λh=>?_) (λh=>?_)
    ·rw[h] at hc;have a1:x.op=4∨x.op=5:=by simpa using hc.symm
     exact kk _ 0 2 (by simp[cnK3]; omega) (by unfold cnK4; split<;>(try split)<;>omega) (by omega) (e6 (by omega))
    rw[h] at hc;have a4:¬(x.op=4∨x.op=5):=by simpa using hc.symm
    refine Za (Zf ..) (Zc (λa6=>?_) (λa6=>?_))
    ·have a6:x.op=6:=by simpa using a6
     repeat first|refine Za (ldr hx.h0) ?_|refine Za (ldr hx.h1) ?_|refine Za (ldr hx.h2) ?_|refine Za (ldr hx.h3) ?_|refine Za (ldr hx.h4) ?_|refine Za (Zf ..) ?_|refine Za (Zg ..) ?_|refine Za (ldr (row:=chkM l t) rfl) ?_|refine Za (XQ ..) ?_|refine Za rfl ?_
     have hfind:=hU x.name false;have e:cnEnd cs x.op x.who x.name=((tlook x.name l).isSome&&sdOp x.who):=by
      rw[cnEnd,if_pos a6,hfind];cases tlook x.name l<;>simp
     rcases YBE (tlook x.name l).isSome with h|h
     ·rw[h];repeat first|refine Xa ?_|refine Xb ?_|refine Za (ldr hx.h0) ?_|refine Za (ldr hx.h1) ?_|refine Za (ldr hx.h2) ?_|refine Za (ldr hx.h3) ?_|refine Za (ldr hx.h4) ?_|refine Za (Zf ..) ?_|refine Za (Zg ..) ?_|refine Za (ldr (row:=chkM l t) rfl) ?_|refine Za (XQ ..) ?_|refine Za rfl ?_
      refine Yd (c212 _) rfl g212_ok.plain rfl ?_;repeat first|refine Xa ?_|refine Xb ?_|refine Za (ldr hx.h0) ?_|refine Za (ldr hx.h1) ?_|refine Za (ldr hx.h2) ?_|refine Za (ldr hx.h3) ?_|refine Za (ldr hx.h4) ?_|refine Za (Zf ..) ?_|refine Za (Zg ..) ?_|refine Za (ldr (row:=chkM l t) rfl) ?_|refine Za (XQ ..) ?_|refine Za rfl ?_
      exact kk _ 0 0 (by simp[cnK3]; omega) (by unfold cnK4; split<;>(try split)<;>omega) (by omega) (by rw[e,h,Bool.true_and])
     ·rw[h];repeat first|refine Xa ?_|refine Xb ?_|refine Zb rfl ?_|refine Yc rfl ?_|refine Qc rfl ?_|refine Zd rfl ?_|refine Za (ldr hx.h0) ?_|refine Za (ldr hx.h1) ?_|refine Za (ldr hx.h2) ?_|refine Za (ldr hx.h3) ?_|refine Za (ldr hx.h4) ?_|refine Za (Zf ..) ?_|refine Za (Zg ..) ?_|refine Za (ldr (row:=chkM l t) rfl) ?_|refine Za (XQ ..) ?_|refine Za rfl ?_
      exact kk _ 0 0 (by simp[cnK3]; omega) (by unfold cnK4; split<;>(try split)<;>omega) (by omega) (by rw[e,h,Bool.false_and])
    ·have a6:x.op≠6:=by simpa using a6
     exact badT (by omega)
   clear hk1;refine Zc (λc1=>m2 _ ?_) (λc1=>?_)
   ·simp at c1; simp[c1]
   refine Za (Zf ..) (m2 _ ?_);simp at c1; simp[c1]
  clear hk1;refine Zc (λc1=>m1 _ ?_) (λc1=>?_)
  ·simp at c1; simp[c1]
  refine Za (Zf ..) (Zc (λc2=>m1 _ ?_) (λc2=>?_))
  ·simp at c2; simp[c2]
  refine Za (Zf ..) (m1 _ ?_);simp at c1 c2; simp[c1,c2]
theorem c213(l:List (Tx×Bool))(cs:List Cd)(hU:Units l cs)(t:Bool)(x:Cn)(row:List AVal)(j:Nat)(hx:CnAt row j x)(hf:cnFit x=true):PC 213 [.rptr (chkM l t) 0,.rptr row j] (.bool (cnOk cs t x)):=c213' l cs hU t _ x row j hx (Nat.le_refl _) hf
end Go.Ah.Tz
end
section
namespace Go.Ah.Tz
open Go.Proofs.Tryz (prog)
def zeroB(x:Ef):Bool:=((cntOp x.op||noNum x.n)&&(decide (x.op=7)||x.name==[]))&&(decide (x.op=8)||(decide (x.c.op=0)&&(decide (x.c.who=0)&&(x.c.name==[]&&decide (x.c.nums.length+x.c.kids.length+x.thn.length+x.els.length=0)))))
attribute [local irreducible] Ans.rd Ans.pu Ans.wr Ans.dr Ans.gr Ans.gw Ans.gl Ans.gd Ans.opt joinK W
set_option maxHeartbeats 2000000
theorem c209(x:Ef)(hf:efFit x=true):PC 209 [.rptr (efC x) 0] (.bool (zeroB x)):=by
 have l1:=XJ (ZU hf);have l2:=YJ (ZU hf);have l3:=Zz (ZH hf);have l4:=Zz (QG hf);rw[bigE] at l1 l2 l3 l4;rw[XA];refine Xd hP g209_ok rfl rfl ?_;unfold g209;repeat first|refine Za (Zf ..) ?_|refine Za (Zg ..) ?_|refine Za (ldr (row:=[iv8 x.op,iv8 x.who,iv8 x.n.op,iv x.n.n,iv8 x.n.who,.rsl false false 4 (x.n.kids.map nmC),.str x.name,iv8 x.c.op,iv8 x.c.who,.str x.c.name,.rsl false false 4 (x.c.nums.map nmC),.rsl false false 5 (x.c.kids.map cnC),.rsl false false 14 (x.thn.map efC),.rsl false false 14 (x.els.map efC)]) rfl) ?_|refine Za rfl ?_
 refine Yd (c210 _) rfl g210_ok.plain rfl ?_;have r1:∀K:AVal→Prop,K (.bool (cntOp x.op||noNum x.n))→VV.gr (AVal.bool (cntOp x.op)) false (λk=>VV.rd (Xh [(AVal.rptr [iv8 x.op,iv8 x.who,iv8 x.n.op,iv x.n.n,iv8 x.n.who,.rsl false false 4 (x.n.kids.map nmC),.str x.name,iv8 x.c.op,iv8 x.c.who,.str x.c.name,.rsl false false 4 (x.c.nums.map nmC),.rsl false false 5 (x.c.kids.map cnC),.rsl false false 14 (x.thn.map efC),.rsl false false 14 (x.els.map efC)] 0)] ([]:List ABlk)) k) λt13_4=>VV.gr (AVal.bool (cntOp x.op)) false (λk=>VV.rd (Qa [t13_4] ([]:List ABlk)) k) λt14_5=>VV.gr (AVal.bool (cntOp x.op)) false (λk=>VV.rd (Ya 2 [t14_5] ([]:List ABlk)) k) λt15_6=>VV.gr (AVal.bool (cntOp x.op)) false (λk=>VV.rd (Ya 0 [t15_6] ([]:List ABlk)) k) λt16_7=>VV.gr (AVal.bool (cntOp x.op)) false (λk=>VV.rd (Xc false 1 [t16_7] ([]:List ABlk)) k) λt17_8=>VV.gr (AVal.bool (cntOp x.op)) false (λk=>VV.rd (Yh .eql false [t17_8,(.int .i8 0)] ([]:List ABlk)) k) λt18_9=>VV.gr (AVal.bool (cntOp x.op)) false (λk=>VV.rd (Xh [t18_9] ([]:List ABlk)) k) λt19_10=>VV.gr t19_10 true (λk=>VV.rd (Xh [(AVal.rptr [iv8 x.op,iv8 x.who,iv8 x.n.op,iv x.n.n,iv8 x.n.who,.rsl false false 4 (x.n.kids.map nmC),.str x.name,iv8 x.c.op,iv8 x.c.who,.str x.c.name,.rsl false false 4 (x.c.nums.map nmC),.rsl false false 5 (x.c.kids.map cnC),.rsl false false 14 (x.thn.map efC),.rsl false false 14 (x.els.map efC)] 0)] ([]:List ABlk)) k) λt20_11=>VV.gr t19_10 true (λk=>VV.rd (Qa [t20_11] ([]:List ABlk)) k) λt21_12=>VV.gr t19_10 true (λk=>VV.rd (Ya 2 [t21_12] ([]:List ABlk)) k) λt22_13=>VV.gr t19_10 true (λk=>VV.rd (Ya 1 [t22_13] ([]:List ABlk)) k) λt23_14=>VV.gr t19_10 true (λk=>VV.rd (Xc false 1 [t23_14] ([]:List ABlk)) k) λt24_15=>VV.gr t19_10 true (λk=>VV.rd (Yh .eql false [t24_15,(.int .i64 0)] ([]:List ABlk)) k) λt25_16=>VV.gr (AVal.bool (cntOp x.op)) false (λk=>VV.rd (Yi [t19_10,t25_16,(.bool false)] ([]:List ABlk)) k) λt26_17=>VV.gr (AVal.bool (cntOp x.op)) false (λk=>VV.rd (Xh [t26_17] ([]:List ABlk)) k) λt27_18=>VV.gr t27_18 true (λk=>VV.rd (Xh [(AVal.rptr [iv8 x.op,iv8 x.who,iv8 x.n.op,iv x.n.n,iv8 x.n.who,.rsl false false 4 (x.n.kids.map nmC),.str x.name,iv8 x.c.op,iv8 x.c.who,.str x.c.name,.rsl false false 4 (x.c.nums.map nmC),.rsl false false 5 (x.c.kids.map cnC),.rsl false false 14 (x.thn.map efC),.rsl false false 14 (x.els.map efC)] 0)] ([]:List ABlk)) k) λt28_19=>VV.gr t27_18 true (λk=>VV.rd (Qa [t28_19] ([]:List ABlk)) k) λt29_20=>VV.gr t27_18 true (λk=>VV.rd (Ya 2 [t29_20] ([]:List ABlk)) k) λt30_21=>VV.gr t27_18 true (λk=>VV.rd (Ya 2 [t30_21] ([]:List ABlk)) k) λt31_22=>VV.gr t27_18 true (λk=>VV.rd (Xc false 1 [t31_22] ([]:List ABlk)) k) λt32_23=>VV.gr t27_18 true (λk=>VV.rd (Yh .eql false [t32_23,(.int .i8 0)] ([]:List ABlk)) k) λt33_24=>VV.gr (AVal.bool (cntOp x.op)) false (λk=>VV.rd (Yi [t27_18,t33_24,(.bool false)] ([]:List ABlk)) k) λt34_25=>VV.gr (AVal.bool (cntOp x.op)) false (λk=>VV.rd (Xh [t34_25] ([]:List ABlk)) k) λt35_26=>VV.gr t35_26 true (λk=>VV.rd (Xh [(AVal.rptr [iv8 x.op,iv8 x.who,iv8 x.n.op,iv x.n.n,iv8 x.n.who,.rsl false false 4 (x.n.kids.map nmC),.str x.name,iv8 x.c.op,iv8 x.c.who,.str x.c.name,.rsl false false 4 (x.c.nums.map nmC),.rsl false false 5 (x.c.kids.map cnC),.rsl false false 14 (x.thn.map efC),.rsl false false 14 (x.els.map efC)] 0)] ([]:List ABlk)) k) λt36_27=>VV.gr t35_26 true (λk=>VV.rd (Qa [t36_27] ([]:List ABlk)) k) λt37_28=>VV.gr t35_26 true (λk=>VV.rd (Ya 2 [t37_28] ([]:List ABlk)) k) λt38_29=>VV.gr t35_26 true (λk=>VV.rd (Ya 3 [t38_29] ([]:List ABlk)) k) λt39_30=>VV.gr t35_26 true (λk=>VV.rd (Xc false 1 [t39_30] ([]:List ABlk)) k) λt40_31=>VV.gr t35_26 true (λk=>VV.rd (Xe [t40_31] ([]:List ABlk)) k) λt41_32=>VV.gr t35_26 true (λk=>VV.rd (Yh .eql false [t41_32,(.int .i64 0)] ([]:List ABlk)) k) λt42_33=>VV.gr (AVal.bool (cntOp x.op)) false (λk=>VV.rd (Yi [t35_26,t42_33,(.bool false)] ([]:List ABlk)) k) λt43_34=>VV.rd (Yi [(AVal.bool (cntOp x.op)),(.bool true),t43_34] ([]:List ABlk)) K:=by
  intro K hK;rcases YBE (cntOp x.op) with h0|h0
  ·rw[h0] at hK ⊢;repeat first|refine Xa ?_|refine Xb ?_|refine Zb rfl ?_|refine Yc rfl ?_|refine Qc rfl ?_|refine Zd rfl ?_|refine Za (Zf ..) ?_|refine Za (Zg ..) ?_|refine Za (ldr (row:=[iv8 x.op,iv8 x.who,iv8 x.n.op,iv x.n.n,iv8 x.n.who,.rsl false false 4 (x.n.kids.map nmC),.str x.name,iv8 x.c.op,iv8 x.c.who,.str x.c.name,.rsl false false 4 (x.c.nums.map nmC),.rsl false false 5 (x.c.kids.map cnC),.rsl false false 14 (x.thn.map efC),.rsl false false 14 (x.els.map efC)]) rfl) ?_|refine Za rfl ?_
   exact hK
  rw[h0,Bool.false_or] at hK;rw[h0];repeat first|refine Xa ?_|refine Xb ?_|refine Za (Zf ..) ?_|refine Za (Zg ..) ?_|refine Za (ldr (row:=[iv8 x.op,iv8 x.who,iv8 x.n.op,iv x.n.n,iv8 x.n.who,.rsl false false 4 (x.n.kids.map nmC),.str x.name,iv8 x.c.op,iv8 x.c.who,.str x.c.name,.rsl false false 4 (x.c.nums.map nmC),.rsl false false 5 (x.c.kids.map cnC),.rsl false false 14 (x.thn.map efC),.rsl false false 14 (x.els.map efC)]) rfl) ?_|refine Za rfl ?_
  rcases YBE (decide (x.n.op=0)) with h1|h1
  rotate_left
  ·rw[h1];repeat first|refine Xa ?_|refine Xb ?_|refine Zb rfl ?_|refine Yc rfl ?_|refine Qc rfl ?_|refine Zd rfl ?_|refine Za (Zf ..) ?_|refine Za (Zg ..) ?_|refine Za (ldr (row:=[iv8 x.op,iv8 x.who,iv8 x.n.op,iv x.n.n,iv8 x.n.who,.rsl false false 4 (x.n.kids.map nmC),.str x.name,iv8 x.c.op,iv8 x.c.who,.str x.c.name,.rsl false false 4 (x.c.nums.map nmC),.rsl false false 5 (x.c.kids.map cnC),.rsl false false 14 (x.thn.map efC),.rsl false false 14 (x.els.map efC)]) rfl) ?_|refine Za rfl ?_
   rw[show noNum x.n=false by simp at h1; simp[noNum,h1]] at hK;exact hK
  rw[h1];repeat first|refine Xa ?_|refine Xb ?_|refine Za (Zf ..) ?_|refine Za (Zg ..) ?_|refine Za (ldr (row:=[iv8 x.op,iv8 x.who,iv8 x.n.op,iv x.n.n,iv8 x.n.who,.rsl false false 4 (x.n.kids.map nmC),.str x.name,iv8 x.c.op,iv8 x.c.who,.str x.c.name,.rsl false false 4 (x.c.nums.map nmC),.rsl false false 5 (x.c.kids.map cnC),.rsl false false 14 (x.thn.map efC),.rsl false false 14 (x.els.map efC)]) rfl) ?_|refine Za rfl ?_
  rcases YBE (decide (x.n.n=0)) with h2|h2
  rotate_left
  ·rw[h2];repeat first|refine Xa ?_|refine Xb ?_|refine Zb rfl ?_|refine Yc rfl ?_|refine Qc rfl ?_|refine Zd rfl ?_|refine Za (Zf ..) ?_|refine Za (Zg ..) ?_|refine Za (ldr (row:=[iv8 x.op,iv8 x.who,iv8 x.n.op,iv x.n.n,iv8 x.n.who,.rsl false false 4 (x.n.kids.map nmC),.str x.name,iv8 x.c.op,iv8 x.c.who,.str x.c.name,.rsl false false 4 (x.c.nums.map nmC),.rsl false false 5 (x.c.kids.map cnC),.rsl false false 14 (x.thn.map efC),.rsl false false 14 (x.els.map efC)]) rfl) ?_|refine Za rfl ?_
   rw[show noNum x.n=false by simp at h2; simp[noNum,h2]] at hK;exact hK
  rw[h2];repeat first|refine Xa ?_|refine Xb ?_|refine Za (Zf ..) ?_|refine Za (Zg ..) ?_|refine Za (ldr (row:=[iv8 x.op,iv8 x.who,iv8 x.n.op,iv x.n.n,iv8 x.n.who,.rsl false false 4 (x.n.kids.map nmC),.str x.name,iv8 x.c.op,iv8 x.c.who,.str x.c.name,.rsl false false 4 (x.c.nums.map nmC),.rsl false false 5 (x.c.kids.map cnC),.rsl false false 14 (x.thn.map efC),.rsl false false 14 (x.els.map efC)]) rfl) ?_|refine Za rfl ?_
  rcases YBE (decide (x.n.who=0)) with h3|h3
  rotate_left
  ·rw[h3];repeat first|refine Xa ?_|refine Xb ?_|refine Zb rfl ?_|refine Yc rfl ?_|refine Qc rfl ?_|refine Zd rfl ?_|refine Za (Zf ..) ?_|refine Za (Zg ..) ?_|refine Za (ldr (row:=[iv8 x.op,iv8 x.who,iv8 x.n.op,iv x.n.n,iv8 x.n.who,.rsl false false 4 (x.n.kids.map nmC),.str x.name,iv8 x.c.op,iv8 x.c.who,.str x.c.name,.rsl false false 4 (x.c.nums.map nmC),.rsl false false 5 (x.c.kids.map cnC),.rsl false false 14 (x.thn.map efC),.rsl false false 14 (x.els.map efC)]) rfl) ?_|refine Za rfl ?_
   rw[show noNum x.n=false by simp at h3; simp[noNum,h3]] at hK;exact hK
  rw[h3];repeat first|refine Xa ?_|refine Xb ?_|refine Za (Zf ..) ?_|refine Za (Zg ..) ?_|refine Za (ldr (row:=[iv8 x.op,iv8 x.who,iv8 x.n.op,iv x.n.n,iv8 x.n.who,.rsl false false 4 (x.n.kids.map nmC),.str x.name,iv8 x.c.op,iv8 x.c.who,.str x.c.name,.rsl false false 4 (x.c.nums.map nmC),.rsl false false 5 (x.c.kids.map cnC),.rsl false false 14 (x.thn.map efC),.rsl false false 14 (x.els.map efC)]) rfl) ?_|refine Za rfl ?_
  have e:noNum x.n=decide (((x.n.kids.map nmC).length:Int)=0):=by
   rw[Bool.eq_iff_iff]; simp at h1 h2 h3; simp[noNum,h1,h2,h3]
  rw[e] at hK;exact hK
 refine r1 _ ?_;clear r1;repeat first|refine Za (Zf ..) ?_|refine Za (Zg ..) ?_|refine Za (ldr (row:=[iv8 x.op,iv8 x.who,iv8 x.n.op,iv x.n.n,iv8 x.n.who,.rsl false false 4 (x.n.kids.map nmC),.str x.name,iv8 x.c.op,iv8 x.c.who,.str x.c.name,.rsl false false 4 (x.c.nums.map nmC),.rsl false false 5 (x.c.kids.map cnC),.rsl false false 14 (x.thn.map efC),.rsl false false 14 (x.els.map efC)]) rfl) ?_|refine Za rfl ?_
 have r2:∀K:AVal→Prop,K (.bool (decide (x.op=7)||x.name==[]))→VV.gr (AVal.bool (decide (x.op=7))) false (λk=>VV.rd (Xh [(AVal.rptr [iv8 x.op,iv8 x.who,iv8 x.n.op,iv x.n.n,iv8 x.n.who,.rsl false false 4 (x.n.kids.map nmC),.str x.name,iv8 x.c.op,iv8 x.c.who,.str x.c.name,.rsl false false 4 (x.c.nums.map nmC),.rsl false false 5 (x.c.kids.map cnC),.rsl false false 14 (x.thn.map efC),.rsl false false 14 (x.els.map efC)] 0)] ([]:List ABlk)) k) λt51_40=>VV.gr (AVal.bool (decide (x.op=7))) false (λk=>VV.rd (Qa [t51_40] ([]:List ABlk)) k) λt52_41=>VV.gr (AVal.bool (decide (x.op=7))) false (λk=>VV.rd (Ya 6 [t52_41] ([]:List ABlk)) k) λt53_42=>VV.gr (AVal.bool (decide (x.op=7))) false (λk=>VV.rd (Xc false 1 [t53_42] ([]:List ABlk)) k) λt54_43=>VV.gr (AVal.bool (decide (x.op=7))) false (λk=>VV.rd (Yh .eql false [t54_43,(.str [])] ([]:List ABlk)) k) λt55_44=>VV.rd (Yi [(AVal.bool (decide (x.op=7))),(.bool true),t55_44] ([]:List ABlk)) K:=by
  intro K hK;rcases YBE (decide (x.op=7)) with h0|h0
  ·rw[h0] at hK ⊢;repeat first|refine Xa ?_|refine Xb ?_|refine Zb rfl ?_|refine Yc rfl ?_|refine Qc rfl ?_|refine Zd rfl ?_|refine Za (Zf ..) ?_|refine Za (Zg ..) ?_|refine Za (ldr (row:=[iv8 x.op,iv8 x.who,iv8 x.n.op,iv x.n.n,iv8 x.n.who,.rsl false false 4 (x.n.kids.map nmC),.str x.name,iv8 x.c.op,iv8 x.c.who,.str x.c.name,.rsl false false 4 (x.c.nums.map nmC),.rsl false false 5 (x.c.kids.map cnC),.rsl false false 14 (x.thn.map efC),.rsl false false 14 (x.els.map efC)]) rfl) ?_|refine Za rfl ?_
   exact hK
  rw[h0,Bool.false_or] at hK;rw[h0];repeat first|refine Xa ?_|refine Xb ?_|refine Za (Zf ..) ?_|refine Za (Zg ..) ?_|refine Za (ldr (row:=[iv8 x.op,iv8 x.who,iv8 x.n.op,iv x.n.n,iv8 x.n.who,.rsl false false 4 (x.n.kids.map nmC),.str x.name,iv8 x.c.op,iv8 x.c.who,.str x.c.name,.rsl false false 4 (x.c.nums.map nmC),.rsl false false 5 (x.c.kids.map cnC),.rsl false false 14 (x.thn.map efC),.rsl false false 14 (x.els.map efC)]) rfl) ?_|refine Za rfl ?_
  exact hK
 refine r2 _ ?_;clear r2;repeat first|refine Za (Zf ..) ?_|refine Za (Zg ..) ?_|refine Za (ldr (row:=[iv8 x.op,iv8 x.who,iv8 x.n.op,iv x.n.n,iv8 x.n.who,.rsl false false 4 (x.n.kids.map nmC),.str x.name,iv8 x.c.op,iv8 x.c.who,.str x.c.name,.rsl false false 4 (x.c.nums.map nmC),.rsl false false 5 (x.c.kids.map cnC),.rsl false false 14 (x.thn.map efC),.rsl false false 14 (x.els.map efC)]) rfl) ?_|refine Za rfl ?_
 have r3:∀K:AVal→Prop,K (.bool (decide (x.op=8)||(decide (x.c.op=0)&&(decide (x.c.who=0)&&(x.c.name==[]&&decide (x.c.nums.length+x.c.kids.length+x.thn.length+x.els.length=0))))))→VV.gr (AVal.bool (decide (x.op=8))) false (λk=>VV.rd (Xh [(AVal.rptr [iv8 x.op,iv8 x.who,iv8 x.n.op,iv x.n.n,iv8 x.n.who,.rsl false false 4 (x.n.kids.map nmC),.str x.name,iv8 x.c.op,iv8 x.c.who,.str x.c.name,.rsl false false 4 (x.c.nums.map nmC),.rsl false false 5 (x.c.kids.map cnC),.rsl false false 14 (x.thn.map efC),.rsl false false 14 (x.els.map efC)] 7)] ([]:List ABlk)) k) λt66_52=>VV.gr (AVal.bool (decide (x.op=8))) false (λk=>VV.rd (Qa [t66_52] ([]:List ABlk)) k) λt67_53=>VV.gr (AVal.bool (decide (x.op=8))) false (λk=>VV.rd (Ya 0 [t67_53] ([]:List ABlk)) k) λt68_54=>VV.gr (AVal.bool (decide (x.op=8))) false (λk=>VV.rd (Xc false 1 [t68_54] ([]:List ABlk)) k) λt69_55=>VV.gr (AVal.bool (decide (x.op=8))) false (λk=>VV.rd (Yh .eql false [t69_55,(.int .i8 0)] ([]:List ABlk)) k) λt70_56=>VV.gr (AVal.bool (decide (x.op=8))) false (λk=>VV.rd (Xh [t70_56] ([]:List ABlk)) k) λt71_57=>VV.gr t71_57 true (λk=>VV.rd (Xh [(AVal.rptr [iv8 x.op,iv8 x.who,iv8 x.n.op,iv x.n.n,iv8 x.n.who,.rsl false false 4 (x.n.kids.map nmC),.str x.name,iv8 x.c.op,iv8 x.c.who,.str x.c.name,.rsl false false 4 (x.c.nums.map nmC),.rsl false false 5 (x.c.kids.map cnC),.rsl false false 14 (x.thn.map efC),.rsl false false 14 (x.els.map efC)] 7)] ([]:List ABlk)) k) λt72_58=>VV.gr t71_57 true (λk=>VV.rd (Qa [t72_58] ([]:List ABlk)) k) λt73_59=>VV.gr t71_57 true (λk=>VV.rd (Ya 1 [t73_59] ([]:List ABlk)) k) λt74_60=>VV.gr t71_57 true (λk=>VV.rd (Xc false 1 [t74_60] ([]:List ABlk)) k) λt75_61=>VV.gr t71_57 true (λk=>VV.rd (Yh .eql false [t75_61,(.int .i8 0)] ([]:List ABlk)) k) λt76_62=>VV.gr (AVal.bool (decide (x.op=8))) false (λk=>VV.rd (Yi [t71_57,t76_62,(.bool false)] ([]:List ABlk)) k) λt77_63=>VV.gr (AVal.bool (decide (x.op=8))) false (λk=>VV.rd (Xh [t77_63] ([]:List ABlk)) k) λt78_64=>VV.gr t78_64 true (λk=>VV.rd (Xh [(AVal.rptr [iv8 x.op,iv8 x.who,iv8 x.n.op,iv x.n.n,iv8 x.n.who,.rsl false false 4 (x.n.kids.map nmC),.str x.name,iv8 x.c.op,iv8 x.c.who,.str x.c.name,.rsl false false 4 (x.c.nums.map nmC),.rsl false false 5 (x.c.kids.map cnC),.rsl false false 14 (x.thn.map efC),.rsl false false 14 (x.els.map efC)] 7)] ([]:List ABlk)) k) λt79_65=>VV.gr t78_64 true (λk=>VV.rd (Qa [t79_65] ([]:List ABlk)) k) λt80_66=>VV.gr t78_64 true (λk=>VV.rd (Ya 2 [t80_66] ([]:List ABlk)) k) λt81_67=>VV.gr t78_64 true (λk=>VV.rd (Xc false 1 [t81_67] ([]:List ABlk)) k) λt82_68=>VV.gr t78_64 true (λk=>VV.rd (Yh .eql false [t82_68,(.str [])] ([]:List ABlk)) k) λt83_69=>VV.gr (AVal.bool (decide (x.op=8))) false (λk=>VV.rd (Yi [t78_64,t83_69,(.bool false)] ([]:List ABlk)) k) λt84_70=>VV.gr (AVal.bool (decide (x.op=8))) false (λk=>VV.rd (Xh [t84_70] ([]:List ABlk)) k) λt85_71=>VV.gr t85_71 true (λk=>VV.rd (Xh [(AVal.rptr [iv8 x.op,iv8 x.who,iv8 x.n.op,iv x.n.n,iv8 x.n.who,.rsl false false 4 (x.n.kids.map nmC),.str x.name,iv8 x.c.op,iv8 x.c.who,.str x.c.name,.rsl false false 4 (x.c.nums.map nmC),.rsl false false 5 (x.c.kids.map cnC),.rsl false false 14 (x.thn.map efC),.rsl false false 14 (x.els.map efC)] 7)] ([]:List ABlk)) k) λt86_72=>VV.gr t85_71 true (λk=>VV.rd (Qa [t86_72] ([]:List ABlk)) k) λt87_73=>VV.gr t85_71 true (λk=>VV.rd (Ya 3 [t87_73] ([]:List ABlk)) k) λt88_74=>VV.gr t85_71 true (λk=>VV.rd (Xc false 1 [t88_74] ([]:List ABlk)) k) λt89_75=>VV.gr t85_71 true (λk=>VV.rd (Xe [t89_75] ([]:List ABlk)) k) λt90_76=>VV.gr t85_71 true (λk=>VV.rd (Xh [(AVal.rptr [iv8 x.op,iv8 x.who,iv8 x.n.op,iv x.n.n,iv8 x.n.who,.rsl false false 4 (x.n.kids.map nmC),.str x.name,iv8 x.c.op,iv8 x.c.who,.str x.c.name,.rsl false false 4 (x.c.nums.map nmC),.rsl false false 5 (x.c.kids.map cnC),.rsl false false 14 (x.thn.map efC),.rsl false false 14 (x.els.map efC)] 7)] ([]:List ABlk)) k) λt91_77=>VV.gr t85_71 true (λk=>VV.rd (Qa [t91_77] ([]:List ABlk)) k) λt92_78=>VV.gr t85_71 true (λk=>VV.rd (Ya 4 [t92_78] ([]:List ABlk)) k) λt93_79=>VV.gr t85_71 true (λk=>VV.rd (Xc false 1 [t93_79] ([]:List ABlk)) k) λt94_80=>VV.gr t85_71 true (λk=>VV.rd (Xe [t94_80] ([]:List ABlk)) k) λt95_81=>VV.gr t85_71 true (λk=>VV.rd (Yh .add false [t90_76,t95_81] ([]:List ABlk)) k) λt96_82=>VV.gr t85_71 true (λk=>VV.rd (Xh [(AVal.rptr [iv8 x.op,iv8 x.who,iv8 x.n.op,iv x.n.n,iv8 x.n.who,.rsl false false 4 (x.n.kids.map nmC),.str x.name,iv8 x.c.op,iv8 x.c.who,.str x.c.name,.rsl false false 4 (x.c.nums.map nmC),.rsl false false 5 (x.c.kids.map cnC),.rsl false false 14 (x.thn.map efC),.rsl false false 14 (x.els.map efC)] 0)] ([]:List ABlk)) k) λt97_83=>VV.gr t85_71 true (λk=>VV.rd (Qa [t97_83] ([]:List ABlk)) k) λt98_84=>VV.gr t85_71 true (λk=>VV.rd (Ya 12 [t98_84] ([]:List ABlk)) k) λt99_85=>VV.gr t85_71 true (λk=>VV.rd (Xc false 1 [t99_85] ([]:List ABlk)) k) λt100_86=>VV.gr t85_71 true (λk=>VV.rd (Xe [t100_86] ([]:List ABlk)) k) λt101_87=>VV.gr t85_71 true (λk=>VV.rd (Yh .add false [t96_82,t101_87] ([]:List ABlk)) k) λt102_88=>VV.gr t85_71 true (λk=>VV.rd (Xh [(AVal.rptr [iv8 x.op,iv8 x.who,iv8 x.n.op,iv x.n.n,iv8 x.n.who,.rsl false false 4 (x.n.kids.map nmC),.str x.name,iv8 x.c.op,iv8 x.c.who,.str x.c.name,.rsl false false 4 (x.c.nums.map nmC),.rsl false false 5 (x.c.kids.map cnC),.rsl false false 14 (x.thn.map efC),.rsl false false 14 (x.els.map efC)] 0)] ([]:List ABlk)) k) λt103_89=>VV.gr t85_71 true (λk=>VV.rd (Qa [t103_89] ([]:List ABlk)) k) λt104_90=>VV.gr t85_71 true (λk=>VV.rd (Ya 13 [t104_90] ([]:List ABlk)) k) λt105_91=>VV.gr t85_71 true (λk=>VV.rd (Xc false 1 [t105_91] ([]:List ABlk)) k) λt106_92=>VV.gr t85_71 true (λk=>VV.rd (Xe [t106_92] ([]:List ABlk)) k) λt107_93=>VV.gr t85_71 true (λk=>VV.rd (Yh .add false [t102_88,t107_93] ([]:List ABlk)) k) λt108_94=>VV.gr t85_71 true (λk=>VV.rd (Yh .eql false [t108_94,(.int .i64 0)] ([]:List ABlk)) k) λt109_95=>VV.gr (AVal.bool (decide (x.op=8))) false (λk=>VV.rd (Yi [t85_71,t109_95,(.bool false)] ([]:List ABlk)) k) λt110_96=>VV.rd (Yi [(AVal.bool (decide (x.op=8))),(.bool true),t110_96] ([]:List ABlk)) K:=by
  intro K hK;rcases YBE (decide (x.op=8)) with h0|h0
  ·rw[h0] at hK ⊢;repeat first|refine Xa ?_|refine Xb ?_|refine Zb rfl ?_|refine Yc rfl ?_|refine Qc rfl ?_|refine Zd rfl ?_|refine Za (Zf ..) ?_|refine Za (Zg ..) ?_|refine Za (ldr (row:=[iv8 x.op,iv8 x.who,iv8 x.n.op,iv x.n.n,iv8 x.n.who,.rsl false false 4 (x.n.kids.map nmC),.str x.name,iv8 x.c.op,iv8 x.c.who,.str x.c.name,.rsl false false 4 (x.c.nums.map nmC),.rsl false false 5 (x.c.kids.map cnC),.rsl false false 14 (x.thn.map efC),.rsl false false 14 (x.els.map efC)]) rfl) ?_|refine Za rfl ?_
   exact hK
  rw[h0,Bool.false_or] at hK;rw[h0];repeat first|refine Xa ?_|refine Xb ?_|refine Za (Zf ..) ?_|refine Za (Zg ..) ?_|refine Za (ldr (row:=[iv8 x.op,iv8 x.who,iv8 x.n.op,iv x.n.n,iv8 x.n.who,.rsl false false 4 (x.n.kids.map nmC),.str x.name,iv8 x.c.op,iv8 x.c.who,.str x.c.name,.rsl false false 4 (x.c.nums.map nmC),.rsl false false 5 (x.c.kids.map cnC),.rsl false false 14 (x.thn.map efC),.rsl false false 14 (x.els.map efC)]) rfl) ?_|refine Za rfl ?_
  rcases YBE (decide (x.c.op=0)) with h1|h1
  rotate_left
  ·rw[h1];repeat first|refine Xa ?_|refine Xb ?_|refine Zb rfl ?_|refine Yc rfl ?_|refine Qc rfl ?_|refine Zd rfl ?_|refine Za (Zf ..) ?_|refine Za (Zg ..) ?_|refine Za (ldr (row:=[iv8 x.op,iv8 x.who,iv8 x.n.op,iv x.n.n,iv8 x.n.who,.rsl false false 4 (x.n.kids.map nmC),.str x.name,iv8 x.c.op,iv8 x.c.who,.str x.c.name,.rsl false false 4 (x.c.nums.map nmC),.rsl false false 5 (x.c.kids.map cnC),.rsl false false 14 (x.thn.map efC),.rsl false false 14 (x.els.map efC)]) rfl) ?_|refine Za rfl ?_
   rw[h1] at hK;exact hK
  rw[h1];repeat first|refine Xa ?_|refine Xb ?_|refine Za (Zf ..) ?_|refine Za (Zg ..) ?_|refine Za (ldr (row:=[iv8 x.op,iv8 x.who,iv8 x.n.op,iv x.n.n,iv8 x.n.who,.rsl false false 4 (x.n.kids.map nmC),.str x.name,iv8 x.c.op,iv8 x.c.who,.str x.c.name,.rsl false false 4 (x.c.nums.map nmC),.rsl false false 5 (x.c.kids.map cnC),.rsl false false 14 (x.thn.map efC),.rsl false false 14 (x.els.map efC)]) rfl) ?_|refine Za rfl ?_
  rcases YBE (decide (x.c.who=0)) with h2|h2
  rotate_left
  ·rw[h2];repeat first|refine Xa ?_|refine Xb ?_|refine Zb rfl ?_|refine Yc rfl ?_|refine Qc rfl ?_|refine Zd rfl ?_|refine Za (Zf ..) ?_|refine Za (Zg ..) ?_|refine Za (ldr (row:=[iv8 x.op,iv8 x.who,iv8 x.n.op,iv x.n.n,iv8 x.n.who,.rsl false false 4 (x.n.kids.map nmC),.str x.name,iv8 x.c.op,iv8 x.c.who,.str x.c.name,.rsl false false 4 (x.c.nums.map nmC),.rsl false false 5 (x.c.kids.map cnC),.rsl false false 14 (x.thn.map efC),.rsl false false 14 (x.els.map efC)]) rfl) ?_|refine Za rfl ?_
   rw[h1,h2] at hK;exact hK
  rw[h2];repeat first|refine Xa ?_|refine Xb ?_|refine Za (Zf ..) ?_|refine Za (Zg ..) ?_|refine Za (ldr (row:=[iv8 x.op,iv8 x.who,iv8 x.n.op,iv x.n.n,iv8 x.n.who,.rsl false false 4 (x.n.kids.map nmC),.str x.name,iv8 x.c.op,iv8 x.c.who,.str x.c.name,.rsl false false 4 (x.c.nums.map nmC),.rsl false false 5 (x.c.kids.map cnC),.rsl false false 14 (x.thn.map efC),.rsl false false 14 (x.els.map efC)]) rfl) ?_|refine Za rfl ?_
  rcases YBE (x.c.name==[]) with h3|h3
  rotate_left
  ·rw[h3];repeat first|refine Xa ?_|refine Xb ?_|refine Zb rfl ?_|refine Yc rfl ?_|refine Qc rfl ?_|refine Zd rfl ?_|refine Za (Zf ..) ?_|refine Za (Zg ..) ?_|refine Za (ldr (row:=[iv8 x.op,iv8 x.who,iv8 x.n.op,iv x.n.n,iv8 x.n.who,.rsl false false 4 (x.n.kids.map nmC),.str x.name,iv8 x.c.op,iv8 x.c.who,.str x.c.name,.rsl false false 4 (x.c.nums.map nmC),.rsl false false 5 (x.c.kids.map cnC),.rsl false false 14 (x.thn.map efC),.rsl false false 14 (x.els.map efC)]) rfl) ?_|refine Za rfl ?_
   rw[h1,h2,h3] at hK;exact hK
  rw[h3];repeat first|refine Xa ?_|refine Xb ?_|refine Za (Zf ..) ?_|refine Za (Zg ..) ?_|refine Za (ldr (row:=[iv8 x.op,iv8 x.who,iv8 x.n.op,iv x.n.n,iv8 x.n.who,.rsl false false 4 (x.n.kids.map nmC),.str x.name,iv8 x.c.op,iv8 x.c.who,.str x.c.name,.rsl false false 4 (x.c.nums.map nmC),.rsl false false 5 (x.c.kids.map cnC),.rsl false false 14 (x.thn.map efC),.rsl false false 14 (x.els.map efC)]) rfl) ?_|refine Za rfl ?_
  rw[h1,h2,h3,Bool.true_and,Bool.true_and,Bool.true_and] at hK;rw[List.length_map,List.length_map,List.length_map,List.length_map,wrapI (n:=(x.c.nums.length:Int)+x.c.kids.length) (by omega) (by omega),wrapI (n:=(x.c.nums.length:Int)+x.c.kids.length+x.thn.length) (by omega) (by omega),wrapI (n:=(x.c.nums.length:Int)+x.c.kids.length+x.thn.length+x.els.length) (by omega) (by omega)];rw[show decide ((x.c.nums.length:Int)+x.c.kids.length+x.thn.length+x.els.length=0)=decide (x.c.nums.length+x.c.kids.length+x.thn.length+x.els.length=0) by rw[Bool.eq_iff_iff,decide_eq_true_eq,decide_eq_true_eq]; omega];exact hK
 refine r3 _ ?_;clear r3;unfold zeroB;generalize (cntOp x.op||noNum x.n)=b1;generalize (decide (x.op=7)||x.name==[])=b2;generalize (decide (x.op=8)||(decide (x.c.op=0)&&(decide (x.c.who=0)&&(x.c.name==[]&&decide (x.c.nums.length+x.c.kids.length+x.thn.length+x.els.length=0)))))=b3;cases b1<;>cases b2
 all_goals (repeat (first|refine Xa ?_|refine Xb ?_|refine Zb rfl ?_|refine Yc rfl ?_|refine Qc rfl ?_|refine Zd rfl ?_|refine Za (Zf ..) ?_|refine Za (Zg ..) ?_|refine Za (ldr (row:=[iv8 x.op,iv8 x.who,iv8 x.n.op,iv x.n.n,iv8 x.n.who,.rsl false false 4 (x.n.kids.map nmC),.str x.name,iv8 x.c.op,iv8 x.c.who,.str x.c.name,.rsl false false 4 (x.c.nums.map nmC),.rsl false false 5 (x.c.kids.map cnC),.rsl false false 14 (x.thn.map efC),.rsl false false 14 (x.els.map efC)]) rfl) ?_|refine Za rfl ?_))
 all_goals rfl
end Go.Ah.Tz
end
section
namespace Go.Ah.Tz
open Go.Proofs.Tryz (prog)
def efArm(cs:List Cd)(t:Bool)(d:Int)(x:Ef):Bool:=
 if x.op=0∨x.op=1 then sdOp x.who||(decide (x.who=2)&&t)
 else if x.op=2∨x.op=4∨x.op=6 then sdOp x.who
 else if x.op=3∨x.op=5 then decide (x.who=0)
 else if x.op=7 then decide (x.who=0)&&findC cs x.name true
 else if x.op=8 then decide (x.who=0)&&(cnOk cs t x.c&&(lstOk cs t (d+1) x.thn&&lstOk cs t (d+1) x.els))
 else false
theorem XbQ(x:Ef):(decide (x.c.op=0)&&(decide (x.c.who=0)&&(x.c.name==[]&&decide (x.c.nums.length+x.c.kids.length+x.thn.length+x.els.length=0))))=(noCond x.c&&(decide (x.thn.length=0)&&decide (x.els.length=0))):=by
 have e:decide (x.c.nums.length+x.c.kids.length+x.thn.length+x.els.length=0)=(decide (x.c.nums.length=0)&&(decide (x.c.kids.length=0)&&(decide (x.thn.length=0)&&decide (x.els.length=0)))):=by
  rw[Bool.eq_iff_iff];simp only[Bool.and_eq_true,decide_eq_true_eq]; omega
 rw[e,noCond];simp only[Bool.and_assoc]
theorem QcF(cs:List Cd)(t:Bool)(d:Int)(x:Ef):efOk cs t d x=((zeroB x&&(!cntOp x.op||nmOk t x.n))&&efArm cs t d x):=by
 rw[ZbM,zeroB,XbQ];by_cases hr:0≤x.op∧x.op≤8;rotate_left
 ·have:efArm cs t d x=false:=by
   rw[efArm,if_neg (by omega),if_neg (by omega),if_neg (by omega),if_neg (by omega),if_neg (by omega)]
  rw[this,Bool.and_false,Bool.eq_false_iff];intro h; simp only[Bool.and_eq_true,decide_eq_true_eq] at h; exact hr ⟨h.1,h.2.1⟩
 obtain⟨r1,r2⟩:=hr;rw[decide_eq_true r1,decide_eq_true r2,Bool.true_and,Bool.true_and];generalize noCond x.c=b1;generalize decide (x.thn.length=0)=b2;generalize decide (x.els.length=0)=b3;generalize noNum x.n=b4;generalize nmOk t x.n=b5;generalize (x.name==[])=b6;unfold efArm efEnd efMid;generalize lstOk cs t (d+1) x.thn=b7;generalize lstOk cs t (d+1) x.els=b8;generalize cnOk cs t x.c=b9;generalize findC cs x.name true=b10;generalize sdOp x.who=b11;generalize decide (x.who=0)=b12;generalize decide (x.who=2)=b13;have h:x.op=0∨x.op=1∨x.op=2∨x.op=3∨x.op=4∨x.op=5∨x.op=6∨x.op=7∨x.op=8:=by omega
 generalize x.op=op at h;clear r1 r2;rcases h with h|h|h|h|h|h|h|h|h<;>subst h<;>simp[cntOp]<;>cases b1<;>cases b2<;>cases b3<;>cases b4<;>cases b5<;>cases b6<;>simp<;>cases b12<;>simp
attribute [local irreducible] Ans.rd Ans.pu Ans.wr Ans.dr Ans.gr Ans.gw Ans.gl Ans.gd Ans.opt joinK W
set_option maxHeartbeats 4000000
theorem XcF(x:Ef):NmAt (efC x) (0+2) x.n:=nmAt2 x
theorem YcF(x:Ef):CnAt (efC x) (0+7) x.c:=cnAt7 x
theorem c157'(m:List (Tx×Bool))(cs:List Cd)(hU:Units m cs)(t:Bool):∀(k:Nat) (l:List Ef) (d:Int),SizeOf.sizeOf l≤k→lsFit l=true→0≤d→PC 157 [.rptr (chkM m t) 0,efV l,iv d] (.bool (lstOk cs t d l))
 |0,l,_,h,_,_=>by cases l<;>simp at h
 |k+1,l,d,hk,hf,hd=>by
  refine Xd hP g157_ok rfl rfl ?_;unfold g157;have hlen:=Zz hf;rw[bigE] at hlen;refine Za rfl (Za rfl ?_);refine ZB rfl rfl ?_;refine Zc (λh=>?_) (λh=>?_)
  ·have h:¬(l.length≤16∧d≤8):=by simp at h; omega
   rw[lstOk];rcases Decidable.not_and_iff_or_not.1 h with h|h<;>simp[h]
  have h:l.length≤16∧d≤8:=by simp at h; omega
  have hl:lstOk cs t d l=efsOk cs t d l:=by simp[lstOk,h]
  rw[hl];clear hl;refine Za rfl ?_;refine Qi (ι:=Nat) (λi vs σ=>vs=[iv i]∧σ=[]∧i≤l.length∧efsOk cs t d l=efsOk cs t d (l.drop i)) (λi=>l.length-i) 0 ⟨rfl,rfl,by omega,by simp⟩ ?_;rintro i vs σ again ⟨rfl,rfl,hi,hu⟩ hag;refine Za rfl ?_;refine Zc (λh=>?_) (λh=>?_);rotate_left
  ·have h:i=l.length:=by simp at h; omega
   subst h;rw[List.drop_length,efsOk] at hu;rw[hu]
  have hil:i<l.length:=by simpa using h
  have hdr:l.drop i=l[i]::l.drop (i+1):=by rw[YLD hil]
  rw[hdr,efsOk] at hu;have hm:l[i]∈l:=List.getElem_mem hil;have hsz:=List.sizeOf_lt_of_mem hm;have hfx:=YH hf hm;have ix:=λ(s:List ABlk)=>Zn s efC false false 14 l .i64 i hil;generalize l[i]=x at hu hsz hfx ix;have hs2:=ZY x;rename_i hd8;obtain⟨h16,h8⟩:=hd8;have go:∀c,c=efOk cs t d x→VV.rd (Qn .not [.bool c] []) λt152=>VV.test t152 (AVal.bool false=AVal.bool (efsOk cs t d l)) (VV.rd (Yh .add false [iv i,(.int .i64 1)] []) λt153=>again [t153] []):=by
   rintro c hc;refine Za rfl ?_;rw[←hc] at hu;refine Zc (λh=>?_) (λh=>?_)
   ·have h:c=false:=by simpa using h
    rw[hu,h]; rfl
   ·have h:c=true:=by simpa using h
    rw[h,Bool.true_and] at hu;refine Za (Qj ..) ?_;rw[Qe (n:=i) (by omega)];exact hag (i+1) _ _ (by omega) ⟨rfl,rfl,by omega,hu⟩
  have stop:efOk cs t d x=false→AVal.bool false=AVal.bool (efsOk cs t d l):=by
   intro he; rw[hu,he]; rfl
  clear hag hu;rw[QcF] at stop go;refine Za (ix _) ?_;refine Yd (c209 x hfx) rfl g209_ok.plain rfl ?_;have r1:∀K:AVal→List ABlk→Prop,K (.bool (zeroB x&&(!cntOp x.op||nmOk t x.n))) []→VV.gr (AVal.bool (zeroB x)) true (λk=>VV.rd (Xh [(AVal.rptr (efC x) 0)] []) k) λt28_11=>VV.gr (AVal.bool (zeroB x)) true (λk=>VV.rd (Qa [t28_11] []) k) λt29_12=>VV.gr (AVal.bool (zeroB x)) true (λk=>VV.rd (Ya 0 [t29_12] []) k) λt30_13=>VV.gr (AVal.bool (zeroB x)) true (λk=>VV.rd (Xc false 1 [t30_13] []) k) λt31_14=>VV.gw (AVal.bool (zeroB x)) true (λk=>VV.call (.call 210) [t31_14] [] k) ([]:List ABlk) λt32_15 σ=>VV.gr (AVal.bool (zeroB x)) true (λk=>VV.rd (Qn .not [t32_15] σ) k) λt33_16=>VV.gr (AVal.bool (zeroB x)) true (λk=>VV.rd (Xh [t33_16] σ) k) λt34_17=>VV.gr t34_17 false (λk=>VV.rd (Xh [(AVal.rptr (chkM m t) 0)] σ) k) λt35_18=>VV.gr t34_17 false (λk=>VV.rd (Xh [(AVal.rptr (efC x) 0)] σ) k) λt36_19=>VV.gr t34_17 false (λk=>VV.rd (Qa [t36_19] σ) k) λt37_20=>VV.gr t34_17 false (λk=>VV.rd (Ya 2 [t37_20] σ) k) λt38_21=>VV.gw t34_17 false (λk=>VV.call (.call 211) [t35_18,t38_21] σ k) σ λt39_22 σ=>VV.gr (AVal.bool (zeroB x)) true (λk=>VV.rd (Yi [t34_17,(.bool true),t39_22] σ) k) λt40_23=>VV.rd (Yi [(AVal.bool (zeroB x)),t40_23,(.bool false)] σ) (λv=>K v σ):=by
   intro K hK;rcases YBE (zeroB x) with h|h
   rotate_left
   ·rw[h] at hK ⊢;repeat first|refine Xa ?_|refine Xb ?_|refine Zb rfl ?_|refine Yc rfl ?_|refine Qc rfl ?_|refine Zd rfl ?_|refine Za (ldr (efLd0 x)) ?_|refine Za (ldr (efLd1 x)) ?_|refine Za (ldr (efLd6 x)) ?_|refine Za (ldr (Qp x)) ?_|refine Za (ldr (Zq x)) ?_|refine Za (Zf ..) ?_|refine Za (Zg ..) ?_|refine Za (ldr (row:=chkM m t) rfl) ?_|refine Za (Zm ..) ?_|refine Za rfl ?_
    exact hK
   rw[h,Bool.true_and] at hK;rw[h];repeat first|refine Xa ?_|refine Xb ?_|refine Za (ldr (efLd0 x)) ?_|refine Za (ldr (efLd1 x)) ?_|refine Za (ldr (efLd6 x)) ?_|refine Za (ldr (Qp x)) ?_|refine Za (ldr (Zq x)) ?_|refine Za (Zf ..) ?_|refine Za (Zg ..) ?_|refine Za (ldr (row:=chkM m t) rfl) ?_|refine Za (Zm ..) ?_|refine Za rfl ?_
   refine Yd (c210 _) rfl g210_ok.plain rfl ?_;repeat first|refine Xa ?_|refine Xb ?_|refine Za (ldr (efLd0 x)) ?_|refine Za (ldr (efLd1 x)) ?_|refine Za (ldr (efLd6 x)) ?_|refine Za (ldr (Qp x)) ?_|refine Za (ldr (Zq x)) ?_|refine Za (Zf ..) ?_|refine Za (Zg ..) ?_|refine Za (ldr (row:=chkM m t) rfl) ?_|refine Za (Zm ..) ?_|refine Za rfl ?_
   rcases YBE (!cntOp x.op) with h2|h2
   ·rw[h2] at hK ⊢;repeat first|refine Xa ?_|refine Xb ?_|refine Zb rfl ?_|refine Yc rfl ?_|refine Qc rfl ?_|refine Zd rfl ?_|refine Za (ldr (efLd0 x)) ?_|refine Za (ldr (efLd1 x)) ?_|refine Za (ldr (efLd6 x)) ?_|refine Za (ldr (Qp x)) ?_|refine Za (ldr (Zq x)) ?_|refine Za (Zf ..) ?_|refine Za (Zg ..) ?_|refine Za (ldr (row:=chkM m t) rfl) ?_|refine Za (Zm ..) ?_|refine Za rfl ?_
    exact hK
   rw[h2,Bool.false_or] at hK;rw[h2];repeat first|refine Xa ?_|refine Xb ?_|refine Za (ldr (efLd0 x)) ?_|refine Za (ldr (efLd1 x)) ?_|refine Za (ldr (efLd6 x)) ?_|refine Za (ldr (Qp x)) ?_|refine Za (ldr (Zq x)) ?_|refine Za (Zf ..) ?_|refine Za (Zg ..) ?_|refine Za (ldr (row:=chkM m t) rfl) ?_|refine Za (Zm ..) ?_|refine Za rfl ?_
   refine Yd (c211 _ t x.n _ _ (XcF x) (QX hfx)) rfl g211_ok.plain rfl ?_;repeat first|refine Xa ?_|refine Xb ?_|refine Za (ldr (efLd0 x)) ?_|refine Za (ldr (efLd1 x)) ?_|refine Za (ldr (efLd6 x)) ?_|refine Za (ldr (Qp x)) ?_|refine Za (ldr (Zq x)) ?_|refine Za (Zf ..) ?_|refine Za (Zg ..) ?_|refine Za (ldr (row:=chkM m t) rfl) ?_|refine Za (Zm ..) ?_|refine Za rfl ?_
   exact hK
  refine r1 _ ?_;clear r1;generalize (zeroB x&&(!cntOp x.op||nmOk t x.n))=z at go stop ⊢;repeat first|refine Za (ldr (efLd0 x)) ?_|refine Za (ldr (efLd1 x)) ?_|refine Za (ldr (efLd6 x)) ?_|refine Za (ldr (Qp x)) ?_|refine Za (ldr (Zq x)) ?_|refine Za (Zf ..) ?_|refine Za (Zg ..) ?_|refine Za (ldr (row:=chkM m t) rfl) ?_|refine Za (Zm ..) ?_|refine Za rfl ?_
  refine Yk λk28 hk28=>?_;have kk:∀c,c=(z&&efArm cs t d x)→k28 [.bool c] []:=by
   rintro c hc;rw[hk28];exact go c hc
  clear hk28 go;repeat first|refine Za (ldr (efLd0 x)) ?_|refine Za (ldr (efLd1 x)) ?_|refine Za (ldr (efLd6 x)) ?_|refine Za (ldr (Qp x)) ?_|refine Za (ldr (Zq x)) ?_|refine Za (Zf ..) ?_|refine Za (Zg ..) ?_|refine Za (ldr (row:=chkM m t) rfl) ?_|refine Za (Zm ..) ?_|refine Za rfl ?_
  refine Yk λk1 hk1=>?_;have m1:∀c,c=decide (x.op=0∨x.op=1)→k1 [.bool c] []:=by
   rintro c hc;rw[hk1]; clear hk1 k1;refine Zc (λh=>?_) (λh=>?_)
   ·rw[h] at hc;have a1:x.op=0∨x.op=1:=by simpa using hc.symm
    have e:efArm cs t d x=(sdOp x.who||(decide (x.who=2)&&t)):=by rw[efArm,if_pos a1]
    rw[e] at kk;cases z with
    |false=>
     repeat first|refine Xa ?_|refine Xb ?_|refine Zb rfl ?_|refine Yc rfl ?_|refine Qc rfl ?_|refine Zd rfl ?_|refine Za (ldr (efLd0 x)) ?_|refine Za (ldr (efLd1 x)) ?_|refine Za (ldr (efLd6 x)) ?_|refine Za (ldr (Qp x)) ?_|refine Za (ldr (Zq x)) ?_|refine Za (Zf ..) ?_|refine Za (Zg ..) ?_|refine Za (ldr (row:=chkM m t) rfl) ?_|refine Za (Zm ..) ?_|refine Za rfl ?_
     exact kk _ rfl
    |true=>
     repeat first|refine Xa ?_|refine Xb ?_|refine Za (ldr (efLd0 x)) ?_|refine Za (ldr (efLd1 x)) ?_|refine Za (ldr (efLd6 x)) ?_|refine Za (ldr (Qp x)) ?_|refine Za (ldr (Zq x)) ?_|refine Za (Zf ..) ?_|refine Za (Zg ..) ?_|refine Za (ldr (row:=chkM m t) rfl) ?_|refine Za (Zm ..) ?_|refine Za rfl ?_
     refine Yd (c212 _) rfl g212_ok.plain rfl ?_;repeat first|refine Xa ?_|refine Xb ?_|refine Za (ldr (efLd0 x)) ?_|refine Za (ldr (efLd1 x)) ?_|refine Za (ldr (efLd6 x)) ?_|refine Za (ldr (Qp x)) ?_|refine Za (ldr (Zq x)) ?_|refine Za (Zf ..) ?_|refine Za (Zg ..) ?_|refine Za (ldr (row:=chkM m t) rfl) ?_|refine Za (Zm ..) ?_|refine Za rfl ?_
     rcases YBE (sdOp x.who) with h2|h2
     ·rw[h2] at kk ⊢;repeat first|refine Xa ?_|refine Xb ?_|refine Zb rfl ?_|refine Yc rfl ?_|refine Qc rfl ?_|refine Zd rfl ?_|refine Za (ldr (efLd0 x)) ?_|refine Za (ldr (efLd1 x)) ?_|refine Za (ldr (efLd6 x)) ?_|refine Za (ldr (Qp x)) ?_|refine Za (ldr (Zq x)) ?_|refine Za (Zf ..) ?_|refine Za (Zg ..) ?_|refine Za (ldr (row:=chkM m t) rfl) ?_|refine Za (Zm ..) ?_|refine Za rfl ?_
      exact kk _ rfl
     rw[h2] at kk ⊢;repeat first|refine Xa ?_|refine Xb ?_|refine Za (ldr (efLd0 x)) ?_|refine Za (ldr (efLd1 x)) ?_|refine Za (ldr (efLd6 x)) ?_|refine Za (ldr (Qp x)) ?_|refine Za (ldr (Zq x)) ?_|refine Za (Zf ..) ?_|refine Za (Zg ..) ?_|refine Za (ldr (row:=chkM m t) rfl) ?_|refine Za (Zm ..) ?_|refine Za rfl ?_
     rcases YBE (decide (x.who=2)) with h3|h3
     ·rw[h3] at kk ⊢;repeat first|refine Xa ?_|refine Xb ?_|refine Za (ldr (efLd0 x)) ?_|refine Za (ldr (efLd1 x)) ?_|refine Za (ldr (efLd6 x)) ?_|refine Za (ldr (Qp x)) ?_|refine Za (ldr (Zq x)) ?_|refine Za (Zf ..) ?_|refine Za (Zg ..) ?_|refine Za (ldr (row:=chkM m t) rfl) ?_|refine Za (Zm ..) ?_|refine Za rfl ?_
      exact kk _ (by simp)
     rw[h3] at kk ⊢;repeat first|refine Xa ?_|refine Xb ?_|refine Zb rfl ?_|refine Yc rfl ?_|refine Qc rfl ?_|refine Zd rfl ?_|refine Za (ldr (efLd0 x)) ?_|refine Za (ldr (efLd1 x)) ?_|refine Za (ldr (efLd6 x)) ?_|refine Za (ldr (Qp x)) ?_|refine Za (ldr (Zq x)) ?_|refine Za (Zf ..) ?_|refine Za (Zg ..) ?_|refine Za (ldr (row:=chkM m t) rfl) ?_|refine Za (Zm ..) ?_|refine Za rfl ?_
     exact kk _ (by simp)
   rw[h] at hc;have a1:¬(x.op=0∨x.op=1):=by simpa using hc.symm
   repeat first|refine Za (ldr (efLd0 x)) ?_|refine Za (ldr (efLd1 x)) ?_|refine Za (ldr (efLd6 x)) ?_|refine Za (ldr (Qp x)) ?_|refine Za (ldr (Zq x)) ?_|refine Za (Zf ..) ?_|refine Za (Zg ..) ?_|refine Za (ldr (row:=chkM m t) rfl) ?_|refine Za (Zm ..) ?_|refine Za rfl ?_
   refine Yk λk1 hk1=>?_;have m2:∀c,c=decide (x.op=2∨x.op=4∨x.op=6)→k1 [.bool c] []:=by
    rintro c hc;rw[hk1]; clear hk1 k1;refine Zc (λh=>?_) (λh=>?_)
    ·rw[h] at hc;have a2:x.op=2∨x.op=4∨x.op=6:=by simpa using hc.symm
     have e:efArm cs t d x=sdOp x.who:=by rw[efArm,if_neg a1,if_pos a2]
     rw[e] at kk;cases z with
     |false=>
      repeat first|refine Xa ?_|refine Xb ?_|refine Zb rfl ?_|refine Yc rfl ?_|refine Qc rfl ?_|refine Zd rfl ?_|refine Za (ldr (efLd0 x)) ?_|refine Za (ldr (efLd1 x)) ?_|refine Za (ldr (efLd6 x)) ?_|refine Za (ldr (Qp x)) ?_|refine Za (ldr (Zq x)) ?_|refine Za (Zf ..) ?_|refine Za (Zg ..) ?_|refine Za (ldr (row:=chkM m t) rfl) ?_|refine Za (Zm ..) ?_|refine Za rfl ?_
      exact kk _ rfl
     |true=>
      repeat first|refine Xa ?_|refine Xb ?_|refine Za (ldr (efLd0 x)) ?_|refine Za (ldr (efLd1 x)) ?_|refine Za (ldr (efLd6 x)) ?_|refine Za (ldr (Qp x)) ?_|refine Za (ldr (Zq x)) ?_|refine Za (Zf ..) ?_|refine Za (Zg ..) ?_|refine Za (ldr (row:=chkM m t) rfl) ?_|refine Za (Zm ..) ?_|refine Za rfl ?_
      refine Yd (c212 _) rfl g212_ok.plain rfl ?_;repeat first|refine Xa ?_|refine Xb ?_|refine Za (ldr (efLd0 x)) ?_|refine Za (ldr (efLd1 x)) ?_|refine Za (ldr (efLd6 x)) ?_|refine Za (ldr (Qp x)) ?_|refine Za (ldr (Zq x)) ?_|refine Za (Zf ..) ?_|refine Za (Zg ..) ?_|refine Za (ldr (row:=chkM m t) rfl) ?_|refine Za (Zm ..) ?_|refine Za rfl ?_
      exact kk _ (by simp)
    rw[h] at hc;have a2:¬(x.op=2∨x.op=4∨x.op=6):=by simpa using hc.symm
    repeat first|refine Za (ldr (efLd0 x)) ?_|refine Za (ldr (efLd1 x)) ?_|refine Za (ldr (efLd6 x)) ?_|refine Za (ldr (Qp x)) ?_|refine Za (ldr (Zq x)) ?_|refine Za (Zf ..) ?_|refine Za (Zg ..) ?_|refine Za (ldr (row:=chkM m t) rfl) ?_|refine Za (Zm ..) ?_|refine Za rfl ?_
    refine Yk λk1 hk1=>?_;have m3:∀c,c=decide (x.op=3∨x.op=5)→k1 [.bool c] []:=by
     rintro c hc;rw[hk1]; clear hk1 k1;refine Zc (λh=>?_) (λh=>?_)
     ·rw[h] at hc;have a3:x.op=3∨x.op=5:=by simpa using hc.symm
      have e:efArm cs t d x=decide (x.who=0):=by rw[efArm,if_neg a1,if_neg a2,if_pos a3]
      rw[e] at kk;cases z with
      |false=>
       repeat first|refine Xa ?_|refine Xb ?_|refine Zb rfl ?_|refine Yc rfl ?_|refine Qc rfl ?_|refine Zd rfl ?_|refine Za (ldr (efLd0 x)) ?_|refine Za (ldr (efLd1 x)) ?_|refine Za (ldr (efLd6 x)) ?_|refine Za (ldr (Qp x)) ?_|refine Za (ldr (Zq x)) ?_|refine Za (Zf ..) ?_|refine Za (Zg ..) ?_|refine Za (ldr (row:=chkM m t) rfl) ?_|refine Za (Zm ..) ?_|refine Za rfl ?_
       exact kk _ rfl
      |true=>
       repeat first|refine Xa ?_|refine Xb ?_|refine Za (ldr (efLd0 x)) ?_|refine Za (ldr (efLd1 x)) ?_|refine Za (ldr (efLd6 x)) ?_|refine Za (ldr (Qp x)) ?_|refine Za (ldr (Zq x)) ?_|refine Za (Zf ..) ?_|refine Za (Zg ..) ?_|refine Za (ldr (row:=chkM m t) rfl) ?_|refine Za (Zm ..) ?_|refine Za rfl ?_
       exact kk _ (by simp)
     rw[h] at hc;have a3:¬(x.op=3∨x.op=5):=by simpa using hc.symm
     repeat first|refine Za (ldr (efLd0 x)) ?_|refine Za (ldr (efLd1 x)) ?_|refine Za (ldr (efLd6 x)) ?_|refine Za (ldr (Qp x)) ?_|refine Za (ldr (Zq x)) ?_|refine Za (Zf ..) ?_|refine Za (Zg ..) ?_|refine Za (ldr (row:=chkM m t) rfl) ?_|refine Za (Zm ..) ?_|refine Za rfl ?_
     refine Zc (λa7=>?_) (λa7=>?_)
     ·have a7:x.op=7:=by simpa using a7
      have e:efArm cs t d x=(decide (x.who=0)&&(tlook x.name m).getD false):=by
       rw[efArm,if_neg a1,if_neg a2,if_neg a3,if_pos a7,hU];cases tlook x.name m<;>simp
      rw[e] at kk;cases z with
      |false=>
       repeat first|refine Xa ?_|refine Xb ?_|refine Zb rfl ?_|refine Yc rfl ?_|refine Qc rfl ?_|refine Zd rfl ?_|refine Za (ldr (efLd0 x)) ?_|refine Za (ldr (efLd1 x)) ?_|refine Za (ldr (efLd6 x)) ?_|refine Za (ldr (Qp x)) ?_|refine Za (ldr (Zq x)) ?_|refine Za (Zf ..) ?_|refine Za (Zg ..) ?_|refine Za (ldr (row:=chkM m t) rfl) ?_|refine Za (Zm ..) ?_|refine Za rfl ?_
       exact kk _ rfl
      |true=>
       repeat first|refine Xa ?_|refine Xb ?_|refine Za (ldr (efLd0 x)) ?_|refine Za (ldr (efLd1 x)) ?_|refine Za (ldr (efLd6 x)) ?_|refine Za (ldr (Qp x)) ?_|refine Za (ldr (Zq x)) ?_|refine Za (Zf ..) ?_|refine Za (Zg ..) ?_|refine Za (ldr (row:=chkM m t) rfl) ?_|refine Za (Zm ..) ?_|refine Za rfl ?_
       rcases YBE (decide (x.who=0)) with h3|h3
       ·rw[h3] at kk ⊢;repeat first|refine Xa ?_|refine Xb ?_|refine Za (ldr (efLd0 x)) ?_|refine Za (ldr (efLd1 x)) ?_|refine Za (ldr (efLd6 x)) ?_|refine Za (ldr (Qp x)) ?_|refine Za (ldr (Zq x)) ?_|refine Za (Zf ..) ?_|refine Za (Zg ..) ?_|refine Za (ldr (row:=chkM m t) rfl) ?_|refine Za (Zm ..) ?_|refine Za rfl ?_
        exact kk _ (by simp)
       rw[h3] at kk ⊢;repeat first|refine Xa ?_|refine Xb ?_|refine Zb rfl ?_|refine Yc rfl ?_|refine Qc rfl ?_|refine Zd rfl ?_|refine Za (ldr (efLd0 x)) ?_|refine Za (ldr (efLd1 x)) ?_|refine Za (ldr (efLd6 x)) ?_|refine Za (ldr (Qp x)) ?_|refine Za (ldr (Zq x)) ?_|refine Za (Zf ..) ?_|refine Za (Zg ..) ?_|refine Za (ldr (row:=chkM m t) rfl) ?_|refine Za (Zm ..) ?_|refine Za rfl ?_
       exact kk _ (by simp)
     have a7:x.op≠7:=by simpa using a7
     repeat first|refine Za (ldr (efLd0 x)) ?_|refine Za (ldr (efLd1 x)) ?_|refine Za (ldr (efLd6 x)) ?_|refine Za (ldr (Qp x)) ?_|refine Za (ldr (Zq x)) ?_|refine Za (Zf ..) ?_|refine Za (Zg ..) ?_|refine Za (ldr (row:=chkM m t) rfl) ?_|refine Za (Zm ..) ?_|refine Za rfl ?_
     refine Zc (λa8=>?_) (λa8=>?_);rotate_left
     ·have a8:x.op≠8:=by simpa using a8
      refine stop ?_;rw[efArm,if_neg a1,if_neg a2,if_neg a3,if_neg a7,if_neg a8,Bool.and_false]
     have a8:x.op=8:=by simpa using a8
     have e:efArm cs t d x=(decide (x.who=0)&&(cnOk cs t x.c&&(lstOk cs t (d+1) x.thn&&lstOk cs t (d+1) x.els))):=by
      rw[efArm,if_neg a1,if_neg a2,if_neg a3,if_neg a7,if_pos a8]
     rw[e] at kk;have hw:IntKind.i64.wrap (d+1)=d+1:=wrapI (by omega) (by omega);cases z with
     |false=>
      repeat first|refine Xa ?_|refine Xb ?_|refine Zb rfl ?_|refine Yc rfl ?_|refine Qc rfl ?_|refine Zd rfl ?_|refine Za (ldr (efLd0 x)) ?_|refine Za (ldr (efLd1 x)) ?_|refine Za (ldr (efLd6 x)) ?_|refine Za (ldr (Qp x)) ?_|refine Za (ldr (Zq x)) ?_|refine Za (Zf ..) ?_|refine Za (Zg ..) ?_|refine Za (ldr (row:=chkM m t) rfl) ?_|refine Za (Zm ..) ?_|refine Za rfl ?_
      exact kk _ rfl
     |true=>
      repeat first|refine Xa ?_|refine Xb ?_|refine Za (ldr (efLd0 x)) ?_|refine Za (ldr (efLd1 x)) ?_|refine Za (ldr (efLd6 x)) ?_|refine Za (ldr (Qp x)) ?_|refine Za (ldr (Zq x)) ?_|refine Za (Zf ..) ?_|refine Za (Zg ..) ?_|refine Za (ldr (row:=chkM m t) rfl) ?_|refine Za (Zm ..) ?_|refine Za rfl ?_
      rcases YBE (decide (x.who=0)) with h3|h3
      rotate_left
      ·rw[h3] at kk ⊢;repeat first|refine Xa ?_|refine Xb ?_|refine Zb rfl ?_|refine Yc rfl ?_|refine Qc rfl ?_|refine Zd rfl ?_|refine Za (ldr (efLd0 x)) ?_|refine Za (ldr (efLd1 x)) ?_|refine Za (ldr (efLd6 x)) ?_|refine Za (ldr (Qp x)) ?_|refine Za (ldr (Zq x)) ?_|refine Za (Zf ..) ?_|refine Za (Zg ..) ?_|refine Za (ldr (row:=chkM m t) rfl) ?_|refine Za (Zm ..) ?_|refine Za rfl ?_
       exact kk _ (by simp)
      rw[h3] at kk ⊢;repeat first|refine Xa ?_|refine Xb ?_|refine Za (ldr (efLd0 x)) ?_|refine Za (ldr (efLd1 x)) ?_|refine Za (ldr (efLd6 x)) ?_|refine Za (ldr (Qp x)) ?_|refine Za (ldr (Zq x)) ?_|refine Za (Zf ..) ?_|refine Za (Zg ..) ?_|refine Za (ldr (row:=chkM m t) rfl) ?_|refine Za (Zm ..) ?_|refine Za rfl ?_
      refine Yd (c213 m cs hU t x.c _ _ (YcF x) (ZU hfx)) rfl g213_ok.plain rfl ?_;repeat first|refine Xa ?_|refine Xb ?_|refine Za (ldr (efLd0 x)) ?_|refine Za (ldr (efLd1 x)) ?_|refine Za (ldr (efLd6 x)) ?_|refine Za (ldr (Qp x)) ?_|refine Za (ldr (Zq x)) ?_|refine Za (Zf ..) ?_|refine Za (Zg ..) ?_|refine Za (ldr (row:=chkM m t) rfl) ?_|refine Za (Zm ..) ?_|refine Za rfl ?_
      rcases YBE (cnOk cs t x.c) with h4|h4
      rotate_left
      ·rw[h4] at kk ⊢;repeat first|refine Xa ?_|refine Xb ?_|refine Zb rfl ?_|refine Yc rfl ?_|refine Qc rfl ?_|refine Zd rfl ?_|refine Za (ldr (efLd0 x)) ?_|refine Za (ldr (efLd1 x)) ?_|refine Za (ldr (efLd6 x)) ?_|refine Za (ldr (Qp x)) ?_|refine Za (ldr (Zq x)) ?_|refine Za (Zf ..) ?_|refine Za (Zg ..) ?_|refine Za (ldr (row:=chkM m t) rfl) ?_|refine Za (Zm ..) ?_|refine Za rfl ?_
       exact kk _ (by simp)
      rw[h4] at kk ⊢;repeat first|refine Xa ?_|refine Xb ?_|refine Za (ldr (efLd0 x)) ?_|refine Za (ldr (efLd1 x)) ?_|refine Za (ldr (efLd6 x)) ?_|refine Za (ldr (Qp x)) ?_|refine Za (ldr (Zq x)) ?_|refine Za (Zf ..) ?_|refine Za (Zg ..) ?_|refine Za (ldr (row:=chkM m t) rfl) ?_|refine Za (Zm ..) ?_|refine Za rfl ?_
      rw[hw];refine Yd (c157' m cs hU t k x.thn (d+1) (by omega) (ZH hfx) (by omega)) rfl g157_ok.plain rfl ?_;repeat first|refine Xa ?_|refine Xb ?_|refine Za (ldr (efLd0 x)) ?_|refine Za (ldr (efLd1 x)) ?_|refine Za (ldr (efLd6 x)) ?_|refine Za (ldr (Qp x)) ?_|refine Za (ldr (Zq x)) ?_|refine Za (Zf ..) ?_|refine Za (Zg ..) ?_|refine Za (ldr (row:=chkM m t) rfl) ?_|refine Za (Zm ..) ?_|refine Za rfl ?_
      rcases YBE (lstOk cs t (d+1) x.thn) with h5|h5
      rotate_left
      ·rw[h5] at kk ⊢;repeat first|refine Xa ?_|refine Xb ?_|refine Zb rfl ?_|refine Yc rfl ?_|refine Qc rfl ?_|refine Zd rfl ?_|refine Za (ldr (efLd0 x)) ?_|refine Za (ldr (efLd1 x)) ?_|refine Za (ldr (efLd6 x)) ?_|refine Za (ldr (Qp x)) ?_|refine Za (ldr (Zq x)) ?_|refine Za (Zf ..) ?_|refine Za (Zg ..) ?_|refine Za (ldr (row:=chkM m t) rfl) ?_|refine Za (Zm ..) ?_|refine Za rfl ?_
       exact kk _ (by simp)
      rw[h5] at kk ⊢;repeat first|refine Xa ?_|refine Xb ?_|refine Za (ldr (efLd0 x)) ?_|refine Za (ldr (efLd1 x)) ?_|refine Za (ldr (efLd6 x)) ?_|refine Za (ldr (Qp x)) ?_|refine Za (ldr (Zq x)) ?_|refine Za (Zf ..) ?_|refine Za (Zg ..) ?_|refine Za (ldr (row:=chkM m t) rfl) ?_|refine Za (Zm ..) ?_|refine Za rfl ?_
      rw[hw];refine Yd (c157' m cs hU t k x.els (d+1) (by omega) (QG hfx) (by omega)) rfl g157_ok.plain rfl ?_;repeat first|refine Xa ?_|refine Xb ?_|refine Za (ldr (efLd0 x)) ?_|refine Za (ldr (efLd1 x)) ?_|refine Za (ldr (efLd6 x)) ?_|refine Za (ldr (Qp x)) ?_|refine Za (ldr (Zq x)) ?_|refine Za (Zf ..) ?_|refine Za (Zg ..) ?_|refine Za (ldr (row:=chkM m t) rfl) ?_|refine Za (Zm ..) ?_|refine Za rfl ?_
      exact kk _ (by simp)
    clear hk1;refine Zc (λc1=>m3 _ ?_) (λc1=>?_)
    ·simp at c1; simp[c1]
    refine Za (Zf ..) (m3 _ ?_);simp at c1; simp[c1]
   clear hk1;refine Zc (λc1=>m2 _ ?_) (λc1=>?_)
   ·simp at c1; simp[c1]
   refine Za (Zf ..) (Zc (λc2=>m2 _ ?_) (λc2=>?_))
   ·simp at c2; simp[c2]
   refine Za (Zf ..) (m2 _ ?_);simp at c1 c2; simp[c1,c2]
  clear hk1;refine Zc (λc1=>m1 _ ?_) (λc1=>?_)
  ·simp at c1; simp[c1]
  refine Za (Zf ..) (m1 _ ?_);simp at c1; simp[c1]
theorem c157(m:List (Tx×Bool))(cs:List Cd)(hU:Units m cs)(t:Bool)(l:List Ef)(d:Int)(hf:lsFit l=true)(hd:0≤d):PC 157 [.rptr (chkM m t) 0,efV l,iv d] (.bool (lstOk cs t d l)):=c157' m cs hU t _ l d (Nat.le_refl _) hf hd
end Go.Ah.Tz
end
section
namespace Go.Ah.Tz
open Go.Proofs.Tryz (prog)
attribute [local irreducible] Ans.rd Ans.pu Ans.wr Ans.dr Ans.gr Ans.gw Ans.gl Ans.gd Ans.opt joinK W
set_option maxHeartbeats 2000000
theorem c221(m:List (Tx×Bool))(cs:List Cd)(hU:Units m cs)(c:Cd)(hf:cdFit c=true)
 (h223:PC 223 [.str c.name] (.bool (nameOk c.name)))(h124:PC 124 [.agg (cdC c)] (iv (cdW c))) :
  PC 221 [.rptr (cdC c) 0,.rmap (mpE m)] (.bool (cdOk cs c)):=by
 simp only[cdFit,Bool.and_eq_true,decide_eq_true_eq] at hf;obtain⟨f0,f1,f2,f3⟩:=hf;have bad:cdOk cs c=false→AVal.bool false=AVal.bool (cdOk cs c):=λh=>by rw[h]
 refine Xd hP g221_ok rfl rfl ?_;unfold g221;repeat first|refine Za (ldr (row:=cdC c) rfl) ?_|refine Za rfl ?_
 refine QH 7 ?_;refine Ym (Za rfl (Ze (Za rfl (Za rfl (ZB rfl rfl (Zc (λh=>bad ?_) (λb1=>Za rfl ?_)))))))
 ·have:in999 c.cost=false:=by
   rw[Bool.eq_false_iff]; intro hh; simp[in999] at hh; simp at h; omega
  simp[cdOk,this]
 have b1:0≤c.cost∧c.cost≤999:=by simp at b1; omega
 refine Ym (Za rfl (Ze (Za rfl (Za rfl (ZB rfl rfl (Zc (λh=>bad ?_) (λb2=>Za rfl ?_)))))))
 ·have:in999 c.power=false:=by
   rw[Bool.eq_false_iff]; intro hh; simp[in999] at hh; simp at h; omega
  simp[cdOk,this]
 have b2:0≤c.power∧c.power≤999:=by simp at b2; omega
 refine Ym (Za rfl (Ze (Za rfl (Za rfl (ZB rfl rfl (Zc (λh=>bad ?_) (λb3=>Za rfl ?_)))))))
 ·have:in999 c.health=false:=by
   rw[Bool.eq_false_iff]; intro hh; simp[in999] at hh; simp at h; omega
  simp[cdOk,this]
 have b3:0≤c.health∧c.health≤999:=by simp at b3; omega
 refine Ym (Za rfl (Ze (Za rfl (Za rfl (ZB rfl rfl (Zc (λh=>bad ?_) (λb4=>Za rfl ?_)))))))
 ·have:in999 c.shield=false:=by
   rw[Bool.eq_false_iff]; intro hh; simp[in999] at hh; simp at h; omega
  simp[cdOk,this]
 have b4:0≤c.shield∧c.shield≤999:=by simp at b4; omega
 refine Ym (Za rfl (Ze (Za rfl (Za rfl (ZB rfl rfl (Zc (λh=>bad ?_) (λb5=>Za rfl ?_)))))))
 ·have:in999 c.aurap=false:=by
   rw[Bool.eq_false_iff]; intro hh; simp[in999] at hh; simp at h; omega
  simp[cdOk,this]
 have b5:0≤c.aurap∧c.aurap≤999:=by simp at b5; omega
 refine Ym (Za rfl (Ze (Za rfl (Za rfl (ZB rfl rfl (Zc (λh=>bad ?_) (λb6=>Za rfl ?_)))))))
 ·have:in999 c.aurah=false:=by
   rw[Bool.eq_false_iff]; intro hh; simp[in999] at hh; simp at h; omega
  simp[cdOk,this]
 have b6:0≤c.aurah∧c.aurah≤999:=by simp at b6; omega
 refine Ym (Za rfl (Xi ?_));have hok:cdOk cs c=(nameOk c.name&&(decide (cdW c≤200)&&(cdSum c&&(lstOk cs true 1 c.played&&(lstOk cs false 1 c.dead&&lstOk cs false 1 c.dawn))))):=by
  have e1:in999 c.cost=true:=by simp[in999]; omega
  have e2:in999 c.power=true:=by simp[in999]; omega
  have e3:in999 c.health=true:=by simp[in999]; omega
  have e4:in999 c.shield=true:=by simp[in999]; omega
  have e5:in999 c.aurap=true:=by simp[in999]; omega
  have e6:in999 c.aurah=true:=by simp[in999]; omega
  simp only[cdOk,e1,e2,e3,e4,e5,e6,Bool.true_and];generalize decide (cdW c≤200)=w;cases w<;>simp
 rw[hok] at bad ⊢;clear hok;repeat first|refine Za (ldr (row:=cdC c) rfl) ?_|refine Za rfl ?_
 refine Yd h223 rfl g223_ok.plain rfl ?_;refine Za rfl ?_;refine Yk λk33 hk33=>?_;have kk1:(nameOk c.name&&(decide (cdW c≤200)&&(cdSum c&&(lstOk cs true 1 c.played&&(lstOk cs false 1 c.dead&&lstOk cs false 1 c.dawn)))))=false→k33 [.bool true] []:=by
  intro h;rw[hk33];exact Ze (bad h)
 have kk2:nameOk c.name=true→cdW c≤200→(c.unit=true→1≤c.health)→k33 [.bool false] []:=by
  intro n1 n2 n3;rw[hk33]; clear hk33 kk1 k33;rw[n1,decide_eq_true n2,Bool.true_and,Bool.true_and] at bad ⊢;refine Xi ?_;repeat first|refine Za (ldr (row:=cdC c) rfl) ?_|refine Za rfl ?_
  apply cutF (cdSum c=true)
  ·intro hR;cases hu:c.unit with
   |true=>
    repeat first|refine Xa ?_|refine Xb ?_|refine Zb rfl ?_|refine Yc rfl ?_|refine Qc rfl ?_|refine Zd rfl ?_|refine Za (ldr (row:=cdC c) rfl) ?_|refine Za rfl ?_
    refine Xi (hR ?_);simp[cdSum,hu,n3 hu]
   |false=>
    repeat first|refine Xa ?_|refine Xb ?_|refine Zb rfl ?_|refine Yc rfl ?_|refine Qc rfl ?_|refine Zd rfl ?_|refine Za (ldr (row:=cdC c) rfl) ?_|refine Za rfl ?_
    rw[wrapI (n:=c.power+c.health) (by omega) (by omega),wrapI (n:=c.power+c.health+c.shield) (by omega) (by omega),wrapI (n:=c.power+c.health+c.shield+c.aurap) (by omega) (by omega),wrapI (n:=c.power+c.health+c.shield+c.aurap+c.aurah) (by omega) (by omega)];rcases YBE (decide (c.power+c.health+c.shield+c.aurap+c.aurah>0)) with h|h
    ·rw[h];repeat first|refine Xa ?_|refine Xb ?_|refine Zb rfl ?_|refine Yc rfl ?_|refine Qc rfl ?_|refine Zd rfl ?_|refine Za (ldr (row:=cdC c) rfl) ?_|refine Za rfl ?_
     refine Ze (bad ?_);have h:¬(c.power+c.health+c.shield+c.aurap+c.aurah≤0):=by simp at h; omega
     simp[cdSum,hu,h]
    rw[h];repeat first|refine Xa ?_|refine Xb ?_|refine Za (ldr (row:=cdC c) rfl) ?_|refine Za rfl ?_
    have h:(c.power+c.health+c.shield+c.aurap+c.aurah≤0):=by simp at h; omega
    have l1:=Zz f2;have l2:=Zz f3;rw[bigE] at l1 l2;rw[List.length_map,List.length_map,wrapI (n:=(c.dead.length:Int)+(c.dawn.length:Int)) (by omega) (by omega)];refine Zc (λh2=>bad ?_) (λh2=>hR ?_)
    ·have h2:¬(c.dead.length+c.dawn.length=0):=by simp at h2; omega
     have:cdSum c=false:=by rw[cdSum,hu,decide_eq_false h2]; simp
     simp[this]
    ·have h2:(c.dead.length+c.dawn.length=0):=by simp at h2; omega
     rw[cdSum,hu,decide_eq_true h2,decide_eq_true h]; rfl
  intro b7;rw[b7,Bool.true_and];refine Za rfl (Zh rfl rfl (Za rfl (Za rfl (Za (ldr (row:=cdC c) rfl) ?_))));refine Yy (c157 m cs hU true c.played 1 f1 (by omega)) rfl g157_ok.plain rfl rfl ?_;refine Za rfl (Zc (λp1=>?_) (λp1=>?_))
  ·have p1:lstOk cs true 1 c.played=false:=by simpa using p1
   rw[p1]; rfl
  have p1:lstOk cs true 1 c.played=true:=by simpa using p1
  rw[p1,Bool.true_and];refine Za rfl (Za rfl (Zh rfl rfl (Za rfl (Za rfl (Za (ldr (row:=cdC c) rfl) ?_)))));refine Yy (c157 m cs hU false c.dead 1 f2 (by omega)) rfl g157_ok.plain rfl rfl ?_;rcases YBE (lstOk cs false 1 c.dead) with p2|p2
  rotate_left
  ·rw[p2];repeat first|refine Xa ?_|refine Xb ?_|refine Zb rfl ?_|refine Yc rfl ?_|refine Qc rfl ?_|refine Zd rfl ?_|refine Za (ldr (row:=cdC c) rfl) ?_|refine Za rfl ?_
   rfl
  rw[p2];repeat first|refine Xa ?_|refine Xb ?_|refine Za (ldr (row:=cdC c) rfl) ?_|refine Za rfl ?_
  refine Yy (c157 m cs hU false c.dawn 1 f3 (by omega)) rfl g157_ok.plain rfl rfl ?_;repeat first|refine Xa ?_|refine Xb ?_|refine Za (ldr (row:=cdC c) rfl) ?_|refine Za rfl ?_
  rfl
 clear hk33 bad;refine Zc (λn1=>?_) (λn1=>?_)
 ·rw[n1];refine kk1 ?_;have n1:nameOk c.name=false:=by simpa using n1
  rw[n1]; rfl
 have n1:nameOk c.name=true:=by simpa using n1
 refine Za rfl (Za (ldr (cdLd c)) ?_);refine Yd h124 rfl g124_ok.plain rfl ?_;refine Za rfl (Zc (λn2=>?_) (λn2=>?_))
 ·rw[n2];refine kk1 ?_;have n2:¬cdW c≤200:=by simp at n2; omega
  rw[decide_eq_false n2]; simp
 have n2:cdW c≤200:=by simp at n2; omega
 repeat first|refine Za (ldr (row:=cdC c) rfl) ?_|refine Za rfl ?_
 cases hu:c.unit with
 |false=>
  repeat first|refine Xa ?_|refine Xb ?_|refine Zb rfl ?_|refine Yc rfl ?_|refine Qc rfl ?_|refine Zd rfl ?_|refine Za (ldr (row:=cdC c) rfl) ?_|refine Za rfl ?_
  exact kk2 n1 n2 (λh=>by rw[hu] at h; cases h)
 |true=>
  repeat first|refine Xa ?_|refine Xb ?_|refine Za (ldr (row:=cdC c) rfl) ?_|refine Za rfl ?_
  rcases YBE (decide (c.health<1)) with h|h
  ·rw[h];refine kk1 ?_;have:cdSum c=false:=by simp at h; simp[cdSum,hu]; omega
   rw[this]; simp
  ·rw[h];exact kk2 n1 n2 (λ_=>by simp at h; omega)
end Go.Ah.Tz
end
section
namespace Go.Ah.Tz
open Go.Proofs.Tryz (prog)
def tput(t:Tx)(v:Bool):List (Tx×Bool)→List (Tx×Bool)
 |[]=>[(t,v)]
 |p::l=>if t==p.1 then (t,v)::l else p::tput t v l
theorem Qbh(t:Tx)(v:Bool):∀l,aput (.str t) (.bool v) (mpE l)=some (mpE (tput t v l))
 |[]=>rfl
 |p::l=>by
  simp only[mpE,List.map_cons,aput,keyEq,tput];cases h:t==p.1 with
  |true=>rfl
  |false=>
   have:=Qbh t v l;simp only[mpE] at this;simp only[this]; rfl
theorem XO(t n:Tx)(v:Bool):∀l,tlook t (tput n v l)=if t==n then some v else tlook t l
 |[]=>by simp[tput,tlook]
 |p::l=>by
  simp only[tput];by_cases h:n==p.1
  ·have e:n=p.1:=by simpa using h
   rw[if_pos h,tlook,tlook,←e];by_cases h2:t==n<;>simp[h2]
  ·rw[if_neg h,tlook,tlook,XO t n v l];have e:n≠p.1:=by simpa using h
   by_cases h2:t==p.1
   ·have e2:t=p.1:=by simpa using h2
    have:¬(t==n)=true:=by simp[e2]; exact λh=>e h.symm
    rw[if_pos h2,if_neg this,if_pos h2]
   ·rw[if_neg h2];by_cases h3:t==n<;>simp[h3,h2]
theorem QaP:∀l,roES (mpE l)=true
 |[]=>rfl
 |p::l=>by
  have:=QaP l;simp only[mpE] at this;simp[mpE,roES,AVal.ro,this]
theorem QbE{σ:List ABlk}{b:Nat}{l:List (Tx×Bool)}(h:hget σ b=.map (mpE l))(row:List AVal)(j:Nat):Xs σ 1000 [.rptr row j,.map b]=some ([.rptr row j,.rmap (mpE l)],[b]):=by
 show Xs σ (998+1+1) _=_;simp[Xs,h,QaP,AVal.ro]
theorem Qco{σ:List ABlk}{b:Nat}{l:List (Tx×Bool)}(h:hget σ b=.map (mpE l))(t:Tx):Yo true true (.bool false) [.map b,.str t] σ=.ok (.tup [.bool ((tlook t l).getD false),.bool (tlook t l).isSome]) [b] []:=by
 simp only[Yo,QY,mapOf,h,Y1,cond_true];cases tlook t l<;>rfl
theorem XaM{σ:List ABlk}{b:Nat}{l:List (Tx×Bool)}(h:hget σ b=.map (mpE l))(t:Tx):Yo true false (.bool false) [.map b,.str t] σ=.ok (.bool ((tlook t l).getD false)) [b] []:=by
 simp only[Yo,QY,mapOf,h,Y1,cond_true];cases tlook t l<;>rfl
theorem ZaX{σ:List ABlk}{b:Nat}{l:List (Tx×Bool)}(h:hget σ b=.map (mpE l))(t:Tx)(v:Bool):Xv true [.map b,.str t,.bool v] σ=.ok .junk [] [(b,.map (mpE (tput t v l)))]:=by
 simp only[Xv,QY,h,Qbh,cond_true]
def findO:List Cd→Tx→Option Bool
 |[],_=>none
 |c::l,t=>if c.name==t then some c.unit else findO l t
theorem QbM:∀ (l:List Cd) (t:Tx) (u:Bool),findC l t u=(match findO l t with
 |none=>false
 | some b=>b || !u)
 |[],_,_=>rfl
 |c::l,t,u=>by
  simp only[findC,findO];by_cases h:c.name==t
  ·rw[if_pos h,if_pos h]
  ·rw[if_neg h,if_neg h]; exact QbM l t u
theorem Qag:∀ (l:List Cd) (c:Cd) (t:Tx),findO (l ++ [c]) t=(match findO l t with
 |some b=>some b
 | none=>if c.name == t then some c.unit else none)
 |[],_,_=>rfl
 |d::l,c,t=>by
  simp only[List.cons_append,findO];by_cases h:d.name==t
  ·rw[if_pos h,if_pos h]
  ·rw[if_neg h,if_neg h]; exact Qag l c t
def UnitsO(m:List (Tx×Bool))(l:List Cd):Prop:=∀t,tlook t m=findO l t
theorem UnitsO.units{m:List (Tx×Bool)}{l:List Cd}(h:UnitsO m l):Units m l:=by
 intro t u; rw[QbM,h t]<;>cases findO l t<;>rfl
theorem UnitsO.old{m:List (Tx×Bool)}{l:List Cd}(h:UnitsO m l){c:Cd}(hc:(tlook c.name m).isSome=true):UnitsO m (l++[c]):=by
 intro t;rw[Qag,←h t];cases e:tlook t m with
 |some b=>rfl
 |none=>
  by_cases h2:c.name==t
  ·have:c.name=t:=by simpa using h2
   rw[this,e] at hc; cases hc
  ·rw[if_neg h2]
theorem UnitsO.new{m:List (Tx×Bool)}{l:List Cd}(h:UnitsO m l){c:Cd}(hc:(tlook c.name m).isSome=false):UnitsO (tput c.name c.unit m) (l++[c]):=by
 intro t;rw[Qag,←h t,XO];by_cases h2:t==c.name
 ·have e:t=c.name:=by simpa using h2
  subst e;cases e:tlook c.name m with
  |some b=>rw[e] at hc; cases hc
  |none=>simp
 ·have h3:¬(c.name==t)=true:=by
   intro h; apply h2; simp at h; simp[h]
  rw[if_neg h2,if_neg h3];cases tlook t m<;>rfl
def Seen(m:List (Tx×Bool))(l:List Cd):Prop:=∀t,(tlook t m).getD false=l.any λd=>d.name==t
theorem Seen.put{m:List (Tx×Bool)}{l:List Cd}(h:Seen m l)(c:Cd):Seen (tput c.name true m) (l++[c]):=by
 intro t;rw[XO,List.any_append,←h t];by_cases h2:t==c.name
 ·have e:t=c.name:=by simpa using h2
  simp[e]
 ·have h3:(c.name==t)=false:=by
   rw[Bool.eq_false_iff]; intro h; apply h2; simp at h; simp[h]
  rw[if_neg h2]; simp[h3]
theorem Xp{σ:List ABlk}{b:Nat}(x:ABlk)(h:b<σ.length):hget (σ.set b x) b=x:=YT (by simp[h])
attribute [local irreducible] Ans.rd Ans.pu Ans.wr Ans.dr Ans.gr Ans.gw Ans.gl Ans.gd Ans.opt joinK W
set_option maxHeartbeats 1000000
theorem c180(cs:List Cd)(hf:XI cs=true)(h221:∀m,Units m cs→∀c∈cs,PC 221 [.rptr (cdC c) 0,.rmap (mpE m)] (.bool (cdOk cs c))) :
  PC 180 [cdV cs] (.agg [iv (cdsChk cs).1,iv (cdsChk cs).2]):=by
 simp only[XI,Bool.and_eq_true,decide_eq_true_eq] at hf;obtain⟨f0,f1⟩:=hf;rw[bigE] at f0;refine Xd hP g180_ok rfl rfl ?_;unfold g180;refine Zh rfl rfl (Za rfl (Za rfl ?_));refine Zc (λh=>?_) (λh=>?_)
 ·have h:240<cs.length:=by simp at h; omega
  refine Za rfl (Zh rfl rfl (Zw rfl ?_));rw[cdsChk,if_pos h]
 have h:¬240<cs.length:=by simp at h; omega
 rw[cdsChk,if_neg h];refine Zh rfl rfl (Za rfl ?_);refine Qi (ι:=Nat) (λi vs σ=>∃m,vs=[iv i]∧hget σ 0=.box [iv 0,iv 0]∧hget σ 1=.map (mpE m)∧1<σ.length∧i≤cs.length∧UnitsO m (cs.take i)) (λi=>cs.length-i) 0 ⟨[],rfl,rfl,rfl,by simp,by omega,λt=>by simp[tlook,findO]⟩ ?_;rintro i vs σ again ⟨m,rfl,hz,hm,hln,hi,hu⟩ hag;refine Za rfl ?_;refine Zc (λh=>?_) (λh=>?_)
 ·have hil:i<cs.length:=by simpa using h
  have hix:=λ(s:List ABlk)=>Zn s cdC false false 12 cs .i64 i hil;have htk:cs.take (i+1)=cs.take i++[cs[i]]:=Yw cs i hil;generalize cs[i]=c at hix htk;refine Yk λk10 hk10=>?_;have kk:∀m' σ',UnitsO m' (cs.take i++[c])→hget σ' 0=.box [iv 0,iv 0]→hget σ' 1=.map (mpE m')→1<σ'.length→k10 [] σ':=by
   intro m' σ' q1 q2 q3 q4;rw[hk10];refine Za (Qj ..) ?_;rw[Qe (n:=i) (by omega)];exact hag (i+1) _ _ (by omega) ⟨m',rfl,q2,q3,q4,by omega,by rw[htk]; exact q1⟩
  clear hk10 hag;refine Za (hix _) (Za (ldr (cdLd _)) (Qs (row:=cdC c) (row':=cdC c) rfl rfl rfl ?_));have hB0:=Yj σ (ABlk.box (cdC c));have hz':hget (σ++[ABlk.box (cdC c)]) 0=.box [iv 0,iv 0]:=Xj _ hz (by simp);have hm':hget (σ++[ABlk.box (cdC c)]) 1=.map (mpE m):=Xj _ hm (by simp);have hl':1<(σ++[ABlk.box (cdC c)]).length:=by simp; omega
  generalize σ++[ABlk.box (cdC c)]=base at hB0 hz' hm' hl' ⊢;generalize σ.length=b at hB0 ⊢;refine Za rfl (Za (ld hB0 rfl) (Za (Qco hm' _) (Za rfl (Za rfl (Za rfl ?_)))));refine Zc (λh=>?_) (λh=>?_)
  ·have h:(tlook c.name m).isSome=false:=by simpa using h
   refine Za rfl (Za (ld hB0 rfl) (Za rfl (Za (ld hB0 rfl) (Zh (ZaX hm' _ _) (Ys _ hl') ?_))));exact kk _ _ (hu.new h) (Zp hz' (by simp) (by omega)) (Xp _ hl') (by simpa using hl')
  ·have h:(tlook c.name m).isSome=true:=by simpa using h
   exact kk _ _ (hu.old h) hz' hm' hl'
 have h:i=cs.length:=by simp at h; omega
 subst h;rw[List.take_length] at hu;have hmay:=h221 m hu.units;clear hag hu h221;refine Zh rfl (Zy _ _) (Za rfl ?_);have hz':hget (σ++[ABlk.map []]) 0=.box [iv 0,iv 0]:=Xj _ hz (by simp);have hm':hget (σ++[ABlk.map []]) 1=.map (mpE m):=Xj _ hm (by simp);have hs':hget (σ++[ABlk.map []]) σ.length=.map (mpE []):=Yj _ _;have hl':σ.length<(σ++[ABlk.map []]).length:=by simp
 generalize σ++[ABlk.map []]=base at hz' hm' hs' hl' ⊢;generalize σ.length=b at hs' hl' hln ⊢;refine Qi (ι:=Nat) (λi vs s=>∃m2,vs=[iv i]∧hget s 0=.box [iv 0,iv 0]∧hget s 1=.map (mpE m)∧hget s b=.map (mpE m2)∧b<s.length∧i≤cs.length∧Seen m2 (cs.take i)∧cdsGo cs [] cs=cdsGo cs (cs.take i) (cs.drop i)) (λi=>cs.length-i) 0 ⟨[],rfl,hz',hm',hs',hl',by omega,λt=>by simp[tlook],by simp⟩ ?_;clear hz' hm' hs' hl' base hz hm σ;rintro i vs s again ⟨m2,rfl,hz,hm,hs,hl,hi,hse,hu⟩ hag;refine Za rfl ?_;refine Zc (λh=>?_) (λh=>?_);rotate_left
 ·have h:i=cs.length:=by simp at h; omega
  subst h;rw[List.drop_length,cdsGo] at hu;refine Za rfl (Zh (stv hz rfl rfl rfl) (Ys _ (by show 0<s.length; omega)) (Zw (XG (by show 0<s.length; omega) rfl) ?_));rw[hu]
 have hil:i<cs.length:=by simpa using h
 have hdr:cs.drop i=cs[i]::cs.drop (i+1):=by rw[YLD hil]
 have hix:=λ(s:List ABlk)=>Zn s cdC false false 12 cs .i64 i hil;have htk:cs.take (i+1)=cs.take i++[cs[i]]:=Yw cs i hil;have hmy:=hmay _ (List.getElem_mem hil);generalize cs[i]=c at hix htk hdr hmy;rw[hdr,cdsGo,←hse c.name] at hu;refine Za (hix _) (Za rfl (Za rfl (Za (ldr (cdLd0 _)) (Za (XaM hs _) ?_))));refine Zc (λh=>?_) (λh=>?_)
 ·rw[if_pos h] at hu;refine Za rfl (Za rfl (Za (ldr (Xbi _)) (Za rfl (Zh (stv hz rfl rfl rfl) (Ys _ (by show 0<s.length; omega)) (Zw (XG (by show 0<s.length; omega) rfl) ?_)))));rw[hu]
 rw[if_neg (by rw[h]; simp)] at hu;refine Yy hmy rfl g221_ok.plain (QbE hm _ _) rfl ?_;refine Za rfl ?_;refine Zc (λh=>?_) (λh=>?_)
 ·have h:cdOk cs c=false:=by simpa using h
  rw[h] at hu
  replace hu:cdsGo cs [] cs=(130,c.pl):=hu
  refine Za rfl (Za rfl (Za (ldr (Xbi _)) (Za rfl (Zh (stv hz rfl rfl rfl) (Ys _ (by show 0<s.length; omega)) (Zw (XG (by show 0<s.length; omega) rfl) ?_)))));rw[hu]
 ·have h:cdOk cs c=true:=by simpa using h
  rw[h,if_pos rfl] at hu;refine Za rfl (Za rfl (Za (ldr (cdLd0 _)) (Zh (ZaX hs _ _) (Ys _ hl) (Za (Qj ..) ?_))));rw[Qe (n:=i) (by omega)];refine hag (i+1) _ _ (by omega) ⟨_,rfl,?_,?_,Xp _ hl,by simpa using hl,by omega,by rw[htk]; exact hse.put c,by rw[htk]; exact hu⟩
  ·exact Zp hz (by simp) (by omega)
  ·exact Zp hm (by simp) (by omega)
end Go.Ah.Tz
end
section
namespace Go.Ah.Tz
open Go.Proofs.Tryz (prog)
set_option maxRecDepth 1000000
theorem hTm:∀f np g,tb.get f=some (np,g)→GQ f np g:=GT.get_ok YcK
def ownTx:Tx:=[99,97,114,100,32,117,110,105,116,32,99,104,97,114,109,32,102,111,114,109,97,116,32,112,108,97,121,101,100,32,100,101,97,100,32,100,97,119,110,32,97,117,114,97,32,115,104,105,101,108,100,32,104,97,114,109,32,109,101,110,100,32,100,114,97,119,32,103,97,105,110,32,100,114,111,112,32,108,111,111,107,32,115,104,111,119,32,115,117,109,109,111,110,32,105,102,32,101,108,115,101,32,109,101,32,102,111,101,32,116,97,114,103,101,116,32,108,105,102,101,32,104,97,110,100,32,100,101,99,107,32,117,110,105,116,115,32,109,97,110,97,32,99,111,115,116,32,116,111,112,32,112,111,119,101,114,32,109,105,110,32,109,97,120,32,110,111,116,32,97,110,100,32,111,114,32,104,111,108,100,115,32,108,101,97,115,116,32,109,111,115,116,32,99,111,112,105,101,115,32,98,97,110,110,101,100,32,115,105,110,103,108,101]
theorem p264:PC 264 [.str ownTx] (.rsl true false 1 (keysR.map txC)):=Qbi hP hTm (much:=1000000000) 60 (by kernel_rfl)
def ownM:List (Tx×Bool):=keysR.foldl (λm k=>tput k true m) []
theorem XaK(t:Tx):∀(l:List Tx) (m:List (Tx×Bool)),(tlook t (l.foldl (λm k=>tput k true m) m)).getD false=((tlook t m).getD false||ownIn l t)
 |[],m=>by simp[ownIn]
 |k::l,m=>by
  rw[List.foldl_cons,XaK t l,XO,ownIn];by_cases h:t==k
  ·have e:t=k:=by simpa using h
   subst e; simp
  ·have h2:(k==t)=false:=by
    rw[Bool.eq_false_iff]; intro q; apply h; simp at q; simp[q]
   rw[if_neg h,h2,Bool.false_or]
theorem Xcr(t:Tx):(tlook t ownM).getD false=ownIn keysR t:=by
 rw[ownM,XaK]; rfl
attribute [local irreducible] Ans.rd Ans.pu Ans.wr Ans.dr Ans.gr Ans.gw Ans.gl Ans.gd Ans.opt joinK W
theorem c258:PC 258 [] (.rmap (mpE ownM)):=by
 refine Qa1 hP g258_ok rfl ⟨.map 0,[.map (mpE ownM)],?_,?_⟩
 ·show (match Xs [.map (mpE ownM)] (998 + 1 + 1) [.map 0] with
   |some ([y],_)=>some y
   | _=>none)=_
  have:hget [ABlk.map (mpE ownM)] 0=.map (mpE ownM):=rfl;simp only[Xs,this,QaP,cond_true]
 unfold g258;refine Zh rfl rfl ?_;refine Yd p264 rfl g264_ok.plain rfl ?_;refine Za rfl ?_;have hlen:keysR.length=41:=rfl;unfold ownM;generalize keysR=l at hlen ⊢;refine Qi (ι:=Nat) (λi vs σ=>∃m,vs=[iv i]∧σ=[.map (mpE m)]∧i≤l.length∧l.foldl (λm k=>tput k true m) []=(l.drop i).foldl (λm k=>tput k true m) m) (λi=>l.length-i) 0 ⟨[],rfl,rfl,by omega,by simp⟩ ?_;rintro i vs σ again ⟨m,rfl,rfl,hi,hu⟩ hag;refine Za rfl ?_;refine Zc (λh=>?_) (λh=>?_)
 ·have h:i<l.length:=by simpa using h
  have hdr:l.drop i=l[i]::l.drop (i+1):=by rw[YLD h]
  rw[hdr,List.foldl_cons] at hu;refine Za (Zn _ txC _ _ _ l .i64 i h) (Za (ldr (txLd _)) (Zh (ZaX (b:=0) rfl _ _) rfl (Za (Qj ..) ?_)));rw[Qe (n:=i) (by omega)];exact hag (i+1) _ _ (by omega) ⟨_,rfl,rfl,by omega,hu⟩
 ·have h:i=l.length:=by simp at h; omega
  subst h;rw[List.drop_length,List.foldl_nil] at hu;rw[hu]; exact⟨rfl,rfl⟩
theorem c242(s:Tx):PC 242 [.str s] (.bool (ownIn keysR s)):=by
 refine Xd hP g242_ok rfl rfl ?_;unfold g242;refine Yd c258 rfl g258_ok.plain rfl ?_;refine Za (Zm ..) ?_;rw[Xcr]
end Go.Ah.Tz
end
section
namespace Go.Ah.Tz
open Go.Proofs.Tryz (prog)
attribute [local irreducible] Ans.rd Ans.pu Ans.wr Ans.dr Ans.gr Ans.gw Ans.gl Ans.gd Ans.opt joinK W
theorem c257(x:Int):PC 257 [.int .i32 x] (.bool (isDig x)):=by
 refine Xd hP g257_ok rfl rfl ?_;unfold g257;refine Za rfl (X0 rfl rfl ?_);exact congrArg AVal.bool (by rw[Bool.eq_iff_iff]; simp[isDig])
theorem c256(x:Int):PC 256 [.int .i32 x] (.bool (isLet x)):=by
 refine Xd hP g256_ok rfl rfl ?_;unfold g256;refine Za rfl (X0 rfl rfl ?_);refine Yk λk1 hk1=>?_;have kk:∀c,c=decide ((97≤x∧x≤122)∨(65≤x∧x≤90))→k1 [.bool c] []:=by
  rintro c hc;rw[hk1]; clear hk1 k1;refine Zc (λh=>?_) (λh=>?_)
  ·rw[h] at hc;have hc:(97≤x∧x≤122)∨(65≤x∧x≤90):=by simpa using hc.symm
   exact congrArg AVal.bool (by rw[eq_comm,isLet,decide_eq_true_eq]; omega)
  rw[h] at hc;have hc:¬((97≤x∧x≤122)∨(65≤x∧x≤90)):=of_decide_eq_false hc.symm;refine Za (Zf ..) ?_;refine Yk λk1 hk1=>?_;have k2:∀c,c=decide (x=215∨x=247)→k1 [.bool c] []:=by
   rintro c hc2;rw[hk1]; clear hk1 k1;refine Zc (λh=>?_) (λh=>?_)
   ·rw[h] at hc2;have hc2:x=215∨x=247:=of_decide_eq_true hc2.symm;exact congrArg AVal.bool (by rw[eq_comm,isLet,decide_eq_false_iff_not]; omega)
   rw[h] at hc2;have hc2:¬(x=215∨x=247):=of_decide_eq_false hc2.symm;refine Za rfl (X0 rfl rfl ?_);exact congrArg AVal.bool (by rw[Bool.eq_iff_iff,Bool.and_eq_true,isLet,decide_eq_true_eq,decide_eq_true_eq,decide_eq_true_eq]; omega)
  clear hk1;refine Zc (λh=>k2 _ ?_) (λh=>?_)
  ·rw[h]; rw[eq_comm,decide_eq_true_eq]; exact Or.inl (of_decide_eq_true h)
  ·have h:x≠215:=of_decide_eq_false h;refine Za (Zf ..) (k2 _ ?_);rw[Bool.eq_iff_iff,decide_eq_true_eq,decide_eq_true_eq]; omega
 clear hk1;refine Zc (λh=>kk _ ?_) (λh=>?_)
 ·rw[h]; rw[eq_comm,decide_eq_true_eq]; simp at h; omega
 ·refine Za rfl (X0 rfl rfl (kk _ ?_));rw[Bool.eq_iff_iff,Bool.and_eq_true,decide_eq_true_eq,decide_eq_true_eq,decide_eq_true_eq]; simp at h; omega
end Go.Ah.Tz
end
section
namespace Go.Ah.Tz
theorem all256{p:Nat→Bool}(h:(List.range 256).all p=true){c:Nat}(hc:c<256):p c=true:=List.all_eq_true.1 h c (List.mem_range.2 hc)
theorem and31{c:Nat}(hc:c<256):bits .and .i64 (c:Int) 31=((c%32:Nat):Int):=by
 have:=all256 (p:=λc=>bits .and .i64 (c:Int) 31==((c%32:Nat):Int)) (by kernel_rfl) hc;simpa using this
theorem and15{c:Nat}(hc:c<256):bits .and .i64 (c:Int) 15=((c%16:Nat):Int):=by
 have:=all256 (p:=λc=>bits .and .i64 (c:Int) 15==((c%16:Nat):Int)) (by kernel_rfl) hc;simpa using this
theorem and7{c:Nat}(hc:c<256):bits .and .i64 (c:Int) 7=((c%8:Nat):Int):=by
 have:=all256 (p:=λc=>bits .and .i64 (c:Int) 7==((c%8:Nat):Int)) (by kernel_rfl) hc;simpa using this
theorem and63{c:Nat}(hc:c<256):bits .and .u8 (c:Int) 63=((c%64:Nat):Int):=by
 have:=all256 (p:=λc=>bits .and .u8 (c:Int) 63==((c%64:Nat):Int)) (by kernel_rfl) hc;simpa using this
theorem and192{c:Nat}(hc:c<256):(bits .and .u8 (c:Int) 192 != 128) = !(c/64==2):=by
 have:=all256 (p:=λc=>(bits .and .u8 (c:Int) 192 != 128) == !(c/64==2)) (by kernel_rfl) hc;simpa using this
theorem Qb5(c:UInt8):rCont c = !(c.toNat/64==2):=and192 c.toNat_lt
theorem or64(q y:Nat)(hq:q<1099511627776)(hy:y<64):bits .or .i64 ((q*64:Nat):Int) (y:Int)=((q*64+y:Nat):Int):=by
 have h1:(BitVec.ofInt 64 ((q*64:Nat):Int)).toNat=q*64:=by
  rw[BitVec.toNat_ofInt]; omega
 have h2:(BitVec.ofInt 64 (y:Int)).toNat=y:=by
  rw[BitVec.toNat_ofInt]; omega
 have h3:q*64 ||| y=q*64+y:=by
  have:=Nat.two_pow_add_eq_or_of_lt (i:=6) (b:=y) (by omega) q;rw[show 2 ^ 6*q=q*64 by omega] at this;exact this.symm
 show IntKind.i64.wrap (((BitVec.ofInt 64 ((q*64:Nat):Int)) ||| (BitVec.ofInt 64 (y:Int))).toNat:Int)=_;rw[BitVec.toNat_or,h1,h2,h3];exact wrapI (by omega) (by omega)
theorem Yb6(x:Nat)(hx:x<1099511627776)(c:UInt8):rStep (x:Int) c=((x*64+c.toNat%64:Nat):Int):=by
 have e:shl6 (x:Int)=((x*64:Nat):Int):=by
  show IntKind.i64.wrap ((x:Int)*64)=_;rw[wrapI (by omega) (by omega)]; simp
 rw[rStep,e,and63 c.toNat_lt,wrapI (by omega) (by omega)];exact or64 x _ hx (Nat.mod_lt _ (by omega))
theorem XbK(s:Tx)(a:Nat)(ha:a<s.length) :
  (((runeR s a).2≠0→((Utf8.decode ⟨s.toArray⟩ a).1:Int)=(runeR s a).1∧(Utf8.decode ⟨s.toArray⟩ a).2=(runeR s a).2)∧((runeR s a).2=0→(Utf8.decode ⟨s.toArray⟩ a).1=65533)):=by
 have hat:∀k,((⟨s.toArray⟩:ByteArray).get! (a+k))=(s[a+k]?).getD 0:=by
  intro k;show (s.toArray)[a+k]! = _;simp[List.getElem!_eq_getElem?_getD];rfl
 have hsz:(⟨s.toArray⟩:ByteArray).size=s.length:=by simp[ByteArray.size]
 rw[runeR,List.getElem?_eq_getElem ha];unfold Utf8.decode;simp only[hat,hsz];have h0:(s[a+0]?).getD 0=s[a]:=by simp[List.getElem?_eq_getElem ha]
 rw[h0];have hb:s[a].toNat<256:=s[a].toNat_lt;generalize s[a].toNat=b at hb ⊢;have hcn:∀k,¬a+k<s.length→s[a+k]?=none:=λk h=>by simp; omega
 have ht:∀(i x:Nat),x<1000000→∀m,rTail s a (m+1) i (x:Int)=if a+i<s.length∧((s[a+i]?).getD 0).toNat/64=2 then rTail s a m (i+1) ((x*64+((s[a+i]?).getD 0).toNat%64:Nat):Int) else none:=by
  intro i x hx m;by_cases h:a+i<s.length
  ·rw[rTail,List.getElem?_eq_getElem h];simp only[Qb5,Option.getD_some,h,true_and];by_cases h2:s[a+i].toNat/64=2
   ·simp[h2,Yb6 x (by omega)]
   ·simp[h2]
  ·rw[rTail,hcn i h]; simp[h]
 have hcd:∀k,(decide (a+k<s.length)&&(((s[a+k]?).getD 0).toNat/64==2))=decide (a+k<s.length∧((s[a+k]?).getD 0).toNat/64=2):=by
  intro k; rw[Bool.eq_iff_iff]; simp
 simp only[hcd];have t1:=λx hx m=>ht 1 x hx m;have t2:=λx hx m=>ht 2 x hx m;have t3:=λx hx m=>ht 3 x hx m;clear ht hcd hcn hat hsz h0;generalize ((s[a+1]?).getD 0).toNat=d1 at *;generalize ((s[a+2]?).getD 0).toNat=d2 at *;generalize ((s[a+3]?).getD 0).toNat=d3 at *;by_cases c1:b<128
 ·have hh:rHead (b:Int)=some (1,(b:Int),0):=by
   rw[rHead,if_neg (by omega),if_neg (by omega),if_neg (by omega),if_neg (by omega)]
  simp only[hh,if_pos c1,Nat.sub_self,rTail,rEnd];rw[if_neg (by omega)]; simp
 rw[if_neg c1];by_cases c2:b<192
 ·have hh:rHead (b:Int)=none:=by
   rw[rHead,if_neg (by omega),if_neg (by omega),if_neg (by omega),if_pos (by omega)]
  simp only[hh];have e1:¬b/32=6:=by omega
  have e2:¬b/16=14:=by omega
  have e3:¬b/8=30:=by omega
  simp[e1,e2,e3,Utf8.runeError]
 by_cases c3:b<224
 ·have hh:rHead (b:Int)=some (2,((b%32:Nat):Int),128):=by
   rw[rHead,if_pos (by omega),and31 hb]
  have e1:b/32=6:=by omega
  have e2:¬b/16=14:=by omega
  have e3:¬b/8=30:=by omega
  simp only[hh];rw[t1 _ (by omega) 0];by_cases p1:a+1<s.length∧d1/64=2
  ·simp only[if_pos p1,rTail,rEnd,e1,decide_eq_true p1,beq_self_eq_true,Bool.and_self,if_true];by_cases y:b%32*64+d1%64 ≥ 128
   ·rw[if_pos y,if_neg (by omega)]; simp
   ·rw[if_neg y,if_pos (by omega)]; simp[Utf8.runeError]
  ·simp only[if_neg p1,rEnd,decide_eq_false p1,Bool.and_false,Bool.false_and,Bool.false_eq_true,if_false];simp[Utf8.runeError]
 by_cases c4:b<240
 ·have hh:rHead (b:Int)=some (3,((b%16:Nat):Int),2048):=by
   rw[rHead,if_neg (by omega),if_pos (by omega),and15 hb]
  have e1:¬b/32=6:=by omega
  have e2:b/16=14:=by omega
  have e3:¬b/8=30:=by omega
  simp only[hh];rw[t1 _ (by omega) 1];have f1:(b/32==6)=false:=by simpa using e1
  by_cases p1:a+1<s.length∧d1/64=2
  ·rw[if_pos p1,t2 _ (by omega) 0];by_cases p2:a+2<s.length∧d2/64=2
   ·simp only[if_pos p2,rTail,rEnd,f1,e2,decide_eq_true p1,decide_eq_true p2,beq_self_eq_true,Bool.and_self,if_true,Bool.false_and,Bool.false_eq_true,if_false];by_cases y:(b%16*64+d1%64)*64+d2%64<2048∨(55296≤(b%16*64+d1%64)*64+d2%64∧(b%16*64+d1%64)*64+d2%64≤57343)
    ·rw[if_pos (by omega),if_neg (by simp[Utf8.valid]; omega)]; simp[Utf8.runeError]
    ·rw[if_neg (by omega),if_pos (by simp[Utf8.valid]; omega)]; simp; omega
   ·simp only[if_neg p2,rEnd,f1,decide_eq_false p2,Bool.and_false,Bool.false_and,Bool.false_eq_true,if_false];simp[Utf8.runeError]
  ·simp only[if_neg p1,rEnd,f1,decide_eq_false p1,Bool.and_false,Bool.false_and,Bool.false_eq_true,if_false];simp[Utf8.runeError]
 by_cases c5:b<248
 ·have hh:rHead (b:Int)=some (4,((b%8:Nat):Int),65536):=by
   rw[rHead,if_neg (by omega),if_neg (by omega),if_pos (by omega),and7 hb]
  have e3:b/8=30:=by omega
  have f1:(b/32==6)=false:=by simp; omega
  have f2:(b/16==14)=false:=by simp; omega
  simp only[hh];rw[t1 _ (by omega) 2];by_cases p1:a+1<s.length∧d1/64=2
  ·rw[if_pos p1,t2 _ (by omega) 1];by_cases p2:a+2<s.length∧d2/64=2
   ·rw[if_pos p2,t3 _ (by omega) 0];by_cases p3:a+3<s.length∧d3/64=2
    ·simp only[if_pos p3,rTail,rEnd,f1,f2,e3,decide_eq_true p1,decide_eq_true p2,decide_eq_true p3,beq_self_eq_true,Bool.and_self,if_true,Bool.false_and,Bool.false_eq_true,if_false];by_cases y:((b%8*64+d1%64)*64+d2%64)*64+d3%64<65536∨1114111<((b%8*64+d1%64)*64+d2%64)*64+d3%64
     ·rw[if_pos (by omega),if_neg (by simp[Utf8.valid]; omega)]; simp[Utf8.runeError]
     ·rw[if_neg (by omega),if_pos (by simp[Utf8.valid]; omega)]; simp; omega
    ·simp only[if_neg p3,rEnd,f1,f2,decide_eq_false p3,Bool.and_false,Bool.false_and,Bool.false_eq_true,if_false];simp[Utf8.runeError]
   ·simp only[if_neg p2,rEnd,f1,f2,decide_eq_false p2,Bool.and_false,Bool.false_and,Bool.false_eq_true,if_false];simp[Utf8.runeError]
  ·simp only[if_neg p1,rEnd,f1,f2,decide_eq_false p1,Bool.and_false,Bool.false_and,Bool.false_eq_true,if_false];simp[Utf8.runeError]
 ·have hh:rHead (b:Int)=none:=by
   rw[rHead,if_neg (by omega),if_neg (by omega),if_neg (by omega),if_pos (by omega)]
  simp only[hh];have e1:¬b/32=6:=by omega
  have e2:¬b/16=14:=by omega
  have e3:¬b/8=30:=by omega
  simp[e1,e2,e3,Utf8.runeError]
end Go.Ah.Tz
end
section
namespace Go.Ah.Tz
open Go.Proofs.Tryz (prog)
theorem Qbq(s:Tx)(a:Nat):∀(m i:Nat) (x y:Int),rTail s a (m+1) i x=some y→a+i+m<s.length
 |m,i,x,y,h=>by
  rw[rTail] at h;cases e:s[a+i]? with
  |none=>rw[e] at h; cases h
  |some c=>
   have hl:a+i<s.length:=(YLG e).1;rw[e] at h;cases m with
   |zero=>omega
   |succ m=>
    have h2:(if rCont c=true then none else rTail s a (m+1) (i+1) (rStep x c))=some y:=h;split at h2
    ·cases h2
    ·have:=Qbq s a m (i+1) _ _ h2;omega
theorem Xb6(s:Tx)(a:Nat)(ha:a<s.length)(h:(runeR s a).2≠0):a+(runeR s a).2≤s.length:=by
 unfold runeR at h ⊢;rw[List.getElem?_eq_getElem ha] at h ⊢;simp only at h ⊢;cases e:rHead (s[a].toNat:Int) with
 |none=>rw[e] at h; simp at h
 |some p=>
  obtain⟨n,x,least⟩:=p;rw[e] at h;simp only at h ⊢;cases e2:rTail s a (n-1) 1 x with
  |none=>rw[e2] at h; simp[rEnd] at h
  |some y=>
   rw[e2] at h;have h3:(rEnd n least (some y)).2≤n:=by rw[rEnd]; split<;>simp
   by_cases hn:n≤1
   ·omega
   ·have:=Qbq s a (n-2) 1 x y (by rw[show n-2+1=n-1 by omega]; exact e2);omega
attribute [local irreducible] Ans.rd Ans.pu Ans.wr Ans.dr Ans.gr Ans.gw Ans.gl Ans.gd Ans.opt joinK W
set_option maxHeartbeats 1000000
theorem ZcF{s:Tx}{a:Nat}(h:a<s.length):QaU [.iter 0] [.siter s a]=.ok (.tup [.bool true,iv a,.int .i32 (Utf8.decode ⟨s.toArray⟩ a).1]) [] [(0,.siter s (a+(Utf8.decode ⟨s.toArray⟩ a).2))]:=by
 have hb:Nat.blt a s.length=true:=by simpa[Nat.blt_eq] using h
 show (bif Nat.blt a s.length then _ else _)=_;rw[hb]; rfl
theorem Zcp{s:Tx}{a:Nat}(h:¬a<s.length):QaU [.iter 0] [.siter s a]=.ok (.tup [.bool false]) [0] []:=by
 have hb:Nat.blt a s.length=false:=by rw[Bool.eq_false_iff]; intro q; exact h (by simpa[Nat.blt_eq] using q)
 show (bif Nat.blt a s.length then _ else _)=_;rw[hb]; rfl
theorem c241(s:Tx)(hs:s.length≤big):PC 241 [.str s] (.tup [iv (nameR s 0 0).1,iv (nameR s 0 0).2]):=by
 rw[bigE] at hs;refine Xd hP g241_ok rfl rfl ?_;unfold g241;refine Zh rfl rfl ?_;refine Qi (ι:=Nat) (λa vs σ=>∃n:Nat,vs=[iv n]∧σ=[.siter s a]∧n≤a∧(a=0↔n=0)∧a≤s.length∧nameR s 0 0=nameR s a n) (λa=>s.length-a) 0 ⟨0,rfl,rfl,by omega,by simp,by omega,rfl⟩ ?_;rintro a vs σ again ⟨n,rfl,rfl,i1,i0,i2,hu⟩ hag;by_cases h:a<s.length;rotate_left
 ·refine Zh (Zcp h) rfl (Za rfl (Xi (Za rfl ?_)));rw[show nameR s a n=(a,n) by rw[nameR,dif_neg h]] at hu;rw[hu,show s.length=a by omega]; rfl
 refine Zh (ZcF h) rfl (Za rfl (Ze (Za rfl (Za rfl ?_))));obtain⟨d1,d2⟩:=XbK s a h;have hin:=Xb6 s a h;generalize Utf8.decode ⟨s.toArray⟩ a=p at d1 d2 ⊢;have hst:Zam s a n↔(isLet (p.1:Int)=false∧(a=0∨(isDig (p.1:Int)=false∧(p.1:Int)≠39))):=by
  unfold Zam;by_cases h0:(runeR s a).2=0
  ·have:=d2 h0;rw[this];have e1:isLet 65533=false:=by decide
   have e2:isDig 65533=false:=by decide
   simp[h0,e1,e2]
  ·rw[(d1 h0).1];simp[h0,i0]
 have stp:(isLet (p.1:Int)=false∧(a=0∨(isDig (p.1:Int)=false∧(p.1:Int)≠39)))→AVal.tup [iv a,iv n]=AVal.tup [iv (nameR s 0 0).1,iv (nameR s 0 0).2]:=by
  intro q;rw[hu,nameR,dif_pos h,dif_pos (hst.2 q)]
 have go:¬(isLet (p.1:Int)=false∧(a=0∨(isDig (p.1:Int)=false∧(p.1:Int)≠39)))→VV.rd (Yh .add false [iv n,(.int .i64 1)] [.siter s (a+p.2)]) λt31=>again [t31] [.siter s (a+p.2)]:=by
  intro q;have q2:¬Zam s a n:=λz=>q (hst.1 z);have h0:(runeR s a).2≠0:=λe=>q2 (Or.inl e);have:=(d1 h0).2;have:=hin h0;refine Za (Qj ..) ?_;rw[Qe (n:=n) (by omega)];refine hag (a+p.2) _ _ (by omega) ⟨n+1,rfl,rfl,by omega,by omega,by omega,?_⟩;rw[hu,nameR,dif_pos h,dif_neg q2,(d1 h0).2]
 clear hag hu hst d1 d2 hin;generalize (p.1:Int)=r at stp go ⊢;refine Yd (c256 r) rfl g256_ok.plain rfl ?_;refine Za rfl ?_;rcases YBE (!isLet r) with h1|h1
 rotate_left
 ·rw[h1];repeat first|refine Xa ?_|refine Xb ?_|refine Zb rfl ?_|refine Yc rfl ?_|refine Qc rfl ?_|refine Zd rfl ?_|refine Za rfl ?_
  exact Xi (go (by have h1:isLet r=true:=(by simpa using h1); simp[h1]))
 rw[h1];have h1:isLet r=false:=by simpa using h1
 repeat first|refine Xa ?_|refine Xb ?_|refine Za rfl ?_
 rcases YBE ((a:Int)==0) with h2|h2
 ·rw[h2];repeat first|refine Xa ?_|refine Xb ?_|refine Zb rfl ?_|refine Yc rfl ?_|refine Qc rfl ?_|refine Zd rfl ?_|refine Za rfl ?_
  exact Ze (stp ⟨h1,Or.inl (by simpa using h2)⟩)
 rw[h2];have h2:a≠0:=by simpa using h2
 repeat first|refine Xa ?_|refine Xb ?_|refine Za rfl ?_
 refine Yd (c257 r) rfl g257_ok.plain rfl ?_;repeat first|refine Xa ?_|refine Xb ?_|refine Za rfl ?_
 rcases YBE (!isDig r) with h3|h3
 rotate_left
 ·rw[h3];repeat first|refine Xa ?_|refine Xb ?_|refine Zb rfl ?_|refine Yc rfl ?_|refine Qc rfl ?_|refine Zd rfl ?_|refine Za rfl ?_
  exact Xi (go (by have h3:isDig r=true:=(by simpa using h3); simp[h2,h3]))
 rw[h3];have h3:isDig r=false:=by simpa using h3
 repeat first|refine Xa ?_|refine Xb ?_|refine Za rfl ?_
 refine Zc (λh4=>stp ⟨h1,Or.inr ⟨h3,by simpa using h4⟩⟩) (λh4=>go ?_);have h4:r=39:=by simpa using h4
 simp[h2,h4]
theorem c223(s:Tx)(hs:s.length≤big):PC 223 [.str s] (.bool (nameOk s)):=by
 refine Xd hP g223_ok rfl rfl ?_;unfold g223;refine Yd (c241 s hs) rfl g241_ok.plain rfl ?_;unfold nameOk;generalize (nameR s 0 0).1=e;generalize (nameR s 0 0).2=n;refine Za rfl (Za rfl (Za rfl ?_));rcases YBE (decide ((n:Int)>0)) with h1|h1
 rotate_left
 ·rw[h1];repeat first|refine Zb rfl ?_|refine Yc rfl ?_|refine Qc rfl ?_|refine Zd rfl ?_|refine Za rfl ?_
  have h1:¬1≤n:=by simp at h1; omega
  simp[h1]
 rw[h1];repeat first|refine Xa ?_|refine Xb ?_|refine Za rfl ?_
 rcases YBE (decide ((n:Int)≤24)) with h2|h2
 rotate_left
 ·rw[h2];repeat first|refine Zb rfl ?_|refine Yc rfl ?_|refine Qc rfl ?_|refine Zd rfl ?_|refine Za rfl ?_
  have h2:¬n≤24:=by simp at h2; omega
  simp[h2]
 rw[h2];repeat first|refine Xa ?_|refine Xb ?_|refine Za rfl ?_
 rcases YBE ((e:Int)==(s.length:Int)) with h3|h3
 rotate_left
 ·rw[h3];repeat first|refine Zb rfl ?_|refine Yc rfl ?_|refine Qc rfl ?_|refine Zd rfl ?_|refine Za rfl ?_
  have h3:¬e=s.length:=by simp at h3; omega
  simp[h3]
 rw[h3];repeat first|refine Xa ?_|refine Xb ?_|refine Za rfl ?_
 have h3:e=s.length:=by simp at h3; omega
 subst h3;rcases YBE (decide ((s.length:Int)≤40)) with h4|h4
 rotate_left
 ·rw[h4];repeat first|refine Zb rfl ?_|refine Yc rfl ?_|refine Qc rfl ?_|refine Zd rfl ?_|refine Za rfl ?_
  have h4:¬s.length≤40:=by simp at h4; omega
  simp[h4]
 rw[h4];repeat first|refine Xa ?_|refine Xb ?_|refine Za rfl ?_
 refine Yd (c242 _) rfl g242_ok.plain rfl ?_;repeat first|refine Xa ?_|refine Xb ?_|refine Za rfl ?_
 have h1:1≤n:=by simp at h1; omega
 have h2:n≤24:=by simp at h2; omega
 have h4:s.length≤40:=by simp at h4; omega
 simp[h1,h2,h4]
end Go.Ah.Tz
end
section
namespace Go.Ah.Tz
open Go.Proofs.Tryz (prog)
theorem YaZ(a:Int):lbN a=0∨lbN a=1∨lbN a=2∨lbN a=3:=by unfold lbN; split<;>omega
attribute [local irreducible] Ans.rd Ans.pu Ans.wr Ans.dr Ans.gr Ans.gw Ans.gl Ans.gd Ans.opt joinK W
theorem c252(a:Int):PC 252 [iv8 a] (iv8 (lbN a)):=by
 refine Xd hP g252_ok rfl rfl ?_;unfold g252;refine Za rfl (ZB rfl rfl ?_);refine Zc (λh=>?_) (λh=>?_)
 ·rw[lbN,if_pos (by simpa using h)]
 ·rw[lbN,if_neg (by simpa using h)]
def joinT:AVal:=.agg [iv8 0,iv8 1,iv8 2,iv8 3,iv8 1,iv8 1,iv8 3,iv8 3,iv8 2,iv8 3,iv8 2,iv8 3,iv8 3,iv8 3,iv8 3,iv8 3]
theorem c263:PC 263 [] joinT:=by
 refine Xd hP g263_ok rfl rfl ?_;unfold g263;refine Zh rfl rfl (Za rfl (Za rfl (Za rfl (Za rfl (Za rfl (Zh rfl rfl (Zw rfl ?_)))))));rfl
theorem c250(a b:Int):PC 250 [iv8 a,iv8 b] (iv8 (joinL a b)):=by
 refine Xd hP g250_ok rfl rfl ?_;unfold g250;refine Xk c263 rfl g263_ok.plain rfl ?_;refine Xk (c252 a) rfl g252_ok.plain rfl ?_;have h1:=YaZ a;have h2:=YaZ b;unfold joinL;have k:=c252 b;generalize lbN a=p at h1 ⊢;generalize lbN b=q at h2 k ⊢;rcases h1 with h1|h1|h1|h1<;>subst h1<;>refine Zj rfl ?_<;>refine Xk k rfl g252_ok.plain rfl ?_<;>rcases h2 with h2|h2|h2|h2<;>subst h2<;>exact Zj rfl (QC (by kernel_rfl) rfl)
theorem c253(a b:Int):PC 253 [iv8 a,iv8 b] (.bool (decide (joinL a b=lbN b))):=by
 refine Xd hP g253_ok rfl rfl ?_;unfold g253;refine Yd (c250 a b) rfl g250_ok.plain rfl ?_;refine Yd (c252 b) rfl g252_ok.plain rfl ?_;refine Za (Zf ..) ?_;rfl
theorem XaG(b:Int):joinL b b=lbN b:=by rw[joinL,if_pos (Or.inl rfl)]
end Go.Ah.Tz
end
section
namespace Go.Ah.Tz
open Go.Proofs.Tryz (prog)
attribute [local irreducible] Ans.rd Ans.pu Ans.wr Ans.dr Ans.gr Ans.gw Ans.gl Ans.gd Ans.opt joinK W
set_option maxHeartbeats 1000000
theorem Zcr(x:Nm):nmL x=if x.op=6 then 3 else if 8≤x.op∧x.op≤12 then nmLs 0 x.kids else 0:=by
 rw[Zcc];by_cases h:x.op=6
 ·rw[if_neg (by omega),if_pos h,if_pos h]
 ·rw[if_neg h,if_neg h]
theorem c251':∀(k:Nat) (x:Nm),SizeOf.sizeOf x≤k→nmFit x=true→PC 251 [.agg (nmC x)] (iv8 (nmL x))
 |0,x,h,_=>by cases x; simp at h
 |k+1,x,hk,hf=>by
  rw[ZC];refine Xd hP g251_ok rfl rfl ?_;unfold g251;refine Zh rfl rfl ?_;rw[Zcr];have hlen:=YW hf;rw[bigE] at hlen;generalize hB:([]++[ABlk.box [iv8 x.op,iv x.n,iv8 x.who,.rsl false false 4 (x.kids.map nmC)]]:List ABlk)=base;have hB0:hget base 0=.box [iv8 x.op,iv x.n,iv8 x.who,.rsl false false 4 (x.kids.map nmC)]:=by rw[←hB]; rfl
  clear hB;refine Za rfl (Za (ld hB0 rfl) (Za (Zf ..) ?_));refine Zc (λh=>?_) (λh=>?_)
  ·rw[if_pos (by simpa using h)]
  rw[if_neg (by simpa using h)];refine Za rfl (Za (ld hB0 rfl) (Za rfl ?_));refine Z7 rfl (ld hB0 rfl) rfl ?_;rw[show (decide (x.op ≥ 8)&&decide (x.op≤12))=decide (8≤x.op∧x.op≤12) by simp];refine Zc (λh=>?_) (λh=>?_);rotate_left
  ·rw[if_neg (by simpa using h)]
  rw[if_pos (by simpa using h)];refine Za rfl (Za (ld hB0 rfl) (Za rfl ?_));clear hB0;refine Qi (ι:=Nat) (λi vs σ=>∃n,vs=[iv i,iv8 n]∧i≤x.kids.length∧nmLs 0 x.kids=nmLs n (x.kids.drop i)) (λi=>x.kids.length-i) 0 ⟨0,rfl,by omega,by simp⟩ ?_;rintro i vs σ again ⟨n,rfl,hi,hu⟩ hag;refine Za rfl ?_;refine Zc (λh=>?_) (λh=>?_)
  ·have h:i<x.kids.length:=by simpa using h
   have hdr:x.kids.drop i=x.kids[i]::x.kids.drop (i+1):=by rw[YLD h]
   rw[hdr,nmLs] at hu;have hm:x.kids[i]∈x.kids:=List.getElem_mem h;have hix:=λ(s:List ABlk)=>Zn s nmC false false 4 x.kids .i64 i h;have hsz:=Qaa hm;have hfk:=ZR hf hm;generalize x.kids[i]=y at hu hix hsz hfk;refine Za (hix _) (Za (ldr (nmLd _)) ?_);refine Qs (row:=[iv8 y.op,iv y.n,iv8 y.who,.rsl false false 4 (y.kids.map nmC)]) (row':=[iv8 y.op,iv y.n,iv8 y.who,.rsl false false 4 (y.kids.map nmC)]) (by rw[ZC]; rfl) rfl rfl ?_;have hB1:=Yj σ (ABlk.box [iv8 y.op,iv y.n,iv8 y.who,.rsl false false 4 (y.kids.map nmC)]);have hN:Xc true 4 [.bptr σ.length 0] (σ++[ABlk.box [iv8 y.op,iv y.n,iv8 y.who,.rsl false false 4 (y.kids.map nmC)]])=.ok (.agg (nmC y)) [σ.length] []:=ld hB1 (by rw[ZC]; rfl);refine Za hN ?_;refine Yd (c251' k y (by omega) hfk) rfl g251_ok.plain (nmRo _) ?_;refine Yd (c250 _ _) rfl g250_ok.plain rfl ?_;refine Za (Qj ..) ?_;rw[Qe (n:=i) (by omega)];exact hag (i+1) _ _ (by omega) ⟨_,rfl,by omega,hu⟩
  ·have h:i=x.kids.length:=by simp at h; omega
   subst h;rw[List.drop_length,nmLs] at hu;rw[hu]; rfl
theorem c251(x:Nm)(hf:nmFit x=true):PC 251 [.agg (nmC x)] (iv8 (nmL x)):=c251' _ x (Nat.le_refl _) hf
theorem c254':∀(k:Nat) (x:Cn),SizeOf.sizeOf x≤k→cnFit x=true→PC 254 [.agg (cnC x)] (iv8 (cnL x))
 |0,x,h,_=>by cases x; simp at h
 |k+1,x,hk,hf=>by
  rw[YL];refine Xd hP g254_ok rfl rfl ?_;unfold g254;refine Zh rfl rfl ?_;rw[Yca];have hl1:=XJ hf;have hl2:=YJ hf;rw[bigE] at hl1 hl2;generalize hB:([]++[ABlk.box [iv8 x.op,iv8 x.who,.str x.name,.rsl false false 4 (x.nums.map nmC),.rsl false false 5 (x.kids.map cnC)]]:List ABlk)=base;have hB0:hget base 0=.box [iv8 x.op,iv8 x.who,.str x.name,.rsl false false 4 (x.nums.map nmC),.rsl false false 5 (x.kids.map cnC)]:=by rw[←hB]; rfl
  clear hB;refine Za rfl (Za (ld hB0 rfl) (Za (Zf ..) ?_));refine Zc (λh=>?_) (λh=>?_)
  ·rw[if_pos (by simpa using h)];refine Za rfl (Za (ld hB0 rfl) (Za (Zf ..) ?_));refine Zc (λh=>?_) (λh=>?_)
   ·rw[if_pos (by simpa using h)]
   rw[if_neg (by simpa using h)];refine Za (Zf ..) ?_;refine Zc (λh=>?_) (λh=>?_)
   ·rw[if_pos (by simpa using h)]
   ·rw[if_neg (by simpa using h)]
  rw[if_neg (by simpa using h)];refine Za rfl (Za (ld hB0 rfl) (Za rfl ?_));refine Qi (ι:=Nat) (λi vs σ=>∃n,vs=[iv i,iv8 n]∧hget σ 0=.box [iv8 x.op,iv8 x.who,.str x.name,.rsl false false 4 (x.nums.map nmC),.rsl false false 5 (x.kids.map cnC)]∧i≤x.nums.length∧nmLs 0 x.nums=nmLs n (x.nums.drop i)) (λi=>x.nums.length-i) 0 ⟨0,rfl,hB0,by omega,by simp⟩ ?_;rintro i vs σ again ⟨n,rfl,hB0,hi,hu⟩ hag;refine Za rfl ?_;refine Zc (λh=>?_) (λh=>?_)
  ·have h:i<x.nums.length:=by simpa using h
   have hdr:x.nums.drop i=x.nums[i]::x.nums.drop (i+1):=by rw[YLD h]
   rw[hdr,nmLs] at hu;have hm:x.nums[i]∈x.nums:=List.getElem_mem h;have hix:=λ(s:List ABlk)=>Zn s nmC false false 4 x.nums .i64 i h;have hfk:=QP hf hm;generalize x.nums[i]=y at hu hix hfk;refine Za (hix _) (Za (ldr (nmLd _)) ?_);refine Qs (row:=[iv8 y.op,iv y.n,iv8 y.who,.rsl false false 4 (y.kids.map nmC)]) (row':=[iv8 y.op,iv y.n,iv8 y.who,.rsl false false 4 (y.kids.map nmC)]) (by rw[ZC]; rfl) rfl rfl ?_;have hB1:=Yj σ (ABlk.box [iv8 y.op,iv y.n,iv8 y.who,.rsl false false 4 (y.kids.map nmC)]);have hN:Xc true 4 [.bptr σ.length 0] (σ++[ABlk.box [iv8 y.op,iv y.n,iv8 y.who,.rsl false false 4 (y.kids.map nmC)]])=.ok (.agg (nmC y)) [σ.length] []:=ld hB1 (by rw[ZC]; rfl);refine Za hN ?_;refine Yd (c251 y hfk) rfl g251_ok.plain (nmRo _) ?_;refine Yd (c250 _ _) rfl g250_ok.plain rfl ?_;refine Za (Qj ..) ?_;rw[Qe (n:=i) (by omega)];exact hag (i+1) _ _ (by omega) ⟨_,rfl,Xj _ hB0 (by simp),by omega,hu⟩
  have h:i=x.nums.length:=by simp at h; omega
  subst h;rw[List.drop_length,nmLs] at hu;rw[hu];clear hag hu hi;refine Za rfl (Za (ld hB0 rfl) (Za rfl ?_));refine Qi (ι:=Nat) (λi vs s=>∃m,vs=[iv i,iv8 m]∧i≤x.kids.length∧cnLs n x.kids=cnLs m (x.kids.drop i)) (λi=>x.kids.length-i) 0 ⟨n,rfl,by omega,by simp⟩ ?_;rintro i vs s again ⟨m,rfl,hi,hu⟩ hag;refine Za rfl ?_;refine Zc (λh=>?_) (λh=>?_)
  ·have h:i<x.kids.length:=by simpa using h
   have hdr:x.kids.drop i=x.kids[i]::x.kids.drop (i+1):=by rw[YLD h]
   rw[hdr,cnLs] at hu;have hm:x.kids[i]∈x.kids:=List.getElem_mem h;have hix:=λ(s:List ABlk)=>Zn s cnC false false 5 x.kids .i64 i h;have hfk:=XP hf hm;have hsz:=X9 hm;generalize x.kids[i]=y at hu hix hfk hsz;refine Za (hix _) (Za (ldr (cnLd _)) ?_);refine Qs (row:=[iv8 y.op,iv8 y.who,.str y.name,.rsl false false 4 (y.nums.map nmC),.rsl false false 5 (y.kids.map cnC)]) (row':=[iv8 y.op,iv8 y.who,.str y.name,.rsl false false 4 (y.nums.map nmC),.rsl false false 5 (y.kids.map cnC)]) (by rw[YL]; rfl) rfl rfl ?_;have hB1:=Yj s (ABlk.box [iv8 y.op,iv8 y.who,.str y.name,.rsl false false 4 (y.nums.map nmC),.rsl false false 5 (y.kids.map cnC)]);have hN:Xc true 5 [.bptr s.length 0] (s++[ABlk.box [iv8 y.op,iv8 y.who,.str y.name,.rsl false false 4 (y.nums.map nmC),.rsl false false 5 (y.kids.map cnC)]])=.ok (.agg (cnC y)) [s.length] []:=ld hB1 (by rw[YL]; rfl);refine Za hN ?_;refine Yd (c254' k y (by omega) hfk) rfl g254_ok.plain (cnRo _) ?_;refine Yd (c250 _ _) rfl g250_ok.plain rfl ?_;refine Za (Qj ..) ?_;rw[Qe (n:=i) (by omega)];exact hag (i+1) _ _ (by omega) ⟨_,rfl,by omega,hu⟩
  ·have h:i=x.kids.length:=by simp at h; omega
   subst h;rw[List.drop_length,cnLs] at hu;rw[hu]; rfl
theorem c254(x:Cn)(hf:cnFit x=true):PC 254 [.agg (cnC x)] (iv8 (cnL x)):=c254' _ x (Nat.le_refl _) hf
end Go.Ah.Tz
end
section
namespace Go.Ah.Tz
open Go.Proofs.Tryz (prog)
attribute [local irreducible] Ans.rd Ans.pu Ans.wr Ans.dr Ans.gr Ans.gw Ans.gl Ans.gd Ans.opt joinK W
theorem efRo(u:Int)(x:Ef):roL [.agg [iv8 u],.agg (efC x)]=true:=by rw[XA]; rfl
theorem c235(u:Int)(x:Ef)(hf:efFit x=true):PC 235 [.agg [iv8 u],.agg (efC x)] (.bool (decide (joinL u (nmL x.n)=0))):=by
 rw[XA];refine Xd hP g235_ok rfl rfl ?_;unfold g235;refine Zh rfl rfl (Zh rfl rfl (Zj rfl (Xl rfl rfl (Zj rfl (Xl (ld (v:=.agg (nmC x.n)) rfl (by rw[ZC]; rfl)) rfl ?_)))));refine Xk (c251 _ (QX hf)) rfl g251_ok.plain (nmRo _) ?_;refine Xk (c250 _ _) rfl g250_ok.plain rfl ?_;exact Zj (Zf ..) (QC (by kernel_rfl) rfl)
theorem c236(u:Int)(x:Ef):PC 236 [.agg [iv8 u],.agg (efC x)] (.bool (decide (lbN u=0))):=by
 rw[XA];refine Xd hP g236_ok rfl rfl ?_;unfold g236;refine Zh rfl rfl (Zh rfl rfl (Za rfl (Za rfl ?_)));refine Yd (c252 _) rfl g252_ok.plain rfl ?_;exact Za (Zf ..) rfl
theorem c237(u:Int)(x:Ef)(hf:efFit x=true):PC 237 [.agg [iv8 u],.agg (efC x)] (.bool (QaF (joinL u (nmL x.n)) 1)):=by
 rw[XA];refine Xd hP g237_ok rfl rfl ?_;unfold g237;refine Zh rfl rfl (Zh rfl rfl (Zj rfl (Xl rfl rfl (Zj rfl (Xl (ld (v:=.agg (nmC x.n)) rfl (by rw[ZC]; rfl)) rfl ?_)))));refine Xk (c251 _ (QX hf)) rfl g251_ok.plain (nmRo _) ?_;refine Xk (c250 _ _) rfl g250_ok.plain rfl ?_;refine Xk (c253 _ _) rfl g253_ok.plain rfl ?_;refine QC (by kernel_rfl) ?_;rw[QaF,XaG]
end Go.Ah.Tz
end
section
namespace Go.Ah.Tz
open Go.Proofs.Tryz (prog)
theorem Yt{σ:List ABlk}(l:List ABlk){c:Nat}(h:c<σ.length):hget (σ++l) c=hget σ c:=by
 have h1:=XaY h;exact YT (by rw[List.getElem?_append_left h]; exact h1)
theorem Yq{σ:List ABlk}{b c:Nat}(x:ABlk)(h:c<σ.length)(hc:c≠b):hget (σ.set b x) c=hget σ c:=by
 have h1:=XaY h;exact YT (by rw[List.getElem?_set_ne (λe=>hc e.symm)]; exact h1)
def Gr(σ0:List ABlk)(n:Nat)(rows:List (List AVal))(k:Nat)(v:AVal)(σ:List ABlk):Prop:=
 σ0.length≤σ.length∧(∀c,c<σ0.length→hget σ c=hget σ0 c)∧((k=0∧v=.nils∧rows=[])∨(0<k∧∃b,σ0.length≤b∧v=.sl b 0 k false∧hget σ b=.rows n rows∧rows.length=k))
theorem Gr.nil(n:Nat)(σ:List ABlk):Gr σ n [] 0 .nils σ:=⟨Nat.le_refl _,λ_ _=>rfl,.inl ⟨rfl,rfl,rfl⟩⟩
theorem Gr.grows{σ0 σ:List ABlk}{n k:Nat}{rows:List (List AVal)}{v:AVal}(h:Gr σ0 n rows k v σ):Grows n rows k v σ:=by
 rcases h.2.2 with h|⟨h1,b,_,h2,h3,h4⟩
 ·exact .inl h
 ·exact .inr ⟨h1,b,h2,h3,h4⟩
theorem Gr.old{σ0 σ:List ABlk}{n k:Nat}{rows:List (List AVal)}{v:AVal}(h:Gr σ0 n rows k v σ){c:Nat}{x:ABlk}(hx:hget σ0 c=x)(hd:x≠.dead):hget σ c=x:=by
 rw[h.2.1 c (Zo hx hd)]; exact hx
theorem Gr.base{σ0 σ:List ABlk}{l:List ABlk}{n k:Nat}{rows:List (List AVal)}{v:AVal}(h:Gr (σ0++l) n rows k v σ):Gr σ0 n rows k v σ:=by
 obtain⟨h1,h2,h3⟩:=h;simp only[List.length_append] at h1 h2 h3;refine⟨by omega,λc hc=>?_,?_⟩
 ·rw[h2 c (by omega),Yt l hc]
 ·rcases h3 with h3|⟨q1,b,q2,q3⟩
  ·exact .inl h3
  ·exact .inr ⟨q1,b,by omega,q3⟩
theorem Gr.put{σ0 σ:List ABlk}{n by_ k:Nat}{rows:List (List AVal)}{v:AVal}{z cs:List AVal}{x:AVal}(hg:Gr σ0 n rows k v σ)(hx:fill z [(0,n)] [x]=some cs)(hc:chunk n 1 cs=some [cs])(hr:cs.all AVal.cell=true)(hroom:(2*(k+1)+192)*by_≤2 ^ 48){K:AVal→List ABlk→Prop}
 (hK:∀v' σ',Gr σ0 n (rows++[cs]) (k+1) v' σ'→K v' σ'):VV.wr (Qh n 1 z [(0,n)] [x] σ) σ (λt σ=>VV.wr (Zi n by_ [v,t] σ) σ K):=by
 rw[Yad _ _ _ _ _ cs hx hc];obtain⟨g1,g2,hg⟩:=hg;rcases hg with ⟨rfl,rfl,rfl⟩|⟨hk,b,hb0,rfl,hb,hl⟩
 ·rw[Xbh _ n by_ σ cs hr (by simpa using hroom)];refine hK _ _ ⟨by simp; omega,λc hc=>?_,.inr ⟨by omega,_,?_,rfl,by have:=Yj (σ++[.rows n [cs]]) (.rows n [cs]); simpa using this,rfl⟩⟩
  ·rw[Yt _ (by simp; omega),Yt _ (by omega),g2 c hc]
  ·omega
 ·rw[Qa8 _ n by_ σ b k false rows cs hb hl hr hroom];refine hK _ _ ⟨by simp; omega,λc hc=>?_,.inr ⟨by omega,_,?_,rfl,?_,by simp[hl]⟩⟩
  ·rw[Yt _ (by simp; omega),Yt _ (by simp; omega),Yq _ (by omega) (by omega),g2 c hc]
  ·omega
  ·have:=Yj (σ.set b .dead++[.rows n [cs]]) (.rows n (rows++[cs]));simpa using this
inductive Pt where
 |ef (x:Ef)
 |nm (x:Nm)
 |cn (x:Cn)
inductive PtV:AVal→Pt→Prop
 |ef (x:Ef):PtV (.iface 272 (.agg [.rptr (efC x) 0])) (.ef x)
 |nm (row:List AVal) (j:Nat) (x:Nm):NmAt row j x→PtV (.iface 290 (.agg [.rptr row j])) (.nm x)
 |cn (row:List AVal) (j:Nat) (x:Cn):CnAt row j x→PtV (.iface 292 (.agg [.rptr row j])) (.cn x)
def Pt.kids:Pt→List Pt
 |.ef x=>(if cntOp x.op then [.nm x.n] else [])++(if x.op=8 then .cn x.c::(x.thn.map .ef++x.els.map .ef) else [])
 |.nm x=>x.kids.map .nm
 |.cn x=>x.nums.map .nm++x.kids.map .cn
def Pt.fit:Pt→Bool
 |.ef x=>efFit x
 |.nm x=>nmFit x
 |.cn x=>cnFit x
mutual
def nmP:Nm→List Pt
 |.mk op n who kids=>.nm (.mk op n who kids)::nmPs kids
def nmPs:List Nm→List Pt
 |[]=>[]
 |x::l=>nmP x++nmPs l
end
mutual
def cnP:Cn→List Pt
 |.mk op who name nums kids=>.cn (.mk op who name nums kids)::(nmPs nums++cnPs kids)
def cnPs:List Cn→List Pt
 |[]=>[]
 |x::l=>cnP x++cnPs l
end
mutual
def efP:Ef→List Pt
 |.mk op who n name c thn els=>.ef (.mk op who n name c thn els)::((if cntOp op then nmP n else [])++(if op=8 then cnP c++(efPs thn++efPs els) else []))
def efPs:List Ef→List Pt
 |[]=>[]
 |x::l=>efP x++efPs l
end
def flat:Pt→List Pt
 |.ef x=>efP x
 |.nm x=>nmP x
 |.cn x=>cnP x
def flats:List Pt→List Pt
 |[]=>[]
 |p::l=>flat p++flats l
theorem ZT:∀a b,flats (a++b)=flats a++flats b
 |[],b=>rfl
 |p::a,b=>by simp[flats,ZT a b]
theorem QaM:∀l,flats (l.map .nm)=nmPs l
 |[]=>rfl
 |x::l=>by simp[flats,QaM l,flat,nmPs]
theorem Ybm:∀l,flats (l.map .cn)=cnPs l
 |[]=>rfl
 |x::l=>by simp[flats,Ybm l,flat,cnPs]
theorem Xae:∀l,flats (l.map .ef)=efPs l
 |[]=>rfl
 |x::l=>by simp[flats,Xae l,flat,efPs]
theorem ZbN(p:Pt):flat p=p::flats p.kids:=by
 cases p with
 |ef x=>
  obtain⟨op,who,n,name,c,thn,els⟩:=x;have e:Pt.kids (.ef (.mk op who n name c thn els))=(if cntOp op then [.nm n] else [])++(if op=8 then .cn c::(thn.map .ef++els.map .ef) else []):=rfl;rw[e,ZT];simp only[flat,efP]
  congr 2
  ·by_cases h:cntOp op=true<;>simp[h,flats,flat]
  ·by_cases h:op=8<;>simp[h,flats,flat,ZT,Xae]
 |nm x=>cases x; simp[flat,nmP,Pt.kids,Nm.kids,QaM]
 |cn x=>cases x; simp[flat,cnP,Pt.kids,Cn.nums,Cn.kids,ZT,QaM,Ybm]
theorem Zbm(p:Pt):0<(flat p).length:=by rw[ZbN]; simp
theorem Yax:∀ {l:List Pt} {p:Pt},p∈l→(flat p).length≤(flats l).length
 |q::l,p,h=>by
  simp only[flats,List.length_append];rcases List.mem_cons.1 h with rfl|h
  ·omega
  ·have:=Yax h; omega
theorem Zax:∀l:List Pt,l.length≤(flats l).length
 |[]=>by simp
 |p::l=>by
  have:=Zax l;have:=Zbm p;simp[flats]; omega
theorem Xcq{p q:Pt}(h:p.fit=true)(hq:q∈p.kids):q.fit=true:=by
 cases p with
 |ef x=>
  simp only[Pt.kids,List.mem_append] at hq;rcases hq with hq|hq
  ·split at hq
   ·simp at hq; subst hq; exact QX h
   ·simp at hq
  ·split at hq
   ·simp only[List.mem_cons,List.mem_append,List.mem_map] at hq;rcases hq with rfl|⟨y,hy,rfl⟩|⟨y,hy,rfl⟩
    ·exact ZU h
    ·exact YH (ZH h) hy
    ·exact YH (QG h) hy
   ·simp at hq
 |nm x=>
  simp only[Pt.kids,List.mem_map] at hq;obtain⟨y,hy,rfl⟩:=hq;exact ZR h hy
 |cn x=>
  simp only[Pt.kids,List.mem_append,List.mem_map] at hq;rcases hq with ⟨y,hy,rfl⟩|⟨y,hy,rfl⟩
  ·exact QP h hy
  ·exact XP h hy
def runL{S:Type}(step:S→Pt→S×Bool):S→List Pt→S×Bool
 |s,[]=>(s,true)
 |s,p::l=>if (step s p).2=true then runL step (step s p).1 l else ((step s p).1,false)
theorem QZ{S:Type}(step:S→Pt→S×Bool):∀(a:List Pt) (s:S) (b:List Pt),runL step s (a++b)=if (runL step s a).2=true then runL step (runL step s a).1 b else ((runL step s a).1,false)
 |[],s,b=>by simp[runL]
 |p::a,s,b=>by
  simp only[List.cons_append,runL];by_cases h:(step s p).2=true
  ·simp only[if_pos h]; exact QZ step a _ b
  ·simp[if_neg h]
def Bt(b:Nat)(σ σ':List ABlk):Prop:=σ.length≤σ'.length∧∀c,c<σ.length→c≠b→hget σ' c=hget σ c
theorem Bt.refl(b:Nat)(σ:List ABlk):Bt b σ σ:=⟨Nat.le_refl _,λ_ _ _=>rfl⟩
theorem Bt.trans{b:Nat}{x y z:List ABlk}(h:Bt b x y)(k:Bt b y z):Bt b x z:=⟨Nat.le_trans h.1 k.1,λc hc hb=>by rw[k.2 c (by have:=h.1; omega) hb,h.2 c hc hb]⟩
theorem Bt.old{b:Nat}{σ σ':List ABlk}(h:Bt b σ σ'){c:Nat}{x:ABlk}(hx:hget σ c=x)(hd:x≠.dead)(hc:c≠b):hget σ' c=x:=by
 rw[h.2 c (Zo hx hd) hc]; exact hx
theorem Bt.gr{σ σ':List ABlk}(b:Nat)(h1:σ.length≤σ'.length)(h:∀c,c<σ.length→hget σ' c=hget σ c):Bt b σ σ':=⟨h1,λc hc _=>h c hc⟩
def Clo{S:Type}(clo:AVal)(b:Nat)(enc:S→List AVal)(step:S→Pt→S×Bool):Prop:=
 ∀p v,PtV v p→∀s σ K,hget σ b=.box (enc s)→(∀σ',Bt b σ σ'→hget σ' b=.box (enc (step s p).1)→K (.bool (step s p).2) σ')→VV.call .callv [clo,v] σ K
inductive PtL:List AVal→List Pt→Prop
 |nil:PtL [] []
 |snoc (vs:List AVal) (ps:List Pt) (v:AVal) (p:Pt):PtL vs ps→PtV v p→PtL (vs++[v]) (ps++[p])
theorem PtL.length{vs:List AVal}{ps:List Pt}(h:PtL vs ps):vs.length=ps.length:=by
 induction h with
 |nil=>rfl
 |snoc vs ps v p h hv ih=>simp[ih]
theorem PtL.get{vs:List AVal}{ps:List Pt}(h:PtL vs ps):∀i (h1:i<vs.length) (h2:i<ps.length),PtV vs[i] ps[i]:=by
 induction h with
 |nil=>intro i h; simp at h
 |snoc vs ps v p h hv ih=>
  intro i h1 h2;have hl:=h.length;simp only[List.length_append,List.length_singleton] at h1 h2;by_cases hi:i<vs.length
  ·rw[List.getElem_append_left hi,List.getElem_append_left (by omega)]; exact ih i hi (by omega)
  ·have e1:i=vs.length:=by omega
   subst e1;have:ps[vs.length]?=none:=by rw[List.getElem?_eq_none (by omega)]
   simp[hl,hv]
def one(v:AVal):List AVal:=[v]
end Go.Ah.Tz
end
section
namespace Go.Ah.Tz
open Go.Proofs.Tryz (prog)
attribute [local irreducible] Ans.rd Ans.pu Ans.wr Ans.dr Ans.gr Ans.gw Ans.gl Ans.gd Ans.opt joinK W
set_option maxHeartbeats 2000000
def efPt(x:Ef):List AVal:=[.iface 272 (.agg [.rptr (efC x) 0])]
def nmPt(x:Nm):List AVal:=[.iface 290 (.agg [.rptr (nmC x) 0])]
def cnPt(x:Cn):List AVal:=[.iface 292 (.agg [.rptr (cnC x) 0])]
theorem ZcH{σ0 σ:List ABlk}{k:Nat}{rows:List (List AVal)}{v:AVal}(l:List Ef)(hl:k+l.length≤1000000000)(hg:Gr σ0 1 rows k v σ){K:List AVal→List ABlk→Prop}
 (hK:∀v' σ' w,Gr σ0 1 (rows++l.map efPt) (k+l.length) v' σ'→K [w,v'] σ') :
  VV.loop (λag v55 σ=>VV.rd (Yh .lss false [(h0 v55),iv l.length] σ) λt72_56=>VV.test t72_56 (
   VV.rd (Yb 14 [efV l,(h0 v55)] σ) λt77_57=>VV.rd (Xf [.nilp] [(0,1)] [t77_57] σ) λt78_58=>VV.rd (Xz 272 [t78_58] σ) λt79_59=>
   VV.wr (Qh 1 1 [.nili] [(0,1)] [t79_59] σ) σ λt80_60 σ=>VV.wr (Zi 1 16 [(h1 v55),t80_60] σ) σ λt81_61 σ=>
   VV.rd (Yh .add false [(h0 v55),(.int .i64 1)] σ) λt82_62=>ag [t82_62,t81_61] σ) (K v55 σ)) [(.int .i64 0),v] σ:=by
 refine Qi (ι:=Nat) (λi vs s=>∃v,vs=[iv i,v]∧i≤l.length∧Gr σ0 1 (rows++(l.take i).map efPt) (k+i) v s) (λi=>l.length-i) 0 ⟨v,rfl,by omega,by simpa using hg⟩ ?_;rintro i vs s again ⟨v,rfl,hi,hg⟩ hag;refine Za rfl (Zc (λh=>?_) (λh=>?_))
 ·have h:i<l.length:=by simpa using h
  refine Za (Zn _ efC _ _ _ l _ i h) (Za rfl (Za rfl ?_));refine hg.put (cs:=efPt l[i]) rfl rfl rfl (by omega) (λv' σ' hg'=>?_);refine Za (Qj ..) ?_;rw[Qe (n:=i) (by omega)];refine hag (i+1) _ _ (by omega) ⟨v',rfl,by omega,?_⟩;rw[←Qv _ _ _ h,←List.append_assoc]; exact hg'
 ·have h:i=l.length:=by simp at h; omega
  subst h;rw[List.take_length] at hg;exact hK _ _ _ hg
theorem efPtL{vs:List AVal}{ps:List Pt}(h:PtL vs ps):∀l:List Ef,PtL (vs++(l.map efPt).flatten) (ps++l.map .ef):=by
 intro l
 induction l generalizing vs ps with
 |nil=>simpa using h
 |cons x l ih=>
  have:=ih (PtL.snoc _ _ _ _ h (.ef x));simpa[efPt] using this
theorem nmPtL{vs:List AVal}{ps:List Pt}(h:PtL vs ps):∀l:List Nm,PtL (vs++(l.map nmPt).flatten) (ps++l.map .nm):=by
 intro l
 induction l generalizing vs ps with
 |nil=>simpa using h
 |cons x l ih=>
  have:=ih (PtL.snoc _ _ _ _ h (.nm (nmC x) 0 x (nmAt x)));simpa[nmPt] using this
theorem cnPtL{vs:List AVal}{ps:List Pt}(h:PtL vs ps):∀l:List Cn,PtL (vs++(l.map cnPt).flatten) (ps++l.map .cn):=by
 intro l
 induction l generalizing vs ps with
 |nil=>simpa using h
 |cons x l ih=>
  have:=ih (PtL.snoc _ _ _ _ h (.cn (cnC x) 0 x (cnAt x)));simpa[cnPt] using this
theorem Xat{α:Type}{f:α→List AVal}(h:∀x,∃v,f x=[v]):∀l:List α,l.map f=((l.map f).flatten).map one
 |[]=>rfl
 |x::l=>by
  obtain⟨v,hv⟩:=h x;have:=Xat h l;simp only[List.map_cons,List.flatten_cons,hv,List.map_append,List.map_nil,one];rw[←this]; rfl
theorem Yat(l:List Ef):l.map efPt=((l.map efPt).flatten).map one:=Xat (λ_=>⟨_,rfl⟩) l
theorem Zbq(l:List Nm):l.map nmPt=((l.map nmPt).flatten).map one:=Xat (λ_=>⟨_,rfl⟩) l
theorem Xb5(l:List Cn):l.map cnPt=((l.map cnPt).flatten).map one:=Xat (λ_=>⟨_,rfl⟩) l
theorem c208{S:Type}{enc:S→List AVal}{step:S→Pt→S×Bool}{clo:AVal}{b:Nat}(hc:Clo clo b enc step):∀(k:Nat) (p:Pt),(flat p).length≤k→p.fit=true→(flat p).length≤500000000→∀v,PtV v p→∀s σ K,hget σ b=.box (enc s) →
  (∀σ',Bt b σ σ'→hget σ' b=.box (enc (runL step s (flat p)).1)→K (.bool (runL step s (flat p)).2) σ')→g208 VV [v,clo] σ K
 |0,p,h,_,_=>by have:=Zbm p; omega
 |k+1,p,hk,hf,hN=>by
  intro v hv s σ K hb hK;rw[ZbN] at hk hN hK;simp only[List.length_cons] at hk hN;have hkl:=Zax p.kids;unfold g208;refine hc p v hv s σ _ hb (λσ1 t1 b1=>?_);simp only[runL] at hK;refine Za rfl (Zc (λh=>?_) (λh=>?_))
  ·have h:(step s p).2=false:=by simpa using h
   rw[h] at hK;exact hK σ1 t1 b1
  have h:(step s p).2=true:=by simpa using h
  rw[h,if_pos rfl] at hK;generalize (step s p).1=s1 at hK b1;refine Yk λk2 hk2=>?_;have kk:∀v2 σ2 vs,PtL vs p.kids→Gr σ1 1 (vs.map one) vs.length v2 σ2→k2 [v2] σ2:=by
   intro v2 σ2 vs hp hg;rw[hk2]; clear hk2 k2;have hlen:=hp.length;have hb2:=hg.old b1 (by simp);have t2:Bt b σ1 σ2:=⟨hg.1,λc hc _=>hg.2.1 c hc⟩;refine Za (hg.grows.len _) ?_;refine Qi (ι:=Nat) (λi ws σ3=>∃s',ws=[iv i]∧i≤p.kids.length∧hget σ3 b=.box (enc s')∧Bt b σ2 σ3∧runL step s1 (flats p.kids)=runL step s' (flats (p.kids.drop i))) (λi=>p.kids.length-i) 0 ⟨s1,rfl,by omega,hb2,Bt.refl _ _,by simp⟩ ?_;rintro i ws σ3 again ⟨s',rfl,hi,hb3,t3,hr⟩ hag;refine Za rfl (Zc (λh=>?_) (λh=>?_))
   ·have h:i<vs.length:=by simpa using h
    have h':i<p.kids.length:=by omega
    have hg3:Grows 1 (vs.map one) vs.length v2 σ3:=by
     rcases hg.2.2 with h|⟨q1,c,q2,q3,q4,q5⟩
     ·exact .inl h
     ·refine .inr ⟨q1,c,q3,?_,q5⟩;have hcb:c≠b:=by
       intro e; subst e;rw[hb2] at q4; cases q4
      exact t3.old q4 (by simp) hcb
    obtain⟨c,e1,hj,e2⟩:=hg3.at .i64 i h;refine Za e1 (Za (e2 false 1 vs[i] (by simp[one])) ?_);have hmem:p.kids[i]∈p.kids:=List.getElem_mem h';have hfl:=Yax hmem;have hdr:p.kids.drop i=p.kids[i]::p.kids.drop (i+1):=YLD h';rw[hdr,flats,QZ] at hr;refine Qy hP rfl g208_ok rfl ?_;refine c208 hc k p.kids[i] (by omega) (Xcq hf hmem) (by omega) _ (hp.get i h h') s' σ3 _ hb3 (λσ4 t4 b4=>?_);refine Za rfl (Zc (λh5=>?_) (λh5=>?_))
    ·have h5:(runL step s' (flat p.kids[i])).2=false:=by simpa using h5
     rw[h5] at hr;have:=hK σ4 ((t1.trans t2).trans (t3.trans t4)) (by rw[hr]; exact b4);rw[hr] at this; exact this
    ·have h5:(runL step s' (flat p.kids[i])).2=true:=by simpa using h5
     rw[h5,if_pos rfl] at hr;refine Za (Qj ..) ?_;rw[Qe (n:=i) (by omega)];exact hag (i+1) _ _ (by omega) ⟨_,rfl,by omega,b4,t3.trans t4,hr⟩
   ·have h:i=p.kids.length:=by simp at h; omega
    subst h;rw[List.drop_length,flats,runL] at hr;have:=hK σ3 ((t1.trans t2).trans t3) (by rw[hr]; exact hb3);rw[hr] at this; exact this
  clear hk2 hK hb hc;cases hv with
  |ef x=>
   refine Za rfl (Za rfl (Za rfl (Ze ?_)));refine Qs (row:=[.rptr (efC x) 0]) rfl rfl rfl ?_;have hB:=Yj σ1 (ABlk.box [.rptr (efC x) 0]);have hlt:σ1.length<(σ1++[ABlk.box [.rptr (efC x) 0]]).length:=by simp
   have kb:∀v2 σ2 vs,PtL vs (Pt.ef x).kids→Gr (σ1++[ABlk.box [.rptr (efC x) 0]]) 1 (vs.map one) vs.length v2 σ2→k2 [v2] σ2:=λv2 σ2 vs h1 h2=>kk v2 σ2 vs h1 h2.base;clear kk b1 t1;generalize σ1++[ABlk.box [.rptr (efC x) 0]]=τ at hB hlt kb ⊢;generalize σ1.length=c at hB hlt ⊢;refine Za rfl (Za (ld hB rfl) (Za rfl (Za rfl (Za (ldr (efLd0 _)) ?_))));refine Yd (c210 _) rfl g210_ok.plain rfl ?_;refine Yk λk14 hk14=>?_;have k1:∀v σ2 vs,PtL vs (if cntOp x.op then [.nm x.n] else [])→Gr τ 1 (vs.map one) vs.length v σ2→k14 [v] σ2:=by
    intro v σ2 vs hp hg;rw[hk14]; clear hk14 k14;have hB2:=hg.old hB (by simp);have hvl:vs.length≤1:=by rw[hp.length]; split<;>simp
    refine Za rfl (Za (ld hB2 rfl) (Za rfl (Za rfl (Za (ldr (efLd0 _)) (Za (Zf ..) ?_)))));refine Zc (λh=>?_) (λh=>?_);rotate_left
    ·have h:¬x.op=8:=by simpa using h
     refine kb _ _ vs ?_ hg;simp only[Pt.kids,if_neg h,List.append_nil]; exact hp
    have h:x.op=8:=by simpa using h
    have hkids:(Pt.ef x).kids=(if cntOp x.op then [.nm x.n] else [])++(.cn x.c::(x.thn.map .ef++x.els.map .ef)):=by simp only[Pt.kids,if_pos h]
    have hlen2:x.thn.length+x.els.length+1≤500000000:=by
     rw[hkids] at hkl;simp only[List.length_append,List.length_cons,List.length_map] at hkl;rw[hkids] at hN;omega
    refine Za rfl (Za (ld hB2 rfl) (Za rfl (Za rfl (Za rfl (Za rfl ?_)))));refine hg.put (cs:=[.iface 292 (.agg [.rptr (efC x) 7])]) rfl rfl rfl (by omega) (λv' σ' hg'=>?_);have hB3:=hg'.old hB (by simp);refine Za rfl (Za (ld hB3 rfl) (Za rfl (Za rfl (Za (ldr (Qp _)) ?_))));refine Za rfl (Za (ld hB3 rfl) (Za rfl (Za rfl (Za (ldr (Zq _)) ?_))));refine Za rfl ?_;refine QH 3 (Ym (Za rfl (Ze (Za rfl ?_))));refine Za (v:=iv x.thn.length) (rd:=[]) (by simp[Qf]) ?_;refine ZcH x.thn (by omega) hg' (λv3 σ3 w hg3=>?_);refine Za rfl (Ym (Za rfl (Ze (Za rfl ?_))));refine Za (v:=iv x.els.length) (rd:=[]) (by simp[Qf]) ?_;refine ZcH x.els (by omega) hg3 (λv4 σ4 w hg4=>?_);refine Za rfl (Ym (Za rfl (Xi ?_)));refine kb _ _ ((vs++[.iface 292 (.agg [.rptr (efC x) 7])])++(x.thn.map efPt).flatten++(x.els.map efPt).flatten) ?_ ?_
    ·rw[hkids];have:=efPtL (efPtL (PtL.snoc _ _ _ _ hp (.cn (efC x) 7 x.c (cnAt7 x))) x.thn) x.els;simpa using this
    ·have e1:((vs++[AVal.iface 292 (.agg [.rptr (efC x) 7])])++(x.thn.map efPt).flatten++(x.els.map efPt).flatten).map one=List.map one vs++[[AVal.iface 292 (.agg [.rptr (efC x) 7])]]++List.map efPt x.thn++List.map efPt x.els:=by
      rw[List.map_append,List.map_append,←Yat,←Yat,List.map_append]; rfl
     have e2:((vs++[AVal.iface 292 (.agg [.rptr (efC x) 7])])++(x.thn.map efPt).flatten++(x.els.map efPt).flatten).length=vs.length+1+x.thn.length+x.els.length:=by
      have l1:=congrArg List.length (Yat x.thn);have l2:=congrArg List.length (Yat x.els);simp only[List.length_map] at l1 l2;simp only[List.length_append,List.length_cons,List.length_nil,←l1,←l2]
     rw[e1,e2]; exact hg4
   clear hk14;refine Zc (λh=>?_) (λh=>?_)
   ·refine Za rfl (Za (ld hB rfl) (Za rfl (Za rfl (Za rfl (Za rfl ?_)))));refine(Gr.nil 1 τ).put (cs:=[.iface 290 (.agg [.rptr (efC x) 2])]) rfl rfl rfl (by omega) (λv' σ' hg'=>?_);refine k1 _ _ [.iface 290 (.agg [.rptr (efC x) 2])] ?_ hg';rw[if_pos h];exact PtL.snoc [] [] _ _ .nil (.nm (efC x) 2 x.n (nmAt2 x))
   ·refine k1 _ _ [] ?_ (Gr.nil 1 τ);rw[h]; exact .nil
  |nm row j x hx=>
   refine Za rfl (Za rfl (Za rfl (Xi ?_)));refine Za rfl (Za rfl (Za rfl (Ze ?_)));refine Qs (row:=[.rptr row j]) rfl rfl rfl ?_;have hB:=Yj σ1 (ABlk.box [.rptr row j]);have kb:∀v2 σ2 vs,PtL vs (Pt.nm x).kids→Gr (σ1++[ABlk.box [.rptr row j]]) 1 (vs.map one) vs.length v2 σ2→k2 [v2] σ2:=λv2 σ2 vs h1 h2=>kk v2 σ2 vs h1 h2.base;clear kk b1 t1;generalize σ1++[ABlk.box [.rptr row j]]=τ at hB kb ⊢;generalize σ1.length=c at hB ⊢;have hlen2:x.kids.length≤500000000:=by
    simp only[Pt.kids,List.length_map] at hkl hN; omega
   refine Za rfl (Za (ld hB rfl) (Za rfl (Za rfl (Za (ldr hx.h3) ?_))));refine Za (v:=iv x.kids.length) (rd:=[]) (by simp[Qf]) ?_;refine Qi (ι:=Nat) (λi vs s=>∃v,vs=[iv i,v]∧i≤x.kids.length∧Gr τ 1 ((x.kids.take i).map nmPt) i v s) (λi=>x.kids.length-i) 0 ⟨_,rfl,by omega,by simpa using Gr.nil 1 τ⟩ ?_;rintro i vs s again ⟨v,rfl,hi,hg⟩ hag;refine Za rfl (Zc (λh=>?_) (λh=>?_))
   ·have h:i<x.kids.length:=by simpa using h
    refine Za rfl (Za (ld (hg.old hB (by simp)) rfl) (Za rfl (Za rfl (Za (ldr hx.h3) ?_))));refine Za (Zn _ nmC _ _ _ x.kids _ i h) (Za rfl (Za rfl ?_));refine hg.put (cs:=nmPt x.kids[i]) rfl rfl rfl (by omega) (λv' σ' hg'=>?_);refine Za (Qj ..) ?_;rw[Qe (n:=i) (by omega)];refine hag (i+1) _ _ (by omega) ⟨v',rfl,by omega,?_⟩;rw[←Qv _ _ _ h]; exact hg'
   ·have h:i=x.kids.length:=by simp at h; omega
    subst h;rw[List.take_length] at hg;refine kb _ _ (x.kids.map nmPt).flatten ?_ ?_
    ·have:=nmPtL .nil x.kids;simpa[Pt.kids] using this
    ·have e1:=Zbq x.kids;have e2:=congrArg List.length e1;rw[←e1];simp only[List.length_map] at e2;rw[←e2]; exact hg
  |cn row j x hx=>
   refine Za rfl (Za rfl (Za rfl (Xi ?_)));refine Za rfl (Za rfl (Za rfl (Xi ?_)));refine Za rfl (Za rfl (Za rfl (Ze ?_)));refine Qs (row:=[.rptr row j]) rfl rfl rfl ?_;have hB:=Yj σ1 (ABlk.box [.rptr row j]);have kb:∀v2 σ2 vs,PtL vs (Pt.cn x).kids→Gr (σ1++[ABlk.box [.rptr row j]]) 1 (vs.map one) vs.length v2 σ2→k2 [v2] σ2:=λv2 σ2 vs h1 h2=>kk v2 σ2 vs h1 h2.base;clear kk b1 t1;generalize σ1++[ABlk.box [.rptr row j]]=τ at hB kb ⊢;generalize σ1.length=c at hB ⊢;have hlen2:x.nums.length+x.kids.length≤500000000:=by
    simp only[Pt.kids,List.length_map,List.length_append] at hkl hN; omega
   refine Za rfl (Za (ld hB rfl) (Za rfl (Za rfl (Za (ldr hx.h3) ?_))));refine Za (v:=iv x.nums.length) (rd:=[]) (by simp[Qf]) ?_;refine Qi (ι:=Nat) (λi vs s=>∃v,vs=[iv i,v]∧i≤x.nums.length∧Gr τ 1 ((x.nums.take i).map nmPt) i v s) (λi=>x.nums.length-i) 0 ⟨_,rfl,by omega,by simpa using Gr.nil 1 τ⟩ ?_;rintro i vs s again ⟨v,rfl,hi,hg⟩ hag;refine Za rfl (Zc (λh=>?_) (λh=>?_))
   ·have h:i<x.nums.length:=by simpa using h
    refine Za rfl (Za (ld (hg.old hB (by simp)) rfl) (Za rfl (Za rfl (Za (ldr hx.h3) ?_))));refine Za (Zn _ nmC _ _ _ x.nums _ i h) (Za rfl (Za rfl ?_));refine hg.put (cs:=nmPt x.nums[i]) rfl rfl rfl (by omega) (λv' σ' hg'=>?_);refine Za (Qj ..) ?_;rw[Qe (n:=i) (by omega)];refine hag (i+1) _ _ (by omega) ⟨v',rfl,by omega,?_⟩;rw[←Qv _ _ _ h]; exact hg'
   have h:i=x.nums.length:=by simp at h; omega
   subst h;rw[List.take_length] at hg;clear hag;refine Za rfl (Za (ld (hg.old hB (by simp)) rfl) (Za rfl (Za rfl (Za (ldr hx.h4) ?_))));refine Za (v:=iv x.kids.length) (rd:=[]) (by simp[Qf]) ?_;refine Qi (ι:=Nat) (λi vs s=>∃v,vs=[iv i,v]∧i≤x.kids.length∧Gr τ 1 (x.nums.map nmPt++(x.kids.take i).map cnPt) (x.nums.length+i) v s) (λi=>x.kids.length-i) 0 ⟨_,rfl,by omega,by simpa[h1,hdV,tlV] using hg⟩ ?_;clear hg;rintro i vs s again ⟨v,rfl,hi,hg⟩ hag;refine Za rfl (Zc (λh=>?_) (λh=>?_))
   ·have h:i<x.kids.length:=by simpa using h
    refine Za rfl (Za (ld (hg.old hB (by simp)) rfl) (Za rfl (Za rfl (Za (ldr hx.h4) ?_))));refine Za (Zn _ cnC _ _ _ x.kids _ i h) (Za rfl (Za rfl ?_));refine hg.put (cs:=cnPt x.kids[i]) rfl rfl rfl (by omega) (λv' σ' hg'=>?_);refine Za (Qj ..) ?_;rw[Qe (n:=i) (by omega)];refine hag (i+1) _ _ (by omega) ⟨v',rfl,by omega,?_⟩;rw[←Qv _ _ _ h,←List.append_assoc]; exact hg'
   ·have h:i=x.kids.length:=by simp at h; omega
    subst h;rw[List.take_length] at hg;refine kb _ _ ((x.nums.map nmPt).flatten++(x.kids.map cnPt).flatten) ?_ ?_
    ·have:=cnPtL (nmPtL .nil x.nums) x.kids;simpa[Pt.kids] using this
    ·have e1:((x.nums.map nmPt).flatten++(x.kids.map cnPt).flatten).map one=x.nums.map nmPt++x.kids.map cnPt:=by
      rw[List.map_append,←Zbq,←Xb5]
     have e2:=congrArg List.length e1;simp only[List.length_map,List.length_append] at e2;rw[e1,List.length_append,e2]; exact hg
end Go.Ah.Tz
end
section
namespace Go.Ah.Tz
open Go.Proofs.Tryz (prog)
mutual
theorem QcH:∀x:Nm,nmW x=min ((nmP x).length:Int) 1073741824
 |.mk op n who kids=>by
  simp only[nmW,nmP,List.length_cons]
  rw[ZbQ 1 kids (by omega) (by omega)]; omega
theorem ZbQ:∀(n:Int) (l:List Nm),0≤n→n≤1073741824→nmWs n l=min (n+((nmPs l).length:Int)) 1073741824
 |n,[],h1,h2=>by simp only[nmWs,nmPs,List.length_nil]; omega
 |n,x::l,h1,h2=>by
  simp only[nmWs,nmPs,List.length_append]
  rw[QcH x,ZbQ _ l (by omega) (by omega)]; omega
end
mutual
theorem YcC:∀x:Cn,cnW x=min ((cnP x).length:Int) 1073741824
 |.mk op who name nums kids=>by
  simp only[cnW,cnP,List.length_cons,List.length_append]
  rw[ZbQ 1 nums (by omega) (by omega),Zcb _ kids (by omega) (by omega)]; omega
theorem Zcb:∀(n:Int) (l:List Cn),0≤n→n≤1073741824→cnWs n l=min (n+((cnPs l).length:Int)) 1073741824
 |n,[],h1,h2=>by simp only[cnWs,cnPs,List.length_nil]; omega
 |n,x::l,h1,h2=>by
  simp only[cnWs,cnPs,List.length_append]
  rw[YcC x,Zcb _ l (by omega) (by omega)]; omega
end
mutual
theorem efW_P:∀(n:Int) (x:Ef),0≤n→n≤1073741824→efW n x=min (n+((efP x).length:Int)) 1073741824
 |n,.mk op who nn name c thn els,h1,h2=>by
  simp only[efW,efP,List.length_cons,List.length_append]
  rw[QcH nn,YcC c,ZaF 0 thn (by omega) (by omega),ZaF 0 els (by omega) (by omega)]
  generalize cntOp op=cb
  by_cases h:op=8
  ·simp only[if_pos h]
   cases cb<;>simp only[if_true,if_false,List.length_append,List.length_nil,Bool.false_eq_true]<;>omega
  ·simp only[if_neg h]
   cases cb<;>simp only[if_true,if_false,List.length_nil,Bool.false_eq_true]<;>omega
theorem ZaF:∀(n:Int) (l:List Ef),0≤n→n≤1073741824→efsW n l=min (n+((efPs l).length:Int)) 1073741824
 |n,[],h1,h2=>by simp only[efsW,efPs,List.length_nil]; omega
 |n,x::l,h1,h2=>by
  simp only[efsW,efPs,List.length_append]
  rw[efW_P n x h1 h2,ZaF _ l (by omega) (by omega)]; omega
end
def cdP(c:Cd):List Pt:=efPs c.played++(efPs c.dead++efPs c.dawn)
theorem cdW_P(c:Cd):cdW c=min ((cdP c).length:Int) 1073741824:=by
 rw[cdW,ZaF 0 _ (by omega) (by omega),ZaF 0 _ (by omega) (by omega),ZaF 0 _ (by omega) (by omega),cdP];simp only[List.length_append]; omega
attribute [local irreducible] Ans.rd Ans.pu Ans.wr Ans.dr Ans.gr Ans.gw Ans.gl Ans.gd Ans.opt joinK W
set_option maxHeartbeats 1000000
theorem XbM(l:List Ef):efPs l=flats (l.map .ef):=(Xae l).symm
theorem YbP{S:Type}{enc:S→List AVal}{step:S→Pt→S×Bool}{clo:AVal}{b:Nat}(hc:Clo clo b enc step)(l:List Ef)(hf:lsFit l=true)(hN:(efPs l).length≤500000000){s:S}{σ:List ABlk}(hb:hget σ b=.box (enc s)){R:List ABlk→Prop}{K:List AVal→List ABlk→Prop}
 (hR:∀σ',Bt b σ σ'→hget σ' b=.box (enc (runL step s (efPs l)).1)→(runL step s (efPs l)).2=false→R σ')(hK:∀w σ',Bt b σ σ'→hget σ' b=.box (enc (runL step s (efPs l)).1)→(runL step s (efPs l)).2=true→K w σ') :
  VV.loop (λag15 v16 σ=>VV.rd (Yh .lss false [(h0 v16),iv l.length] σ) λt26_17=>VV.test t26_17 (
   VV.rd (Yb 14 [efV l,(h0 v16)] σ) λt30_18=>VV.rd (Xf [.nilp] [(0,1)] [t30_18] σ) λt31_19=>VV.rd (Xz 272 [t31_19] σ) λt32_20=>
   VV.call (.call 208) [t32_20,clo] σ λt34_21 σ=>VV.rd (Qn .not [t34_21] σ) λt35_22=>VV.test t35_22 (R σ) (
   VV.rd (Yh .add false [(h0 v16),(.int .i64 1)] σ) λt36_23=>ag15 [t36_23] σ)) (K v16 σ)) [(.int .i64 0)] σ:=by
 have hl:=Zax (l.map .ef);rw[Xae,List.length_map] at hl;rw[XbM] at hR hK;refine Qi (ι:=Nat) (λi ws σ3=>∃s',ws=[iv i]∧i≤l.length∧hget σ3 b=.box (enc s')∧Bt b σ σ3∧runL step s (flats (l.map .ef))=runL step s' (flats ((l.drop i).map .ef))) (λi=>l.length-i) 0 ⟨s,rfl,by omega,hb,Bt.refl _ _,by simp⟩ ?_;rintro i ws σ3 again ⟨s',rfl,hi,hb3,t3,hr⟩ hag;refine Za rfl (Zc (λh=>?_) (λh=>?_))
 ·have h:i<l.length:=by simpa using h
  refine Za (Zn _ efC _ _ _ l _ i h) (Za rfl (Za rfl ?_));have hdr:l.drop i=l[i]::l.drop (i+1):=YLD h;rw[hdr,List.map_cons,flats,QZ] at hr;refine Qy hP rfl g208_ok rfl ?_;have hm:=Yax (l:=l.map .ef) (p:=.ef l[i]) (List.mem_map_of_mem (List.getElem_mem h));rw[Xae] at hm;refine c208 hc _ (.ef l[i]) (Nat.le_refl _) (YH hf (List.getElem_mem h)) (by omega) _ (.ef _) s' σ3 _ hb3 (λσ4 t4 b4=>?_);refine Za rfl (Zc (λh5=>?_) (λh5=>?_))
  ·have h5:(runL step s' (flat (.ef l[i]))).2=false:=by simpa using h5
   rw[h5] at hr;exact hR σ4 (t3.trans t4) (by rw[hr]; exact b4) (by rw[hr]; rfl)
  ·have h5:(runL step s' (flat (.ef l[i]))).2=true:=by simpa using h5
   rw[h5,if_pos rfl] at hr;refine Za (Qj ..) ?_;rw[Qe (n:=i) (by omega)];exact hag (i+1) _ _ (by omega) ⟨_,rfl,by omega,b4,t3.trans t4,hr⟩
 ·have h:i=l.length:=by simp at h; omega
  subst h;rw[List.drop_length,List.map_nil,flats,runL] at hr;exact hK _ σ3 t3 (by rw[hr]; exact hb3) (by rw[hr])
theorem c155{S:Type}{enc:S→List AVal}{step:S→Pt→S×Bool}{clo:AVal}{b:Nat}(hc:Clo clo b enc step)(c:Cd)(f1:lsFit c.played=true)(f2:lsFit c.dead=true)(f3:lsFit c.dawn=true)(hN:(cdP c).length≤500000000){s:S}{σ:List ABlk}{cb:Nat}(hcb:hget σ cb=.box (cdC c))(hb:hget σ b=.box (enc s)){K:AVal→List ABlk→Prop}
 (hK:∀σ',Bt b σ σ'→hget σ' b=.box (enc (runL step s (cdP c)).1)→K (.tup []) σ'):g155 VV [.bptr cb 0,clo] σ K:=by
 simp only[cdP,List.length_append] at hN;simp only[cdP,QZ] at hK;unfold g155;refine Za rfl (Za rfl (Za (ld hcb rfl) (Za rfl (Za rfl (Za (ld hcb rfl) (Za rfl (Za rfl (Za (ld hcb rfl) (Za rfl ?_)))))))));refine QH 4 (Ym (Za rfl (Ze (Za rfl ?_))));refine Za (v:=iv c.played.length) (rd:=[]) (by simp[Qf]) ?_;refine YbP hc c.played f1 (by omega) hb (λσ1 t1 b1 h1=>?_) (λw σ1 t1 b1 h1=>?_)
 ·rw[h1] at hK; exact hK σ1 t1 b1
 rw[h1,if_pos rfl] at hK;refine Za rfl (Ym (Za rfl (Ze (Za rfl ?_))));refine Za (v:=iv c.dead.length) (rd:=[]) (by simp[Qf]) ?_;refine YbP hc c.dead f2 (by omega) b1 (λσ2 t2 b2 h2=>?_) (λw σ2 t2 b2 h2=>?_)
 ·rw[h2] at hK; exact hK σ2 (t1.trans t2) b2
 rw[h2,if_pos rfl] at hK;refine Za rfl (Ym (Za rfl (Ze (Za rfl ?_))));refine Za (v:=iv c.dawn.length) (rd:=[]) (by simp[Qf]) ?_;refine YbP hc c.dawn f3 (by omega) b2 (λσ3 t3 b3 h3=>?_) (λw σ3 t3 b3 h3=>?_)
 ·exact hK σ3 ((t1.trans t2).trans t3) b3
 refine Za rfl (Ym (Za rfl (Xi ?_)));exact hK σ3 ((t1.trans t2).trans t3) b3
def cntS(n:Int)(_:Pt):Int×Bool:=(IntKind.i64.wrap (n+1),decide (IntKind.i64.wrap (n+1)<1073741824))
theorem YbS:∀(l:List Pt) (n:Int),0≤n→n+(l.length:Int)<1073741824→runL cntS n l=(n+(l.length:Int),true)
 |[],n,_,_=>by simp[runL]
 |p::l,n,h1,h2=>by
  simp only[List.length_cons] at h2;have hw:IntKind.i64.wrap (n+1)=n+1:=wrapI (by omega) (by omega);simp only[runL,cntS,hw];rw[if_pos (by simp; omega),YbS l (n+1) (by omega) (by omega),List.length_cons]
  congr 1; omega
theorem clo156(b:Nat):Clo (.func (.func 156) [] [.bptr b 0]) b (λn:Int=>[iv n]) cntS:=by
 intro p v hv s σ K hb hK;refine Qy hP rfl g156_ok rfl ?_;show g156 VV [v,.bptr b 0] σ K;unfold g156;have hlt:=Zo hb (by simp);refine Za (ld hb rfl) (Za (Qj ..) (Zh (stv hb rfl rfl rfl) (Ys _ hlt) ?_));have hb2:hget (σ.set b (.box [iv (IntKind.i64.wrap (s+1))])) b=.box [iv (IntKind.i64.wrap (s+1))]:=Xp _ hlt;refine Za (ld hb2 rfl) (Za (Xt ..) ?_);exact hK _ ⟨by simp,λc hc hne=>Yq _ hc hne⟩ hb2
theorem c124(c:Cd)(f1:lsFit c.played=true)(f2:lsFit c.dead=true)(f3:lsFit c.dawn=true)(hN:(cdP c).length≤500000000):PC 124 [.agg (cdC c)] (iv (cdW c)):=by
 refine Xd hP g124_ok rfl rfl ?_;unfold g124;refine Zh rfl rfl (Zh rfl rfl (Zh rfl rfl (Za rfl ?_)));refine Qy hP rfl g155_ok rfl ?_;refine c155 (clo156 1) c f1 f2 f3 hN (s:=0) rfl rfl (λσ' _ hb=>?_);rw[YbS _ 0 (by omega) (by omega)] at hb;refine Za (ld hb rfl) ?_;rw[cdW_P]
 congr 1; omega
end Go.Ah.Tz
end
