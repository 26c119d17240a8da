/- Part of the proof that ZoneApart holds of the program for arguments that together hold at most 1048576 values and letters; no other condition. -/
import Derived.Test.YtflcpnaigpgciaaGreatDoorQ4
set_option linter.all false
section
namespace Go.Ah.Tz
open Go.Proofs.Tryz (prog)
def zeroB(x:Ef):Bool:=((cntOp x.op || noNum x.n) && (decide (x.op=7) || x.name == [])) && (decide (x.op=8) || (decide (x.c.op=0) && (decide (x.c.who=0) && (x.c.name == [] && decide (x.c.nums.length + x.c.kids.length + x.thn.length + x.els.length=0)))))
attribute [local irreducible] Ans.rd Ans.pu Ans.wr Ans.dr Ans.gr Ans.gw Ans.gl Ans.gd Ans.opt joinK W
set_option maxHeartbeats 2000000
theorem c209(x:Ef)(hf:efFit x=true):PCall prog GL0 209 [.rptr (efC x) 0] (.bool (zeroB x)):=by
 have l1:=XN (ZY hf)
 have l2:=YN (ZY hf)
 have l3:=QB (YK hf)
 have l4:=QB (QJ hf)
 rw[bigE] at l1 l2 l3 l4
 rw[XF]
 refine Zf hP g209_ok rfl rfl ?_
 unfold g209
 repeat (first | refine Za (Zg ..) ?_ | refine Za (Qf ..) ?_ | refine Za (ldr (row:=[iv8 x.op,iv8 x.who,iv8 x.n.op,iv x.n.n,iv8 x.n.who,.rsl false false 4 (x.n.kids.map nmC),.str x.name,iv8 x.c.op,iv8 x.c.who,.str x.c.name,.rsl false false 4 (x.c.nums.map nmC),.rsl false false 5 (x.c.kids.map cnC),.rsl false false 14 (x.thn.map efC),.rsl false false 14 (x.els.map efC)]) rfl) ?_ | refine Za rfl ?_)
 refine Zd (c210 _) rfl g210_ok.plain rfl ?_
 have r1:∀ K:AVal→Prop,K (.bool (cntOp x.op || noNum x.n))→(W prog GL0).gr (AVal.bool (cntOp x.op)) false (fun k=>(W prog GL0).rd (Zj [(AVal.rptr [iv8 x.op,iv8 x.who,iv8 x.n.op,iv x.n.n,iv8 x.n.who,.rsl false false 4 (x.n.kids.map nmC),.str x.name,iv8 x.c.op,iv8 x.c.who,.str x.c.name,.rsl false false 4 (x.c.nums.map nmC),.rsl false false 5 (x.c.kids.map cnC),.rsl false false 14 (x.thn.map efC),.rsl false false 14 (x.els.map efC)] 0)] ([]:List ABlk)) k) fun t13_4=>(W prog GL0).gr (AVal.bool (cntOp x.op)) false (fun k=>(W prog GL0).rd (Xb [t13_4] ([]:List ABlk)) k) fun t14_5=>(W prog GL0).gr (AVal.bool (cntOp x.op)) false (fun k=>(W prog GL0).rd (Ya 2 [t14_5] ([]:List ABlk)) k) fun t15_6=>(W prog GL0).gr (AVal.bool (cntOp x.op)) false (fun k=>(W prog GL0).rd (Ya 0 [t15_6] ([]:List ABlk)) k) fun t16_7=>(W prog GL0).gr (AVal.bool (cntOp x.op)) false (fun k=>(W prog GL0).rd (Ze false 1 [t16_7] ([]:List ABlk)) k) fun t17_8=>(W prog GL0).gr (AVal.bool (cntOp x.op)) false (fun k=>(W prog GL0).rd (Qb .eql false [t17_8,(.int .i8 0)] ([]:List ABlk)) k) fun t18_9=>(W prog GL0).gr (AVal.bool (cntOp x.op)) false (fun k=>(W prog GL0).rd (Zj [t18_9] ([]:List ABlk)) k) fun t19_10=>(W prog GL0).gr t19_10 true (fun k=>(W prog GL0).rd (Zj [(AVal.rptr [iv8 x.op,iv8 x.who,iv8 x.n.op,iv x.n.n,iv8 x.n.who,.rsl false false 4 (x.n.kids.map nmC),.str x.name,iv8 x.c.op,iv8 x.c.who,.str x.c.name,.rsl false false 4 (x.c.nums.map nmC),.rsl false false 5 (x.c.kids.map cnC),.rsl false false 14 (x.thn.map efC),.rsl false false 14 (x.els.map efC)] 0)] ([]:List ABlk)) k) fun t20_11=>(W prog GL0).gr t19_10 true (fun k=>(W prog GL0).rd (Xb [t20_11] ([]:List ABlk)) k) fun t21_12=>(W prog GL0).gr t19_10 true (fun k=>(W prog GL0).rd (Ya 2 [t21_12] ([]:List ABlk)) k) fun t22_13=>(W prog GL0).gr t19_10 true (fun k=>(W prog GL0).rd (Ya 1 [t22_13] ([]:List ABlk)) k) fun t23_14=>(W prog GL0).gr t19_10 true (fun k=>(W prog GL0).rd (Ze false 1 [t23_14] ([]:List ABlk)) k) fun t24_15=>(W prog GL0).gr t19_10 true (fun k=>(W prog GL0).rd (Qb .eql false [t24_15,(.int .i64 0)] ([]:List ABlk)) k) fun t25_16=>(W prog GL0).gr (AVal.bool (cntOp x.op)) false (fun k=>(W prog GL0).rd (Qc [t19_10,t25_16,(.bool false)] ([]:List ABlk)) k) fun t26_17=>(W prog GL0).gr (AVal.bool (cntOp x.op)) false (fun k=>(W prog GL0).rd (Zj [t26_17] ([]:List ABlk)) k) fun t27_18=>(W prog GL0).gr t27_18 true (fun k=>(W prog GL0).rd (Zj [(AVal.rptr [iv8 x.op,iv8 x.who,iv8 x.n.op,iv x.n.n,iv8 x.n.who,.rsl false false 4 (x.n.kids.map nmC),.str x.name,iv8 x.c.op,iv8 x.c.who,.str x.c.name,.rsl false false 4 (x.c.nums.map nmC),.rsl false false 5 (x.c.kids.map cnC),.rsl false false 14 (x.thn.map efC),.rsl false false 14 (x.els.map efC)] 0)] ([]:List ABlk)) k) fun t28_19=>(W prog GL0).gr t27_18 true (fun k=>(W prog GL0).rd (Xb [t28_19] ([]:List ABlk)) k) fun t29_20=>(W prog GL0).gr t27_18 true (fun k=>(W prog GL0).rd (Ya 2 [t29_20] ([]:List ABlk)) k) fun t30_21=>(W prog GL0).gr t27_18 true (fun k=>(W prog GL0).rd (Ya 2 [t30_21] ([]:List ABlk)) k) fun t31_22=>(W prog GL0).gr t27_18 true (fun k=>(W prog GL0).rd (Ze false 1 [t31_22] ([]:List ABlk)) k) fun t32_23=>(W prog GL0).gr t27_18 true (fun k=>(W prog GL0).rd (Qb .eql false [t32_23,(.int .i8 0)] ([]:List ABlk)) k) fun t33_24=>(W prog GL0).gr (AVal.bool (cntOp x.op)) false (fun k=>(W prog GL0).rd (Qc [t27_18,t33_24,(.bool false)] ([]:List ABlk)) k) fun t34_25=>(W prog GL0).gr (AVal.bool (cntOp x.op)) false (fun k=>(W prog GL0).rd (Zj [t34_25] ([]:List ABlk)) k) fun t35_26=>(W prog GL0).gr t35_26 true (fun k=>(W prog GL0).rd (Zj [(AVal.rptr [iv8 x.op,iv8 x.who,iv8 x.n.op,iv x.n.n,iv8 x.n.who,.rsl false false 4 (x.n.kids.map nmC),.str x.name,iv8 x.c.op,iv8 x.c.who,.str x.c.name,.rsl false false 4 (x.c.nums.map nmC),.rsl false false 5 (x.c.kids.map cnC),.rsl false false 14 (x.thn.map efC),.rsl false false 14 (x.els.map efC)] 0)] ([]:List ABlk)) k) fun t36_27=>(W prog GL0).gr t35_26 true (fun k=>(W prog GL0).rd (Xb [t36_27] ([]:List ABlk)) k) fun t37_28=>(W prog GL0).gr t35_26 true (fun k=>(W prog GL0).rd (Ya 2 [t37_28] ([]:List ABlk)) k) fun t38_29=>(W prog GL0).gr t35_26 true (fun k=>(W prog GL0).rd (Ya 3 [t38_29] ([]:List ABlk)) k) fun t39_30=>(W prog GL0).gr t35_26 true (fun k=>(W prog GL0).rd (Ze false 1 [t39_30] ([]:List ABlk)) k) fun t40_31=>(W prog GL0).gr t35_26 true (fun k=>(W prog GL0).rd (Qg [t40_31] ([]:List ABlk)) k) fun t41_32=>(W prog GL0).gr t35_26 true (fun k=>(W prog GL0).rd (Qb .eql false [t41_32,(.int .i64 0)] ([]:List ABlk)) k) fun t42_33=>(W prog GL0).gr (AVal.bool (cntOp x.op)) false (fun k=>(W prog GL0).rd (Qc [t35_26,t42_33,(.bool false)] ([]:List ABlk)) k) fun t43_34=>(W prog GL0).rd (Qc [(AVal.bool (cntOp x.op)),(.bool true),t43_34] ([]:List ABlk)) K:=by
  intro K hK
  rcases Bool.eq_false_or_eq_true (cntOp x.op) with h0 | h0
  ·rw[h0] at hK ⊢
   repeat (first | refine Xa ?_ | refine Zb ?_ | refine Yb rfl ?_ | refine Yc rfl ?_ | refine Yd rfl ?_ | refine Qd rfl ?_ | refine Za (Zg ..) ?_ | refine Za (Qf ..) ?_ | refine Za (ldr (row:=[iv8 x.op,iv8 x.who,iv8 x.n.op,iv x.n.n,iv8 x.n.who,.rsl false false 4 (x.n.kids.map nmC),.str x.name,iv8 x.c.op,iv8 x.c.who,.str x.c.name,.rsl false false 4 (x.c.nums.map nmC),.rsl false false 5 (x.c.kids.map cnC),.rsl false false 14 (x.thn.map efC),.rsl false false 14 (x.els.map efC)]) rfl) ?_ | refine Za rfl ?_)
   exact hK
  rw[h0,Bool.false_or] at hK
  rw[h0]
  repeat (first | refine Xa ?_ | refine Zb ?_ | refine Za (Zg ..) ?_ | refine Za (Qf ..) ?_ | refine Za (ldr (row:=[iv8 x.op,iv8 x.who,iv8 x.n.op,iv x.n.n,iv8 x.n.who,.rsl false false 4 (x.n.kids.map nmC),.str x.name,iv8 x.c.op,iv8 x.c.who,.str x.c.name,.rsl false false 4 (x.c.nums.map nmC),.rsl false false 5 (x.c.kids.map cnC),.rsl false false 14 (x.thn.map efC),.rsl false false 14 (x.els.map efC)]) rfl) ?_ | refine Za rfl ?_)
  rcases Bool.eq_false_or_eq_true (decide (x.n.op=0)) with h1 | h1
  rotate_left
  ·rw[h1]
   repeat (first | refine Xa ?_ | refine Zb ?_ | refine Yb rfl ?_ | refine Yc rfl ?_ | refine Yd rfl ?_ | refine Qd rfl ?_ | refine Za (Zg ..) ?_ | refine Za (Qf ..) ?_ | refine Za (ldr (row:=[iv8 x.op,iv8 x.who,iv8 x.n.op,iv x.n.n,iv8 x.n.who,.rsl false false 4 (x.n.kids.map nmC),.str x.name,iv8 x.c.op,iv8 x.c.who,.str x.c.name,.rsl false false 4 (x.c.nums.map nmC),.rsl false false 5 (x.c.kids.map cnC),.rsl false false 14 (x.thn.map efC),.rsl false false 14 (x.els.map efC)]) rfl) ?_ | refine Za rfl ?_)
   rw[show noNum x.n=false by simp at h1; simp[noNum,h1]] at hK
   exact hK
  rw[h1]
  repeat (first | refine Xa ?_ | refine Zb ?_ | refine Za (Zg ..) ?_ | refine Za (Qf ..) ?_ | refine Za (ldr (row:=[iv8 x.op,iv8 x.who,iv8 x.n.op,iv x.n.n,iv8 x.n.who,.rsl false false 4 (x.n.kids.map nmC),.str x.name,iv8 x.c.op,iv8 x.c.who,.str x.c.name,.rsl false false 4 (x.c.nums.map nmC),.rsl false false 5 (x.c.kids.map cnC),.rsl false false 14 (x.thn.map efC),.rsl false false 14 (x.els.map efC)]) rfl) ?_ | refine Za rfl ?_)
  rcases Bool.eq_false_or_eq_true (decide (x.n.n=0)) with h2 | h2
  rotate_left
  ·rw[h2]
   repeat (first | refine Xa ?_ | refine Zb ?_ | refine Yb rfl ?_ | refine Yc rfl ?_ | refine Yd rfl ?_ | refine Qd rfl ?_ | refine Za (Zg ..) ?_ | refine Za (Qf ..) ?_ | refine Za (ldr (row:=[iv8 x.op,iv8 x.who,iv8 x.n.op,iv x.n.n,iv8 x.n.who,.rsl false false 4 (x.n.kids.map nmC),.str x.name,iv8 x.c.op,iv8 x.c.who,.str x.c.name,.rsl false false 4 (x.c.nums.map nmC),.rsl false false 5 (x.c.kids.map cnC),.rsl false false 14 (x.thn.map efC),.rsl false false 14 (x.els.map efC)]) rfl) ?_ | refine Za rfl ?_)
   rw[show noNum x.n=false by simp at h2; simp[noNum,h2]] at hK
   exact hK
  rw[h2]
  repeat (first | refine Xa ?_ | refine Zb ?_ | refine Za (Zg ..) ?_ | refine Za (Qf ..) ?_ | refine Za (ldr (row:=[iv8 x.op,iv8 x.who,iv8 x.n.op,iv x.n.n,iv8 x.n.who,.rsl false false 4 (x.n.kids.map nmC),.str x.name,iv8 x.c.op,iv8 x.c.who,.str x.c.name,.rsl false false 4 (x.c.nums.map nmC),.rsl false false 5 (x.c.kids.map cnC),.rsl false false 14 (x.thn.map efC),.rsl false false 14 (x.els.map efC)]) rfl) ?_ | refine Za rfl ?_)
  rcases Bool.eq_false_or_eq_true (decide (x.n.who=0)) with h3 | h3
  rotate_left
  ·rw[h3]
   repeat (first | refine Xa ?_ | refine Zb ?_ | refine Yb rfl ?_ | refine Yc rfl ?_ | refine Yd rfl ?_ | refine Qd rfl ?_ | refine Za (Zg ..) ?_ | refine Za (Qf ..) ?_ | refine Za (ldr (row:=[iv8 x.op,iv8 x.who,iv8 x.n.op,iv x.n.n,iv8 x.n.who,.rsl false false 4 (x.n.kids.map nmC),.str x.name,iv8 x.c.op,iv8 x.c.who,.str x.c.name,.rsl false false 4 (x.c.nums.map nmC),.rsl false false 5 (x.c.kids.map cnC),.rsl false false 14 (x.thn.map efC),.rsl false false 14 (x.els.map efC)]) rfl) ?_ | refine Za rfl ?_)
   rw[show noNum x.n=false by simp at h3; simp[noNum,h3]] at hK
   exact hK
  rw[h3]
  repeat (first | refine Xa ?_ | refine Zb ?_ | refine Za (Zg ..) ?_ | refine Za (Qf ..) ?_ | refine Za (ldr (row:=[iv8 x.op,iv8 x.who,iv8 x.n.op,iv x.n.n,iv8 x.n.who,.rsl false false 4 (x.n.kids.map nmC),.str x.name,iv8 x.c.op,iv8 x.c.who,.str x.c.name,.rsl false false 4 (x.c.nums.map nmC),.rsl false false 5 (x.c.kids.map cnC),.rsl false false 14 (x.thn.map efC),.rsl false false 14 (x.els.map efC)]) rfl) ?_ | refine Za rfl ?_)
  have e:noNum x.n=decide (((x.n.kids.map nmC).length:Int)=0):=by
   rw[Bool.eq_iff_iff]; simp at h1 h2 h3; simp[noNum,h1,h2,h3]
  rw[e] at hK
  exact hK
 refine r1 _ ?_
 clear r1
 repeat (first | refine Za (Zg ..) ?_ | refine Za (Qf ..) ?_ | refine Za (ldr (row:=[iv8 x.op,iv8 x.who,iv8 x.n.op,iv x.n.n,iv8 x.n.who,.rsl false false 4 (x.n.kids.map nmC),.str x.name,iv8 x.c.op,iv8 x.c.who,.str x.c.name,.rsl false false 4 (x.c.nums.map nmC),.rsl false false 5 (x.c.kids.map cnC),.rsl false false 14 (x.thn.map efC),.rsl false false 14 (x.els.map efC)]) rfl) ?_ | refine Za rfl ?_)
 have r2:∀ K:AVal→Prop,K (.bool (decide (x.op=7) || x.name == []))→(W prog GL0).gr (AVal.bool (decide (x.op=7))) false (fun k=>(W prog GL0).rd (Zj [(AVal.rptr [iv8 x.op,iv8 x.who,iv8 x.n.op,iv x.n.n,iv8 x.n.who,.rsl false false 4 (x.n.kids.map nmC),.str x.name,iv8 x.c.op,iv8 x.c.who,.str x.c.name,.rsl false false 4 (x.c.nums.map nmC),.rsl false false 5 (x.c.kids.map cnC),.rsl false false 14 (x.thn.map efC),.rsl false false 14 (x.els.map efC)] 0)] ([]:List ABlk)) k) fun t51_40=>(W prog GL0).gr (AVal.bool (decide (x.op=7))) false (fun k=>(W prog GL0).rd (Xb [t51_40] ([]:List ABlk)) k) fun t52_41=>(W prog GL0).gr (AVal.bool (decide (x.op=7))) false (fun k=>(W prog GL0).rd (Ya 6 [t52_41] ([]:List ABlk)) k) fun t53_42=>(W prog GL0).gr (AVal.bool (decide (x.op=7))) false (fun k=>(W prog GL0).rd (Ze false 1 [t53_42] ([]:List ABlk)) k) fun t54_43=>(W prog GL0).gr (AVal.bool (decide (x.op=7))) false (fun k=>(W prog GL0).rd (Qb .eql false [t54_43,(.str [])] ([]:List ABlk)) k) fun t55_44=>(W prog GL0).rd (Qc [(AVal.bool (decide (x.op=7))),(.bool true),t55_44] ([]:List ABlk)) K:=by
  intro K hK
  rcases Bool.eq_false_or_eq_true (decide (x.op=7)) with h0 | h0
  ·rw[h0] at hK ⊢
   repeat (first | refine Xa ?_ | refine Zb ?_ | refine Yb rfl ?_ | refine Yc rfl ?_ | refine Yd rfl ?_ | refine Qd rfl ?_ | refine Za (Zg ..) ?_ | refine Za (Qf ..) ?_ | refine Za (ldr (row:=[iv8 x.op,iv8 x.who,iv8 x.n.op,iv x.n.n,iv8 x.n.who,.rsl false false 4 (x.n.kids.map nmC),.str x.name,iv8 x.c.op,iv8 x.c.who,.str x.c.name,.rsl false false 4 (x.c.nums.map nmC),.rsl false false 5 (x.c.kids.map cnC),.rsl false false 14 (x.thn.map efC),.rsl false false 14 (x.els.map efC)]) rfl) ?_ | refine Za rfl ?_)
   exact hK
  rw[h0,Bool.false_or] at hK
  rw[h0]
  repeat (first | refine Xa ?_ | refine Zb ?_ | refine Za (Zg ..) ?_ | refine Za (Qf ..) ?_ | refine Za (ldr (row:=[iv8 x.op,iv8 x.who,iv8 x.n.op,iv x.n.n,iv8 x.n.who,.rsl false false 4 (x.n.kids.map nmC),.str x.name,iv8 x.c.op,iv8 x.c.who,.str x.c.name,.rsl false false 4 (x.c.nums.map nmC),.rsl false false 5 (x.c.kids.map cnC),.rsl false false 14 (x.thn.map efC),.rsl false false 14 (x.els.map efC)]) rfl) ?_ | refine Za rfl ?_)
  exact hK
 refine r2 _ ?_
 clear r2
 repeat (first | refine Za (Zg ..) ?_ | refine Za (Qf ..) ?_ | refine Za (ldr (row:=[iv8 x.op,iv8 x.who,iv8 x.n.op,iv x.n.n,iv8 x.n.who,.rsl false false 4 (x.n.kids.map nmC),.str x.name,iv8 x.c.op,iv8 x.c.who,.str x.c.name,.rsl false false 4 (x.c.nums.map nmC),.rsl false false 5 (x.c.kids.map cnC),.rsl false false 14 (x.thn.map efC),.rsl false false 14 (x.els.map efC)]) rfl) ?_ | refine Za rfl ?_)
 have r3:∀ K:AVal→Prop,K (.bool (decide (x.op=8) || (decide (x.c.op=0) && (decide (x.c.who=0) && (x.c.name == [] && decide (x.c.nums.length + x.c.kids.length + x.thn.length + x.els.length=0))))))→(W prog GL0).gr (AVal.bool (decide (x.op=8))) false (fun k=>(W prog GL0).rd (Zj [(AVal.rptr [iv8 x.op,iv8 x.who,iv8 x.n.op,iv x.n.n,iv8 x.n.who,.rsl false false 4 (x.n.kids.map nmC),.str x.name,iv8 x.c.op,iv8 x.c.who,.str x.c.name,.rsl false false 4 (x.c.nums.map nmC),.rsl false false 5 (x.c.kids.map cnC),.rsl false false 14 (x.thn.map efC),.rsl false false 14 (x.els.map efC)] 7)] ([]:List ABlk)) k) fun t66_52=>(W prog GL0).gr (AVal.bool (decide (x.op=8))) false (fun k=>(W prog GL0).rd (Xb [t66_52] ([]:List ABlk)) k) fun t67_53=>(W prog GL0).gr (AVal.bool (decide (x.op=8))) false (fun k=>(W prog GL0).rd (Ya 0 [t67_53] ([]:List ABlk)) k) fun t68_54=>(W prog GL0).gr (AVal.bool (decide (x.op=8))) false (fun k=>(W prog GL0).rd (Ze false 1 [t68_54] ([]:List ABlk)) k) fun t69_55=>(W prog GL0).gr (AVal.bool (decide (x.op=8))) false (fun k=>(W prog GL0).rd (Qb .eql false [t69_55,(.int .i8 0)] ([]:List ABlk)) k) fun t70_56=>(W prog GL0).gr (AVal.bool (decide (x.op=8))) false (fun k=>(W prog GL0).rd (Zj [t70_56] ([]:List ABlk)) k) fun t71_57=>(W prog GL0).gr t71_57 true (fun k=>(W prog GL0).rd (Zj [(AVal.rptr [iv8 x.op,iv8 x.who,iv8 x.n.op,iv x.n.n,iv8 x.n.who,.rsl false false 4 (x.n.kids.map nmC),.str x.name,iv8 x.c.op,iv8 x.c.who,.str x.c.name,.rsl false false 4 (x.c.nums.map nmC),.rsl false false 5 (x.c.kids.map cnC),.rsl false false 14 (x.thn.map efC),.rsl false false 14 (x.els.map efC)] 7)] ([]:List ABlk)) k) fun t72_58=>(W prog GL0).gr t71_57 true (fun k=>(W prog GL0).rd (Xb [t72_58] ([]:List ABlk)) k) fun t73_59=>(W prog GL0).gr t71_57 true (fun k=>(W prog GL0).rd (Ya 1 [t73_59] ([]:List ABlk)) k) fun t74_60=>(W prog GL0).gr t71_57 true (fun k=>(W prog GL0).rd (Ze false 1 [t74_60] ([]:List ABlk)) k) fun t75_61=>(W prog GL0).gr t71_57 true (fun k=>(W prog GL0).rd (Qb .eql false [t75_61,(.int .i8 0)] ([]:List ABlk)) k) fun t76_62=>(W prog GL0).gr (AVal.bool (decide (x.op=8))) false (fun k=>(W prog GL0).rd (Qc [t71_57,t76_62,(.bool false)] ([]:List ABlk)) k) fun t77_63=>(W prog GL0).gr (AVal.bool (decide (x.op=8))) false (fun k=>(W prog GL0).rd (Zj [t77_63] ([]:List ABlk)) k) fun t78_64=>(W prog GL0).gr t78_64 true (fun k=>(W prog GL0).rd (Zj [(AVal.rptr [iv8 x.op,iv8 x.who,iv8 x.n.op,iv x.n.n,iv8 x.n.who,.rsl false false 4 (x.n.kids.map nmC),.str x.name,iv8 x.c.op,iv8 x.c.who,.str x.c.name,.rsl false false 4 (x.c.nums.map nmC),.rsl false false 5 (x.c.kids.map cnC),.rsl false false 14 (x.thn.map efC),.rsl false false 14 (x.els.map efC)] 7)] ([]:List ABlk)) k) fun t79_65=>(W prog GL0).gr t78_64 true (fun k=>(W prog GL0).rd (Xb [t79_65] ([]:List ABlk)) k) fun t80_66=>(W prog GL0).gr t78_64 true (fun k=>(W prog GL0).rd (Ya 2 [t80_66] ([]:List ABlk)) k) fun t81_67=>(W prog GL0).gr t78_64 true (fun k=>(W prog GL0).rd (Ze false 1 [t81_67] ([]:List ABlk)) k) fun t82_68=>(W prog GL0).gr t78_64 true (fun k=>(W prog GL0).rd (Qb .eql false [t82_68,(.str [])] ([]:List ABlk)) k) fun t83_69=>(W prog GL0).gr (AVal.bool (decide (x.op=8))) false (fun k=>(W prog GL0).rd (Qc [t78_64,t83_69,(.bool false)] ([]:List ABlk)) k) fun t84_70=>(W prog GL0).gr (AVal.bool (decide (x.op=8))) false (fun k=>(W prog GL0).rd (Zj [t84_70] ([]:List ABlk)) k) fun t85_71=>(W prog GL0).gr t85_71 true (fun k=>(W prog GL0).rd (Zj [(AVal.rptr [iv8 x.op,iv8 x.who,iv8 x.n.op,iv x.n.n,iv8 x.n.who,.rsl false false 4 (x.n.kids.map nmC),.str x.name,iv8 x.c.op,iv8 x.c.who,.str x.c.name,.rsl false false 4 (x.c.nums.map nmC),.rsl false false 5 (x.c.kids.map cnC),.rsl false false 14 (x.thn.map efC),.rsl false false 14 (x.els.map efC)] 7)] ([]:List ABlk)) k) fun t86_72=>(W prog GL0).gr t85_71 true (fun k=>(W prog GL0).rd (Xb [t86_72] ([]:List ABlk)) k) fun t87_73=>(W prog GL0).gr t85_71 true (fun k=>(W prog GL0).rd (Ya 3 [t87_73] ([]:List ABlk)) k) fun t88_74=>(W prog GL0).gr t85_71 true (fun k=>(W prog GL0).rd (Ze false 1 [t88_74] ([]:List ABlk)) k) fun t89_75=>(W prog GL0).gr t85_71 true (fun k=>(W prog GL0).rd (Qg [t89_75] ([]:List ABlk)) k) fun t90_76=>(W prog GL0).gr t85_71 true (fun k=>(W prog GL0).rd (Zj [(AVal.rptr [iv8 x.op,iv8 x.who,iv8 x.n.op,iv x.n.n,iv8 x.n.who,.rsl false false 4 (x.n.kids.map nmC),.str x.name,iv8 x.c.op,iv8 x.c.who,.str x.c.name,.rsl false false 4 (x.c.nums.map nmC),.rsl false false 5 (x.c.kids.map cnC),.rsl false false 14 (x.thn.map efC),.rsl false false 14 (x.els.map efC)] 7)] ([]:List ABlk)) k) fun t91_77=>(W prog GL0).gr t85_71 true (fun k=>(W prog GL0).rd (Xb [t91_77] ([]:List ABlk)) k) fun t92_78=>(W prog GL0).gr t85_71 true (fun k=>(W prog GL0).rd (Ya 4 [t92_78] ([]:List ABlk)) k) fun t93_79=>(W prog GL0).gr t85_71 true (fun k=>(W prog GL0).rd (Ze false 1 [t93_79] ([]:List ABlk)) k) fun t94_80=>(W prog GL0).gr t85_71 true (fun k=>(W prog GL0).rd (Qg [t94_80] ([]:List ABlk)) k) fun t95_81=>(W prog GL0).gr t85_71 true (fun k=>(W prog GL0).rd (Qb .add false [t90_76,t95_81] ([]:List ABlk)) k) fun t96_82=>(W prog GL0).gr t85_71 true (fun k=>(W prog GL0).rd (Zj [(AVal.rptr [iv8 x.op,iv8 x.who,iv8 x.n.op,iv x.n.n,iv8 x.n.who,.rsl false false 4 (x.n.kids.map nmC),.str x.name,iv8 x.c.op,iv8 x.c.who,.str x.c.name,.rsl false false 4 (x.c.nums.map nmC),.rsl false false 5 (x.c.kids.map cnC),.rsl false false 14 (x.thn.map efC),.rsl false false 14 (x.els.map efC)] 0)] ([]:List ABlk)) k) fun t97_83=>(W prog GL0).gr t85_71 true (fun k=>(W prog GL0).rd (Xb [t97_83] ([]:List ABlk)) k) fun t98_84=>(W prog GL0).gr t85_71 true (fun k=>(W prog GL0).rd (Ya 12 [t98_84] ([]:List ABlk)) k) fun t99_85=>(W prog GL0).gr t85_71 true (fun k=>(W prog GL0).rd (Ze false 1 [t99_85] ([]:List ABlk)) k) fun t100_86=>(W prog GL0).gr t85_71 true (fun k=>(W prog GL0).rd (Qg [t100_86] ([]:List ABlk)) k) fun t101_87=>(W prog GL0).gr t85_71 true (fun k=>(W prog GL0).rd (Qb .add false [t96_82,t101_87] ([]:List ABlk)) k) fun t102_88=>(W prog GL0).gr t85_71 true (fun k=>(W prog GL0).rd (Zj [(AVal.rptr [iv8 x.op,iv8 x.who,iv8 x.n.op,iv x.n.n,iv8 x.n.who,.rsl false false 4 (x.n.kids.map nmC),.str x.name,iv8 x.c.op,iv8 x.c.who,.str x.c.name,.rsl false false 4 (x.c.nums.map nmC),.rsl false false 5 (x.c.kids.map cnC),.rsl false false 14 (x.thn.map efC),.rsl false false 14 (x.els.map efC)] 0)] ([]:List ABlk)) k) fun t103_89=>(W prog GL0).gr t85_71 true (fun k=>(W prog GL0).rd (Xb [t103_89] ([]:List ABlk)) k) fun t104_90=>(W prog GL0).gr t85_71 true (fun k=>(W prog GL0).rd (Ya 13 [t104_90] ([]:List ABlk)) k) fun t105_91=>(W prog GL0).gr t85_71 true (fun k=>(W prog GL0).rd (Ze false 1 [t105_91] ([]:List ABlk)) k) fun t106_92=>(W prog GL0).gr t85_71 true (fun k=>(W prog GL0).rd (Qg [t106_92] ([]:List ABlk)) k) fun t107_93=>(W prog GL0).gr t85_71 true (fun k=>(W prog GL0).rd (Qb .add false [t102_88,t107_93] ([]:List ABlk)) k) fun t108_94=>(W prog GL0).gr t85_71 true (fun k=>(W prog GL0).rd (Qb .eql false [t108_94,(.int .i64 0)] ([]:List ABlk)) k) fun t109_95=>(W prog GL0).gr (AVal.bool (decide (x.op=8))) false (fun k=>(W prog GL0).rd (Qc [t85_71,t109_95,(.bool false)] ([]:List ABlk)) k) fun t110_96=>(W prog GL0).rd (Qc [(AVal.bool (decide (x.op=8))),(.bool true),t110_96] ([]:List ABlk)) K:=by
  intro K hK
  rcases Bool.eq_false_or_eq_true (decide (x.op=8)) with h0 | h0
  ·rw[h0] at hK ⊢
   repeat (first | refine Xa ?_ | refine Zb ?_ | refine Yb rfl ?_ | refine Yc rfl ?_ | refine Yd rfl ?_ | refine Qd rfl ?_ | refine Za (Zg ..) ?_ | refine Za (Qf ..) ?_ | refine Za (ldr (row:=[iv8 x.op,iv8 x.who,iv8 x.n.op,iv x.n.n,iv8 x.n.who,.rsl false false 4 (x.n.kids.map nmC),.str x.name,iv8 x.c.op,iv8 x.c.who,.str x.c.name,.rsl false false 4 (x.c.nums.map nmC),.rsl false false 5 (x.c.kids.map cnC),.rsl false false 14 (x.thn.map efC),.rsl false false 14 (x.els.map efC)]) rfl) ?_ | refine Za rfl ?_)
   exact hK
  rw[h0,Bool.false_or] at hK
  rw[h0]
  repeat (first | refine Xa ?_ | refine Zb ?_ | refine Za (Zg ..) ?_ | refine Za (Qf ..) ?_ | refine Za (ldr (row:=[iv8 x.op,iv8 x.who,iv8 x.n.op,iv x.n.n,iv8 x.n.who,.rsl false false 4 (x.n.kids.map nmC),.str x.name,iv8 x.c.op,iv8 x.c.who,.str x.c.name,.rsl false false 4 (x.c.nums.map nmC),.rsl false false 5 (x.c.kids.map cnC),.rsl false false 14 (x.thn.map efC),.rsl false false 14 (x.els.map efC)]) rfl) ?_ | refine Za rfl ?_)
  rcases Bool.eq_false_or_eq_true (decide (x.c.op=0)) with h1 | h1
  rotate_left
  ·rw[h1]
   repeat (first | refine Xa ?_ | refine Zb ?_ | refine Yb rfl ?_ | refine Yc rfl ?_ | refine Yd rfl ?_ | refine Qd rfl ?_ | refine Za (Zg ..) ?_ | refine Za (Qf ..) ?_ | refine Za (ldr (row:=[iv8 x.op,iv8 x.who,iv8 x.n.op,iv x.n.n,iv8 x.n.who,.rsl false false 4 (x.n.kids.map nmC),.str x.name,iv8 x.c.op,iv8 x.c.who,.str x.c.name,.rsl false false 4 (x.c.nums.map nmC),.rsl false false 5 (x.c.kids.map cnC),.rsl false false 14 (x.thn.map efC),.rsl false false 14 (x.els.map efC)]) rfl) ?_ | refine Za rfl ?_)
   rw[h1] at hK
   exact hK
  rw[h1]
  repeat (first | refine Xa ?_ | refine Zb ?_ | refine Za (Zg ..) ?_ | refine Za (Qf ..) ?_ | refine Za (ldr (row:=[iv8 x.op,iv8 x.who,iv8 x.n.op,iv x.n.n,iv8 x.n.who,.rsl false false 4 (x.n.kids.map nmC),.str x.name,iv8 x.c.op,iv8 x.c.who,.str x.c.name,.rsl false false 4 (x.c.nums.map nmC),.rsl false false 5 (x.c.kids.map cnC),.rsl false false 14 (x.thn.map efC),.rsl false false 14 (x.els.map efC)]) rfl) ?_ | refine Za rfl ?_)
  rcases Bool.eq_false_or_eq_true (decide (x.c.who=0)) with h2 | h2
  rotate_left
  ·rw[h2]
   repeat (first | refine Xa ?_ | refine Zb ?_ | refine Yb rfl ?_ | refine Yc rfl ?_ | refine Yd rfl ?_ | refine Qd rfl ?_ | refine Za (Zg ..) ?_ | refine Za (Qf ..) ?_ | refine Za (ldr (row:=[iv8 x.op,iv8 x.who,iv8 x.n.op,iv x.n.n,iv8 x.n.who,.rsl false false 4 (x.n.kids.map nmC),.str x.name,iv8 x.c.op,iv8 x.c.who,.str x.c.name,.rsl false false 4 (x.c.nums.map nmC),.rsl false false 5 (x.c.kids.map cnC),.rsl false false 14 (x.thn.map efC),.rsl false false 14 (x.els.map efC)]) rfl) ?_ | refine Za rfl ?_)
   rw[h1,h2] at hK
   exact hK
  rw[h2]
  repeat (first | refine Xa ?_ | refine Zb ?_ | refine Za (Zg ..) ?_ | refine Za (Qf ..) ?_ | refine Za (ldr (row:=[iv8 x.op,iv8 x.who,iv8 x.n.op,iv x.n.n,iv8 x.n.who,.rsl false false 4 (x.n.kids.map nmC),.str x.name,iv8 x.c.op,iv8 x.c.who,.str x.c.name,.rsl false false 4 (x.c.nums.map nmC),.rsl false false 5 (x.c.kids.map cnC),.rsl false false 14 (x.thn.map efC),.rsl false false 14 (x.els.map efC)]) rfl) ?_ | refine Za rfl ?_)
  rcases Bool.eq_false_or_eq_true (x.c.name == []) with h3 | h3
  rotate_left
  ·rw[h3]
   repeat (first | refine Xa ?_ | refine Zb ?_ | refine Yb rfl ?_ | refine Yc rfl ?_ | refine Yd rfl ?_ | refine Qd rfl ?_ | refine Za (Zg ..) ?_ | refine Za (Qf ..) ?_ | refine Za (ldr (row:=[iv8 x.op,iv8 x.who,iv8 x.n.op,iv x.n.n,iv8 x.n.who,.rsl false false 4 (x.n.kids.map nmC),.str x.name,iv8 x.c.op,iv8 x.c.who,.str x.c.name,.rsl false false 4 (x.c.nums.map nmC),.rsl false false 5 (x.c.kids.map cnC),.rsl false false 14 (x.thn.map efC),.rsl false false 14 (x.els.map efC)]) rfl) ?_ | refine Za rfl ?_)
   rw[h1,h2,h3] at hK
   exact hK
  rw[h3]
  repeat (first | refine Xa ?_ | refine Zb ?_ | refine Za (Zg ..) ?_ | refine Za (Qf ..) ?_ | refine Za (ldr (row:=[iv8 x.op,iv8 x.who,iv8 x.n.op,iv x.n.n,iv8 x.n.who,.rsl false false 4 (x.n.kids.map nmC),.str x.name,iv8 x.c.op,iv8 x.c.who,.str x.c.name,.rsl false false 4 (x.c.nums.map nmC),.rsl false false 5 (x.c.kids.map cnC),.rsl false false 14 (x.thn.map efC),.rsl false false 14 (x.els.map efC)]) rfl) ?_ | refine Za rfl ?_)
  rw[h1,h2,h3,Bool.true_and,Bool.true_and,Bool.true_and] at hK
  rw[List.length_map,List.length_map,List.length_map,List.length_map,wrapI (n:=(x.c.nums.length:Int) + x.c.kids.length) (by omega) (by omega),wrapI (n:=(x.c.nums.length:Int) + x.c.kids.length + x.thn.length) (by omega) (by omega),wrapI (n:=(x.c.nums.length:Int) + x.c.kids.length + x.thn.length + x.els.length) (by omega) (by omega)]
  rw[show decide ((x.c.nums.length:Int) + x.c.kids.length + x.thn.length + x.els.length=0)=decide (x.c.nums.length + x.c.kids.length + x.thn.length + x.els.length=0) by rw[Bool.eq_iff_iff,decide_eq_true_eq,decide_eq_true_eq]; omega]
  exact hK
 refine r3 _ ?_
 clear r3
 unfold zeroB
 generalize (cntOp x.op || noNum x.n)=b1
 generalize (decide (x.op=7) || x.name == [])=b2
 generalize (decide (x.op=8) || (decide (x.c.op=0) && (decide (x.c.who=0) && (x.c.name == [] && decide (x.c.nums.length + x.c.kids.length + x.thn.length + x.els.length=0)))))=b3
 cases b1 <;> cases b2
 all_goals (repeat (first | refine Xa ?_ | refine Zb ?_ | refine Yb rfl ?_ | refine Yc rfl ?_ | refine Yd rfl ?_ | refine Qd rfl ?_ | refine Za (Zg ..) ?_ | refine Za (Qf ..) ?_ | refine Za (ldr (row:=[iv8 x.op,iv8 x.who,iv8 x.n.op,iv x.n.n,iv8 x.n.who,.rsl false false 4 (x.n.kids.map nmC),.str x.name,iv8 x.c.op,iv8 x.c.who,.str x.c.name,.rsl false false 4 (x.c.nums.map nmC),.rsl false false 5 (x.c.kids.map cnC),.rsl false false 14 (x.thn.map efC),.rsl false false 14 (x.els.map efC)]) rfl) ?_ | refine Za rfl ?_))
 all_goals rfl
end Go.Ah.Tz
end
section
namespace Go.Ah.Tz
open Go.Proofs.Tryz (prog)
def efArm(cs:List Cd)(t:Bool)(d:Int)(x:Ef):Bool:=
 if x.op=0∨x.op=1 then sdOp x.who || (decide (x.who=2) && t)
 else if x.op=2∨x.op=4∨x.op=6 then sdOp x.who
 else if x.op=3∨x.op=5 then decide (x.who=0)
 else if x.op=7 then decide (x.who=0) && findC cs x.name true
 else if x.op=8 then decide (x.who=0) && (cnOk cs t x.c && (lstOk cs t (d + 1) x.thn && lstOk cs t (d + 1) x.els))
 else false
theorem QbK(x:Ef):(decide (x.c.op=0) && (decide (x.c.who=0) && (x.c.name == [] && decide (x.c.nums.length + x.c.kids.length + x.thn.length + x.els.length=0))))=(noCond x.c && (decide (x.thn.length=0) && decide (x.els.length=0))):=by
 have e:decide (x.c.nums.length + x.c.kids.length + x.thn.length + x.els.length=0)=(decide (x.c.nums.length=0) && (decide (x.c.kids.length=0) && (decide (x.thn.length=0) && decide (x.els.length=0)))):=by
  rw[Bool.eq_iff_iff]
  simp only[Bool.and_eq_true,decide_eq_true_eq]; omega
 rw[e,noCond]
 simp only[Bool.and_assoc]
theorem Qcz(cs:List Cd)(t:Bool)(d:Int)(x:Ef):efOk cs t d x=((zeroB x && (!cntOp x.op || nmOk t x.n)) && efArm cs t d x):=by
 rw[XbF,zeroB,QbK]
 by_cases hr:0≤x.op∧x.op≤8
 rotate_left
 ·have:efArm cs t d x=false:=by
   rw[efArm,if_neg (by omega),if_neg (by omega),if_neg (by omega),if_neg (by omega),if_neg (by omega)]
  rw[this,Bool.and_false,Bool.eq_false_iff]
  intro h; simp only[Bool.and_eq_true,decide_eq_true_eq] at h; exact hr ⟨h.1,h.2.1⟩
 obtain⟨r1,r2⟩:=hr
 rw[decide_eq_true r1,decide_eq_true r2,Bool.true_and,Bool.true_and]
 generalize noCond x.c=b1
 generalize decide (x.thn.length=0)=b2
 generalize decide (x.els.length=0)=b3
 generalize noNum x.n=b4
 generalize nmOk t x.n=b5
 generalize (x.name == [])=b6
 unfold efArm efEnd efMid
 generalize lstOk cs t (d + 1) x.thn=b7
 generalize lstOk cs t (d + 1) x.els=b8
 generalize cnOk cs t x.c=b9
 generalize findC cs x.name true=b10
 generalize sdOp x.who=b11
 generalize decide (x.who=0)=b12
 generalize decide (x.who=2)=b13
 have h:x.op=0∨x.op=1∨x.op=2∨x.op=3∨x.op=4∨x.op=5∨x.op=6∨x.op=7∨x.op=8:=by omega
 generalize x.op=op at h
 clear r1 r2
 rcases h with h | h | h | h | h | h | h | h | h <;> subst h <;> simp[cntOp] <;> cases b1 <;> cases b2 <;> cases b3 <;> cases b4 <;> cases b5 <;> cases b6 <;> simp <;> cases b12 <;> simp
attribute [local irreducible] Ans.rd Ans.pu Ans.wr Ans.dr Ans.gr Ans.gw Ans.gl Ans.gd Ans.opt joinK W
set_option maxHeartbeats 4000000
theorem Zcx(x:Ef):NmAt (efC x) (0 + 2) x.n:=nmAt2 x
theorem XcC(x:Ef):CnAt (efC x) (0 + 7) x.c:=cnAt7 x
theorem c157'(m:List (Tx × Bool))(cs:List Cd)(hU:Units m cs)(t:Bool):∀ (k:Nat) (l:List Ef) (d:Int),SizeOf.sizeOf l≤k→lsFit l=true→0≤d→PCall prog GL0 157 [.rptr (chkM m t) 0,efV l,iv d] (.bool (lstOk cs t d l))
 | 0,l,_,h,_,_=>by cases l <;> simp at h
 | k + 1,l,d,hk,hf,hd=>by
  refine Zf hP g157_ok rfl rfl ?_
  unfold g157
  have hlen:=QB hf
  rw[bigE] at hlen
  refine Za rfl (Za rfl ?_)
  refine YB rfl rfl ?_
  refine Xc (fun h=>?_) (fun h=>?_)
  ·have h:¬ (l.length≤16∧d≤8):=by simp at h; omega
   rw[lstOk]
   rcases Decidable.not_and_iff_or_not.1 h with h | h <;> simp[h]
  have h:l.length≤16∧d≤8:=by simp at h; omega
  have hl:lstOk cs t d l=efsOk cs t d l:=by simp[lstOk,h]
  rw[hl]
  clear hl
  refine Za rfl ?_
  refine Xm (ι:=Nat) (fun i vs σ=>vs=[iv i]∧σ=[]∧i≤l.length∧efsOk cs t d l=efsOk cs t d (l.drop i)) (fun i=>l.length - i) 0 ⟨rfl,rfl,by omega,by simp⟩ ?_
  rintro i vs σ again ⟨rfl,rfl,hi,hu⟩ hag
  refine Za rfl ?_
  refine Xc (fun h=>?_) (fun h=>?_)
  rotate_left
  ·have h:i=l.length:=by simp at h; omega
   subst h
   rw[List.drop_length,efsOk] at hu
   rw[hu]
  have hil:i < l.length:=by simpa using h
  have hdr:l.drop i=l[i] :: l.drop (i + 1):=by rw[List.drop_eq_getElem_cons hil]
  rw[hdr,efsOk] at hu
  have hm:l[i]∈l:=List.getElem_mem hil
  have hsz:=List.sizeOf_lt_of_mem hm
  have hfx:=XK hf hm
  have ix:=fun (s:List ABlk)=>Qo s efC false false 14 l .i64 i hil
  generalize l[i]=x at hu hsz hfx ix
  have hs2:=Yaa x
  rename_i hd8
  obtain⟨h16,h8⟩:=hd8
  have go:∀ c,c=efOk cs t d x→(W prog GL0).rd (Yp .not [.bool c] []) fun t152=>(W prog GL0).test t152 (AVal.bool false=AVal.bool (efsOk cs t d l)) ((W prog GL0).rd (Qb .add false [iv i,(.int .i64 1)] []) fun t153=>again [t153] []):=by
   rintro c hc
   refine Za rfl ?_
   rw[← hc] at hu
   refine Xc (fun h=>?_) (fun h=>?_)
   ·have h:c=false:=by simpa using h
    rw[hu,h]; rfl
   ·have h:c=true:=by simpa using h
    rw[h,Bool.true_and] at hu
    refine Za (Yn ..) ?_
    rw[Zh (n:=i) (by omega)]
    exact hag (i + 1) _ _ (by omega) ⟨rfl,rfl,by omega,hu⟩
  have stop:efOk cs t d x=false→AVal.bool false=AVal.bool (efsOk cs t d l):=by
   intro he; rw[hu,he]; rfl
  clear hag hu
  rw[Qcz] at stop go
  refine Za (ix _) ?_
  refine Zd (c209 x hfx) rfl g209_ok.plain rfl ?_
  have r1:∀ K:AVal→List ABlk→Prop,K (.bool (zeroB x && (!cntOp x.op || nmOk t x.n))) []→(W prog GL0).gr (AVal.bool (zeroB x)) true (fun k=>(W prog GL0).rd (Zj [(AVal.rptr (efC x) 0)] []) k) fun t28_11=>(W prog GL0).gr (AVal.bool (zeroB x)) true (fun k=>(W prog GL0).rd (Xb [t28_11] []) k) fun t29_12=>(W prog GL0).gr (AVal.bool (zeroB x)) true (fun k=>(W prog GL0).rd (Ya 0 [t29_12] []) k) fun t30_13=>(W prog GL0).gr (AVal.bool (zeroB x)) true (fun k=>(W prog GL0).rd (Ze false 1 [t30_13] []) k) fun t31_14=>(W prog GL0).gw (AVal.bool (zeroB x)) true (fun k=>(W prog GL0).call (.call 210) [t31_14] [] k) ([]:List ABlk) fun t32_15 σ=>(W prog GL0).gr (AVal.bool (zeroB x)) true (fun k=>(W prog GL0).rd (Yp .not [t32_15] σ) k) fun t33_16=>(W prog GL0).gr (AVal.bool (zeroB x)) true (fun k=>(W prog GL0).rd (Zj [t33_16] σ) k) fun t34_17=>(W prog GL0).gr t34_17 false (fun k=>(W prog GL0).rd (Zj [(AVal.rptr (chkM m t) 0)] σ) k) fun t35_18=>(W prog GL0).gr t34_17 false (fun k=>(W prog GL0).rd (Zj [(AVal.rptr (efC x) 0)] σ) k) fun t36_19=>(W prog GL0).gr t34_17 false (fun k=>(W prog GL0).rd (Xb [t36_19] σ) k) fun t37_20=>(W prog GL0).gr t34_17 false (fun k=>(W prog GL0).rd (Ya 2 [t37_20] σ) k) fun t38_21=>(W prog GL0).gw t34_17 false (fun k=>(W prog GL0).call (.call 211) [t35_18,t38_21] σ k) σ fun t39_22 σ=>(W prog GL0).gr (AVal.bool (zeroB x)) true (fun k=>(W prog GL0).rd (Qc [t34_17,(.bool true),t39_22] σ) k) fun t40_23=>(W prog GL0).rd (Qc [(AVal.bool (zeroB x)),t40_23,(.bool false)] σ) (fun v=>K v σ):=by
   intro K hK
   rcases Bool.eq_false_or_eq_true (zeroB x) with h | h
   rotate_left
   ·rw[h] at hK ⊢
    repeat (first | refine Xa ?_ | refine Zb ?_ | refine Yb rfl ?_ | refine Yc rfl ?_ | refine Yd rfl ?_ | refine Qd rfl ?_ | refine Za (ldr (efLd0 x)) ?_ | refine Za (ldr (efLd1 x)) ?_ | refine Za (ldr (efLd6 x)) ?_ | refine Za (ldr (Xp x)) ?_ | refine Za (ldr (Zq x)) ?_ | refine Za (Zg ..) ?_ | refine Za (Qf ..) ?_ | refine Za (ldr (row:=chkM m t) rfl) ?_ | refine Za (Zm ..) ?_ | refine Za rfl ?_)
    exact hK
   rw[h,Bool.true_and] at hK
   rw[h]
   repeat (first | refine Xa ?_ | refine Zb ?_ | refine Za (ldr (efLd0 x)) ?_ | refine Za (ldr (efLd1 x)) ?_ | refine Za (ldr (efLd6 x)) ?_ | refine Za (ldr (Xp x)) ?_ | refine Za (ldr (Zq x)) ?_ | refine Za (Zg ..) ?_ | refine Za (Qf ..) ?_ | refine Za (ldr (row:=chkM m t) rfl) ?_ | refine Za (Zm ..) ?_ | refine Za rfl ?_)
   refine Zd (c210 _) rfl g210_ok.plain rfl ?_
   repeat (first | refine Xa ?_ | refine Zb ?_ | refine Za (ldr (efLd0 x)) ?_ | refine Za (ldr (efLd1 x)) ?_ | refine Za (ldr (efLd6 x)) ?_ | refine Za (ldr (Xp x)) ?_ | refine Za (ldr (Zq x)) ?_ | refine Za (Zg ..) ?_ | refine Za (Qf ..) ?_ | refine Za (ldr (row:=chkM m t) rfl) ?_ | refine Za (Zm ..) ?_ | refine Za rfl ?_)
   rcases Bool.eq_false_or_eq_true (!cntOp x.op) with h2 | h2
   ·rw[h2] at hK ⊢
    repeat (first | refine Xa ?_ | refine Zb ?_ | refine Yb rfl ?_ | refine Yc rfl ?_ | refine Yd rfl ?_ | refine Qd rfl ?_ | refine Za (ldr (efLd0 x)) ?_ | refine Za (ldr (efLd1 x)) ?_ | refine Za (ldr (efLd6 x)) ?_ | refine Za (ldr (Xp x)) ?_ | refine Za (ldr (Zq x)) ?_ | refine Za (Zg ..) ?_ | refine Za (Qf ..) ?_ | refine Za (ldr (row:=chkM m t) rfl) ?_ | refine Za (Zm ..) ?_ | refine Za rfl ?_)
    exact hK
   rw[h2,Bool.false_or] at hK
   rw[h2]
   repeat (first | refine Xa ?_ | refine Zb ?_ | refine Za (ldr (efLd0 x)) ?_ | refine Za (ldr (efLd1 x)) ?_ | refine Za (ldr (efLd6 x)) ?_ | refine Za (ldr (Xp x)) ?_ | refine Za (ldr (Zq x)) ?_ | refine Za (Zg ..) ?_ | refine Za (Qf ..) ?_ | refine Za (ldr (row:=chkM m t) rfl) ?_ | refine Za (Zm ..) ?_ | refine Za rfl ?_)
   refine Zd (c211 _ t x.n _ _ (Zcx x) (Q2 hfx)) rfl g211_ok.plain rfl ?_
   repeat (first | refine Xa ?_ | refine Zb ?_ | refine Za (ldr (efLd0 x)) ?_ | refine Za (ldr (efLd1 x)) ?_ | refine Za (ldr (efLd6 x)) ?_ | refine Za (ldr (Xp x)) ?_ | refine Za (ldr (Zq x)) ?_ | refine Za (Zg ..) ?_ | refine Za (Qf ..) ?_ | refine Za (ldr (row:=chkM m t) rfl) ?_ | refine Za (Zm ..) ?_ | refine Za rfl ?_)
   exact hK
  refine r1 _ ?_
  clear r1
  generalize (zeroB x && (!cntOp x.op || nmOk t x.n))=z at go stop ⊢
  repeat (first | refine Za (ldr (efLd0 x)) ?_ | refine Za (ldr (efLd1 x)) ?_ | refine Za (ldr (efLd6 x)) ?_ | refine Za (ldr (Xp x)) ?_ | refine Za (ldr (Zq x)) ?_ | refine Za (Zg ..) ?_ | refine Za (Qf ..) ?_ | refine Za (ldr (row:=chkM m t) rfl) ?_ | refine Za (Zm ..) ?_ | refine Za rfl ?_)
  refine Qi fun k28 hk28=>?_
  have kk:∀ c,c=(z && efArm cs t d x)→k28 [.bool c] []:=by
   rintro c hc
   rw[hk28]
   exact go c hc
  clear hk28 go
  repeat (first | refine Za (ldr (efLd0 x)) ?_ | refine Za (ldr (efLd1 x)) ?_ | refine Za (ldr (efLd6 x)) ?_ | refine Za (ldr (Xp x)) ?_ | refine Za (ldr (Zq x)) ?_ | refine Za (Zg ..) ?_ | refine Za (Qf ..) ?_ | refine Za (ldr (row:=chkM m t) rfl) ?_ | refine Za (Zm ..) ?_ | refine Za rfl ?_)
  refine Qi fun k1 hk1=>?_
  have m1:∀ c,c=decide (x.op=0∨x.op=1)→k1 [.bool c] []:=by
   rintro c hc
   rw[hk1]; clear hk1 k1
   refine Xc (fun h=>?_) (fun h=>?_)
   ·rw[h] at hc
    have a1:x.op=0∨x.op=1:=by simpa using hc.symm
    have e:efArm cs t d x=(sdOp x.who || (decide (x.who=2) && t)):=by rw[efArm,if_pos a1]
    rw[e] at kk
    cases z with
    | false=>
     repeat (first | refine Xa ?_ | refine Zb ?_ | refine Yb rfl ?_ | refine Yc rfl ?_ | refine Yd rfl ?_ | refine Qd rfl ?_ | refine Za (ldr (efLd0 x)) ?_ | refine Za (ldr (efLd1 x)) ?_ | refine Za (ldr (efLd6 x)) ?_ | refine Za (ldr (Xp x)) ?_ | refine Za (ldr (Zq x)) ?_ | refine Za (Zg ..) ?_ | refine Za (Qf ..) ?_ | refine Za (ldr (row:=chkM m t) rfl) ?_ | refine Za (Zm ..) ?_ | refine Za rfl ?_)
     exact kk _ rfl
    | true=>
     repeat (first | refine Xa ?_ | refine Zb ?_ | refine Za (ldr (efLd0 x)) ?_ | refine Za (ldr (efLd1 x)) ?_ | refine Za (ldr (efLd6 x)) ?_ | refine Za (ldr (Xp x)) ?_ | refine Za (ldr (Zq x)) ?_ | refine Za (Zg ..) ?_ | refine Za (Qf ..) ?_ | refine Za (ldr (row:=chkM m t) rfl) ?_ | refine Za (Zm ..) ?_ | refine Za rfl ?_)
     refine Zd (c212 _) rfl g212_ok.plain rfl ?_
     repeat (first | refine Xa ?_ | refine Zb ?_ | refine Za (ldr (efLd0 x)) ?_ | refine Za (ldr (efLd1 x)) ?_ | refine Za (ldr (efLd6 x)) ?_ | refine Za (ldr (Xp x)) ?_ | refine Za (ldr (Zq x)) ?_ | refine Za (Zg ..) ?_ | refine Za (Qf ..) ?_ | refine Za (ldr (row:=chkM m t) rfl) ?_ | refine Za (Zm ..) ?_ | refine Za rfl ?_)
     rcases Bool.eq_false_or_eq_true (sdOp x.who) with h2 | h2
     ·rw[h2] at kk ⊢
      repeat (first | refine Xa ?_ | refine Zb ?_ | refine Yb rfl ?_ | refine Yc rfl ?_ | refine Yd rfl ?_ | refine Qd rfl ?_ | refine Za (ldr (efLd0 x)) ?_ | refine Za (ldr (efLd1 x)) ?_ | refine Za (ldr (efLd6 x)) ?_ | refine Za (ldr (Xp x)) ?_ | refine Za (ldr (Zq x)) ?_ | refine Za (Zg ..) ?_ | refine Za (Qf ..) ?_ | refine Za (ldr (row:=chkM m t) rfl) ?_ | refine Za (Zm ..) ?_ | refine Za rfl ?_)
      exact kk _ rfl
     rw[h2] at kk ⊢
     repeat (first | refine Xa ?_ | refine Zb ?_ | refine Za (ldr (efLd0 x)) ?_ | refine Za (ldr (efLd1 x)) ?_ | refine Za (ldr (efLd6 x)) ?_ | refine Za (ldr (Xp x)) ?_ | refine Za (ldr (Zq x)) ?_ | refine Za (Zg ..) ?_ | refine Za (Qf ..) ?_ | refine Za (ldr (row:=chkM m t) rfl) ?_ | refine Za (Zm ..) ?_ | refine Za rfl ?_)
     rcases Bool.eq_false_or_eq_true (decide (x.who=2)) with h3 | h3
     ·rw[h3] at kk ⊢
      repeat (first | refine Xa ?_ | refine Zb ?_ | refine Za (ldr (efLd0 x)) ?_ | refine Za (ldr (efLd1 x)) ?_ | refine Za (ldr (efLd6 x)) ?_ | refine Za (ldr (Xp x)) ?_ | refine Za (ldr (Zq x)) ?_ | refine Za (Zg ..) ?_ | refine Za (Qf ..) ?_ | refine Za (ldr (row:=chkM m t) rfl) ?_ | refine Za (Zm ..) ?_ | refine Za rfl ?_)
      exact kk _ (by simp)
     rw[h3] at kk ⊢
     repeat (first | refine Xa ?_ | refine Zb ?_ | refine Yb rfl ?_ | refine Yc rfl ?_ | refine Yd rfl ?_ | refine Qd rfl ?_ | refine Za (ldr (efLd0 x)) ?_ | refine Za (ldr (efLd1 x)) ?_ | refine Za (ldr (efLd6 x)) ?_ | refine Za (ldr (Xp x)) ?_ | refine Za (ldr (Zq x)) ?_ | refine Za (Zg ..) ?_ | refine Za (Qf ..) ?_ | refine Za (ldr (row:=chkM m t) rfl) ?_ | refine Za (Zm ..) ?_ | refine Za rfl ?_)
     exact kk _ (by simp)
   rw[h] at hc
   have a1:¬ (x.op=0∨x.op=1):=by simpa using hc.symm
   repeat (first | refine Za (ldr (efLd0 x)) ?_ | refine Za (ldr (efLd1 x)) ?_ | refine Za (ldr (efLd6 x)) ?_ | refine Za (ldr (Xp x)) ?_ | refine Za (ldr (Zq x)) ?_ | refine Za (Zg ..) ?_ | refine Za (Qf ..) ?_ | refine Za (ldr (row:=chkM m t) rfl) ?_ | refine Za (Zm ..) ?_ | refine Za rfl ?_)
   refine Qi fun k1 hk1=>?_
   have m2:∀ c,c=decide (x.op=2∨x.op=4∨x.op=6)→k1 [.bool c] []:=by
    rintro c hc
    rw[hk1]; clear hk1 k1
    refine Xc (fun h=>?_) (fun h=>?_)
    ·rw[h] at hc
     have a2:x.op=2∨x.op=4∨x.op=6:=by simpa using hc.symm
     have e:efArm cs t d x=sdOp x.who:=by rw[efArm,if_neg a1,if_pos a2]
     rw[e] at kk
     cases z with
     | false=>
      repeat (first | refine Xa ?_ | refine Zb ?_ | refine Yb rfl ?_ | refine Yc rfl ?_ | refine Yd rfl ?_ | refine Qd rfl ?_ | refine Za (ldr (efLd0 x)) ?_ | refine Za (ldr (efLd1 x)) ?_ | refine Za (ldr (efLd6 x)) ?_ | refine Za (ldr (Xp x)) ?_ | refine Za (ldr (Zq x)) ?_ | refine Za (Zg ..) ?_ | refine Za (Qf ..) ?_ | refine Za (ldr (row:=chkM m t) rfl) ?_ | refine Za (Zm ..) ?_ | refine Za rfl ?_)
      exact kk _ rfl
     | true=>
      repeat (first | refine Xa ?_ | refine Zb ?_ | refine Za (ldr (efLd0 x)) ?_ | refine Za (ldr (efLd1 x)) ?_ | refine Za (ldr (efLd6 x)) ?_ | refine Za (ldr (Xp x)) ?_ | refine Za (ldr (Zq x)) ?_ | refine Za (Zg ..) ?_ | refine Za (Qf ..) ?_ | refine Za (ldr (row:=chkM m t) rfl) ?_ | refine Za (Zm ..) ?_ | refine Za rfl ?_)
      refine Zd (c212 _) rfl g212_ok.plain rfl ?_
      repeat (first | refine Xa ?_ | refine Zb ?_ | refine Za (ldr (efLd0 x)) ?_ | refine Za (ldr (efLd1 x)) ?_ | refine Za (ldr (efLd6 x)) ?_ | refine Za (ldr (Xp x)) ?_ | refine Za (ldr (Zq x)) ?_ | refine Za (Zg ..) ?_ | refine Za (Qf ..) ?_ | refine Za (ldr (row:=chkM m t) rfl) ?_ | refine Za (Zm ..) ?_ | refine Za rfl ?_)
      exact kk _ (by simp)
    rw[h] at hc
    have a2:¬ (x.op=2∨x.op=4∨x.op=6):=by simpa using hc.symm
    repeat (first | refine Za (ldr (efLd0 x)) ?_ | refine Za (ldr (efLd1 x)) ?_ | refine Za (ldr (efLd6 x)) ?_ | refine Za (ldr (Xp x)) ?_ | refine Za (ldr (Zq x)) ?_ | refine Za (Zg ..) ?_ | refine Za (Qf ..) ?_ | refine Za (ldr (row:=chkM m t) rfl) ?_ | refine Za (Zm ..) ?_ | refine Za rfl ?_)
    refine Qi fun k1 hk1=>?_
    have m3:∀ c,c=decide (x.op=3∨x.op=5)→k1 [.bool c] []:=by
     rintro c hc
     rw[hk1]; clear hk1 k1
     refine Xc (fun h=>?_) (fun h=>?_)
     ·rw[h] at hc
      have a3:x.op=3∨x.op=5:=by simpa using hc.symm
      have e:efArm cs t d x=decide (x.who=0):=by rw[efArm,if_neg a1,if_neg a2,if_pos a3]
      rw[e] at kk
      cases z with
      | false=>
       repeat (first | refine Xa ?_ | refine Zb ?_ | refine Yb rfl ?_ | refine Yc rfl ?_ | refine Yd rfl ?_ | refine Qd rfl ?_ | refine Za (ldr (efLd0 x)) ?_ | refine Za (ldr (efLd1 x)) ?_ | refine Za (ldr (efLd6 x)) ?_ | refine Za (ldr (Xp x)) ?_ | refine Za (ldr (Zq x)) ?_ | refine Za (Zg ..) ?_ | refine Za (Qf ..) ?_ | refine Za (ldr (row:=chkM m t) rfl) ?_ | refine Za (Zm ..) ?_ | refine Za rfl ?_)
       exact kk _ rfl
      | true=>
       repeat (first | refine Xa ?_ | refine Zb ?_ | refine Za (ldr (efLd0 x)) ?_ | refine Za (ldr (efLd1 x)) ?_ | refine Za (ldr (efLd6 x)) ?_ | refine Za (ldr (Xp x)) ?_ | refine Za (ldr (Zq x)) ?_ | refine Za (Zg ..) ?_ | refine Za (Qf ..) ?_ | refine Za (ldr (row:=chkM m t) rfl) ?_ | refine Za (Zm ..) ?_ | refine Za rfl ?_)
       exact kk _ (by simp)
     rw[h] at hc
     have a3:¬ (x.op=3∨x.op=5):=by simpa using hc.symm
     repeat (first | refine Za (ldr (efLd0 x)) ?_ | refine Za (ldr (efLd1 x)) ?_ | refine Za (ldr (efLd6 x)) ?_ | refine Za (ldr (Xp x)) ?_ | refine Za (ldr (Zq x)) ?_ | refine Za (Zg ..) ?_ | refine Za (Qf ..) ?_ | refine Za (ldr (row:=chkM m t) rfl) ?_ | refine Za (Zm ..) ?_ | refine Za rfl ?_)
     refine Xc (fun a7=>?_) (fun a7=>?_)
     ·have a7:x.op=7:=by simpa using a7
      have e:efArm cs t d x=(decide (x.who=0) && (tlook x.name m).getD false):=by
       rw[efArm,if_neg a1,if_neg a2,if_neg a3,if_pos a7,hU]
       cases tlook x.name m <;> simp
      rw[e] at kk
      cases z with
      | false=>
       repeat (first | refine Xa ?_ | refine Zb ?_ | refine Yb rfl ?_ | refine Yc rfl ?_ | refine Yd rfl ?_ | refine Qd rfl ?_ | refine Za (ldr (efLd0 x)) ?_ | refine Za (ldr (efLd1 x)) ?_ | refine Za (ldr (efLd6 x)) ?_ | refine Za (ldr (Xp x)) ?_ | refine Za (ldr (Zq x)) ?_ | refine Za (Zg ..) ?_ | refine Za (Qf ..) ?_ | refine Za (ldr (row:=chkM m t) rfl) ?_ | refine Za (Zm ..) ?_ | refine Za rfl ?_)
       exact kk _ rfl
      | true=>
       repeat (first | refine Xa ?_ | refine Zb ?_ | refine Za (ldr (efLd0 x)) ?_ | refine Za (ldr (efLd1 x)) ?_ | refine Za (ldr (efLd6 x)) ?_ | refine Za (ldr (Xp x)) ?_ | refine Za (ldr (Zq x)) ?_ | refine Za (Zg ..) ?_ | refine Za (Qf ..) ?_ | refine Za (ldr (row:=chkM m t) rfl) ?_ | refine Za (Zm ..) ?_ | refine Za rfl ?_)
       rcases Bool.eq_false_or_eq_true (decide (x.who=0)) with h3 | h3
       ·rw[h3] at kk ⊢
        repeat (first | refine Xa ?_ | refine Zb ?_ | refine Za (ldr (efLd0 x)) ?_ | refine Za (ldr (efLd1 x)) ?_ | refine Za (ldr (efLd6 x)) ?_ | refine Za (ldr (Xp x)) ?_ | refine Za (ldr (Zq x)) ?_ | refine Za (Zg ..) ?_ | refine Za (Qf ..) ?_ | refine Za (ldr (row:=chkM m t) rfl) ?_ | refine Za (Zm ..) ?_ | refine Za rfl ?_)
        exact kk _ (by simp)
       rw[h3] at kk ⊢
       repeat (first | refine Xa ?_ | refine Zb ?_ | refine Yb rfl ?_ | refine Yc rfl ?_ | refine Yd rfl ?_ | refine Qd rfl ?_ | refine Za (ldr (efLd0 x)) ?_ | refine Za (ldr (efLd1 x)) ?_ | refine Za (ldr (efLd6 x)) ?_ | refine Za (ldr (Xp x)) ?_ | refine Za (ldr (Zq x)) ?_ | refine Za (Zg ..) ?_ | refine Za (Qf ..) ?_ | refine Za (ldr (row:=chkM m t) rfl) ?_ | refine Za (Zm ..) ?_ | refine Za rfl ?_)
       exact kk _ (by simp)
     have a7:x.op≠7:=by simpa using a7
     repeat (first | refine Za (ldr (efLd0 x)) ?_ | refine Za (ldr (efLd1 x)) ?_ | refine Za (ldr (efLd6 x)) ?_ | refine Za (ldr (Xp x)) ?_ | refine Za (ldr (Zq x)) ?_ | refine Za (Zg ..) ?_ | refine Za (Qf ..) ?_ | refine Za (ldr (row:=chkM m t) rfl) ?_ | refine Za (Zm ..) ?_ | refine Za rfl ?_)
     refine Xc (fun a8=>?_) (fun a8=>?_)
     rotate_left
     ·have a8:x.op≠8:=by simpa using a8
      refine stop ?_
      rw[efArm,if_neg a1,if_neg a2,if_neg a3,if_neg a7,if_neg a8,Bool.and_false]
     have a8:x.op=8:=by simpa using a8
     have e:efArm cs t d x=(decide (x.who=0) && (cnOk cs t x.c && (lstOk cs t (d + 1) x.thn && lstOk cs t (d + 1) x.els))):=by
      rw[efArm,if_neg a1,if_neg a2,if_neg a3,if_neg a7,if_pos a8]
     rw[e] at kk
     have hw:IntKind.i64.wrap (d + 1)=d + 1:=wrapI (by omega) (by omega)
     cases z with
     | false=>
      repeat (first | refine Xa ?_ | refine Zb ?_ | refine Yb rfl ?_ | refine Yc rfl ?_ | refine Yd rfl ?_ | refine Qd rfl ?_ | refine Za (ldr (efLd0 x)) ?_ | refine Za (ldr (efLd1 x)) ?_ | refine Za (ldr (efLd6 x)) ?_ | refine Za (ldr (Xp x)) ?_ | refine Za (ldr (Zq x)) ?_ | refine Za (Zg ..) ?_ | refine Za (Qf ..) ?_ | refine Za (ldr (row:=chkM m t) rfl) ?_ | refine Za (Zm ..) ?_ | refine Za rfl ?_)
      exact kk _ rfl
     | true=>
      repeat (first | refine Xa ?_ | refine Zb ?_ | refine Za (ldr (efLd0 x)) ?_ | refine Za (ldr (efLd1 x)) ?_ | refine Za (ldr (efLd6 x)) ?_ | refine Za (ldr (Xp x)) ?_ | refine Za (ldr (Zq x)) ?_ | refine Za (Zg ..) ?_ | refine Za (Qf ..) ?_ | refine Za (ldr (row:=chkM m t) rfl) ?_ | refine Za (Zm ..) ?_ | refine Za rfl ?_)
      rcases Bool.eq_false_or_eq_true (decide (x.who=0)) with h3 | h3
      rotate_left
      ·rw[h3] at kk ⊢
       repeat (first | refine Xa ?_ | refine Zb ?_ | refine Yb rfl ?_ | refine Yc rfl ?_ | refine Yd rfl ?_ | refine Qd rfl ?_ | refine Za (ldr (efLd0 x)) ?_ | refine Za (ldr (efLd1 x)) ?_ | refine Za (ldr (efLd6 x)) ?_ | refine Za (ldr (Xp x)) ?_ | refine Za (ldr (Zq x)) ?_ | refine Za (Zg ..) ?_ | refine Za (Qf ..) ?_ | refine Za (ldr (row:=chkM m t) rfl) ?_ | refine Za (Zm ..) ?_ | refine Za rfl ?_)
       exact kk _ (by simp)
      rw[h3] at kk ⊢
      repeat (first | refine Xa ?_ | refine Zb ?_ | refine Za (ldr (efLd0 x)) ?_ | refine Za (ldr (efLd1 x)) ?_ | refine Za (ldr (efLd6 x)) ?_ | refine Za (ldr (Xp x)) ?_ | refine Za (ldr (Zq x)) ?_ | refine Za (Zg ..) ?_ | refine Za (Qf ..) ?_ | refine Za (ldr (row:=chkM m t) rfl) ?_ | refine Za (Zm ..) ?_ | refine Za rfl ?_)
      refine Zd (c213 m cs hU t x.c _ _ (XcC x) (ZY hfx)) rfl g213_ok.plain rfl ?_
      repeat (first | refine Xa ?_ | refine Zb ?_ | refine Za (ldr (efLd0 x)) ?_ | refine Za (ldr (efLd1 x)) ?_ | refine Za (ldr (efLd6 x)) ?_ | refine Za (ldr (Xp x)) ?_ | refine Za (ldr (Zq x)) ?_ | refine Za (Zg ..) ?_ | refine Za (Qf ..) ?_ | refine Za (ldr (row:=chkM m t) rfl) ?_ | refine Za (Zm ..) ?_ | refine Za rfl ?_)
      rcases Bool.eq_false_or_eq_true (cnOk cs t x.c) with h4 | h4
      rotate_left
      ·rw[h4] at kk ⊢
       repeat (first | refine Xa ?_ | refine Zb ?_ | refine Yb rfl ?_ | refine Yc rfl ?_ | refine Yd rfl ?_ | refine Qd rfl ?_ | refine Za (ldr (efLd0 x)) ?_ | refine Za (ldr (efLd1 x)) ?_ | refine Za (ldr (efLd6 x)) ?_ | refine Za (ldr (Xp x)) ?_ | refine Za (ldr (Zq x)) ?_ | refine Za (Zg ..) ?_ | refine Za (Qf ..) ?_ | refine Za (ldr (row:=chkM m t) rfl) ?_ | refine Za (Zm ..) ?_ | refine Za rfl ?_)
       exact kk _ (by simp)
      rw[h4] at kk ⊢
      repeat (first | refine Xa ?_ | refine Zb ?_ | refine Za (ldr (efLd0 x)) ?_ | refine Za (ldr (efLd1 x)) ?_ | refine Za (ldr (efLd6 x)) ?_ | refine Za (ldr (Xp x)) ?_ | refine Za (ldr (Zq x)) ?_ | refine Za (Zg ..) ?_ | refine Za (Qf ..) ?_ | refine Za (ldr (row:=chkM m t) rfl) ?_ | refine Za (Zm ..) ?_ | refine Za rfl ?_)
      rw[hw]
      refine Zd (c157' m cs hU t k x.thn (d + 1) (by omega) (YK hfx) (by omega)) rfl g157_ok.plain rfl ?_
      repeat (first | refine Xa ?_ | refine Zb ?_ | refine Za (ldr (efLd0 x)) ?_ | refine Za (ldr (efLd1 x)) ?_ | refine Za (ldr (efLd6 x)) ?_ | refine Za (ldr (Xp x)) ?_ | refine Za (ldr (Zq x)) ?_ | refine Za (Zg ..) ?_ | refine Za (Qf ..) ?_ | refine Za (ldr (row:=chkM m t) rfl) ?_ | refine Za (Zm ..) ?_ | refine Za rfl ?_)
      rcases Bool.eq_false_or_eq_true (lstOk cs t (d + 1) x.thn) with h5 | h5
      rotate_left
      ·rw[h5] at kk ⊢
       repeat (first | refine Xa ?_ | refine Zb ?_ | refine Yb rfl ?_ | refine Yc rfl ?_ | refine Yd rfl ?_ | refine Qd rfl ?_ | refine Za (ldr (efLd0 x)) ?_ | refine Za (ldr (efLd1 x)) ?_ | refine Za (ldr (efLd6 x)) ?_ | refine Za (ldr (Xp x)) ?_ | refine Za (ldr (Zq x)) ?_ | refine Za (Zg ..) ?_ | refine Za (Qf ..) ?_ | refine Za (ldr (row:=chkM m t) rfl) ?_ | refine Za (Zm ..) ?_ | refine Za rfl ?_)
       exact kk _ (by simp)
      rw[h5] at kk ⊢
      repeat (first | refine Xa ?_ | refine Zb ?_ | refine Za (ldr (efLd0 x)) ?_ | refine Za (ldr (efLd1 x)) ?_ | refine Za (ldr (efLd6 x)) ?_ | refine Za (ldr (Xp x)) ?_ | refine Za (ldr (Zq x)) ?_ | refine Za (Zg ..) ?_ | refine Za (Qf ..) ?_ | refine Za (ldr (row:=chkM m t) rfl) ?_ | refine Za (Zm ..) ?_ | refine Za rfl ?_)
      rw[hw]
      refine Zd (c157' m cs hU t k x.els (d + 1) (by omega) (QJ hfx) (by omega)) rfl g157_ok.plain rfl ?_
      repeat (first | refine Xa ?_ | refine Zb ?_ | refine Za (ldr (efLd0 x)) ?_ | refine Za (ldr (efLd1 x)) ?_ | refine Za (ldr (efLd6 x)) ?_ | refine Za (ldr (Xp x)) ?_ | refine Za (ldr (Zq x)) ?_ | refine Za (Zg ..) ?_ | refine Za (Qf ..) ?_ | refine Za (ldr (row:=chkM m t) rfl) ?_ | refine Za (Zm ..) ?_ | refine Za rfl ?_)
      exact kk _ (by simp)
    clear hk1
    refine Xc (fun c1=>m3 _ ?_) (fun c1=>?_)
    ·simp at c1; simp[c1]
    refine Za (Zg ..) (m3 _ ?_)
    simp at c1; simp[c1]
   clear hk1
   refine Xc (fun c1=>m2 _ ?_) (fun c1=>?_)
   ·simp at c1; simp[c1]
   refine Za (Zg ..) (Xc (fun c2=>m2 _ ?_) (fun c2=>?_))
   ·simp at c2; simp[c2]
   refine Za (Zg ..) (m2 _ ?_)
   simp at c1 c2; simp[c1,c2]
  clear hk1
  refine Xc (fun c1=>m1 _ ?_) (fun c1=>?_)
  ·simp at c1; simp[c1]
  refine Za (Zg ..) (m1 _ ?_)
  simp at c1; simp[c1]
theorem c157(m:List (Tx × Bool))(cs:List Cd)(hU:Units m cs)(t:Bool)(l:List Ef)(d:Int)(hf:lsFit l=true)(hd:0≤d):PCall prog GL0 157 [.rptr (chkM m t) 0,efV l,iv d] (.bool (lstOk cs t d l)):=c157' m cs hU t _ l d (Nat.le_refl _) hf hd
end Go.Ah.Tz
end
section
namespace Go.Ah.Tz
open Go.Proofs.Tryz (prog)
attribute [local irreducible] Ans.rd Ans.pu Ans.wr Ans.dr Ans.gr Ans.gw Ans.gl Ans.gd Ans.opt joinK W
set_option maxHeartbeats 2000000
theorem c221(m:List (Tx × Bool))(cs:List Cd)(hU:Units m cs)(c:Cd)(hf:cdFit c=true)
 (h223:PCall prog GL0 223 [.str c.name] (.bool (nameOk c.name)))(h124:PCall prog GL0 124 [.agg (cdC c)] (iv (cdW c))) :
  PCall prog GL0 221 [.rptr (cdC c) 0,.rmap (mpE m)] (.bool (cdOk cs c)):=by
 simp only[cdFit,Bool.and_eq_true,decide_eq_true_eq] at hf
 obtain⟨f0,f1,f2,f3⟩:=hf
 have bad:cdOk cs c=false→AVal.bool false=AVal.bool (cdOk cs c):=fun h=>by rw[h]
 refine Zf hP g221_ok rfl rfl ?_
 unfold g221
 repeat (first | refine Za (ldr (row:=cdC c) rfl) ?_ | refine Za rfl ?_)
 refine QA 7 ?_
 refine Qj (Za rfl (Xe (Za rfl (Za rfl (YB rfl rfl (Xc (fun h=>bad ?_) (fun b1=>Za rfl ?_)))))))
 ·have:in999 c.cost=false:=by
   rw[Bool.eq_false_iff]; intro hh; simp[in999] at hh; simp at h; omega
  simp[cdOk,this]
 have b1:0≤c.cost∧c.cost≤999:=by simp at b1; omega
 refine Qj (Za rfl (Xe (Za rfl (Za rfl (YB rfl rfl (Xc (fun h=>bad ?_) (fun b2=>Za rfl ?_)))))))
 ·have:in999 c.power=false:=by
   rw[Bool.eq_false_iff]; intro hh; simp[in999] at hh; simp at h; omega
  simp[cdOk,this]
 have b2:0≤c.power∧c.power≤999:=by simp at b2; omega
 refine Qj (Za rfl (Xe (Za rfl (Za rfl (YB rfl rfl (Xc (fun h=>bad ?_) (fun b3=>Za rfl ?_)))))))
 ·have:in999 c.health=false:=by
   rw[Bool.eq_false_iff]; intro hh; simp[in999] at hh; simp at h; omega
  simp[cdOk,this]
 have b3:0≤c.health∧c.health≤999:=by simp at b3; omega
 refine Qj (Za rfl (Xe (Za rfl (Za rfl (YB rfl rfl (Xc (fun h=>bad ?_) (fun b4=>Za rfl ?_)))))))
 ·have:in999 c.shield=false:=by
   rw[Bool.eq_false_iff]; intro hh; simp[in999] at hh; simp at h; omega
  simp[cdOk,this]
 have b4:0≤c.shield∧c.shield≤999:=by simp at b4; omega
 refine Qj (Za rfl (Xe (Za rfl (Za rfl (YB rfl rfl (Xc (fun h=>bad ?_) (fun b5=>Za rfl ?_)))))))
 ·have:in999 c.aurap=false:=by
   rw[Bool.eq_false_iff]; intro hh; simp[in999] at hh; simp at h; omega
  simp[cdOk,this]
 have b5:0≤c.aurap∧c.aurap≤999:=by simp at b5; omega
 refine Qj (Za rfl (Xe (Za rfl (Za rfl (YB rfl rfl (Xc (fun h=>bad ?_) (fun b6=>Za rfl ?_)))))))
 ·have:in999 c.aurah=false:=by
   rw[Bool.eq_false_iff]; intro hh; simp[in999] at hh; simp at h; omega
  simp[cdOk,this]
 have b6:0≤c.aurah∧c.aurah≤999:=by simp at b6; omega
 refine Qj (Za rfl (Yh ?_))
 have hok:cdOk cs c=(nameOk c.name && (decide (cdW c≤200) && (cdSum c && (lstOk cs true 1 c.played && (lstOk cs false 1 c.dead && lstOk cs false 1 c.dawn))))):=by
  have e1:in999 c.cost=true:=by simp[in999]; omega
  have e2:in999 c.power=true:=by simp[in999]; omega
  have e3:in999 c.health=true:=by simp[in999]; omega
  have e4:in999 c.shield=true:=by simp[in999]; omega
  have e5:in999 c.aurap=true:=by simp[in999]; omega
  have e6:in999 c.aurah=true:=by simp[in999]; omega
  simp only[cdOk,e1,e2,e3,e4,e5,e6,Bool.true_and]
  generalize decide (cdW c≤200)=w
  cases w <;> simp
 rw[hok] at bad ⊢
 clear hok
 repeat (first | refine Za (ldr (row:=cdC c) rfl) ?_ | refine Za rfl ?_)
 refine Zd h223 rfl g223_ok.plain rfl ?_
 refine Za rfl ?_
 refine Qi fun k33 hk33=>?_
 have kk1:(nameOk c.name && (decide (cdW c≤200) && (cdSum c && (lstOk cs true 1 c.played && (lstOk cs false 1 c.dead && lstOk cs false 1 c.dawn)))))=false→k33 [.bool true] []:=by
  intro h
  rw[hk33]
  exact Xe (bad h)
 have kk2:nameOk c.name=true→cdW c≤200→(c.unit=true→1≤c.health)→k33 [.bool false] []:=by
  intro n1 n2 n3
  rw[hk33]; clear hk33 kk1 k33
  rw[n1,decide_eq_true n2,Bool.true_and,Bool.true_and] at bad ⊢
  refine Yh ?_
  repeat (first | refine Za (ldr (row:=cdC c) rfl) ?_ | refine Za rfl ?_)
  apply cutF (cdSum c=true)
  ·intro hR
   cases hu:c.unit with
   | true=>
    repeat (first | refine Xa ?_ | refine Zb ?_ | refine Yb rfl ?_ | refine Yc rfl ?_ | refine Yd rfl ?_ | refine Qd rfl ?_ | refine Za (ldr (row:=cdC c) rfl) ?_ | refine Za rfl ?_)
    refine Yh (hR ?_)
    simp[cdSum,hu,n3 hu]
   | false=>
    repeat (first | refine Xa ?_ | refine Zb ?_ | refine Yb rfl ?_ | refine Yc rfl ?_ | refine Yd rfl ?_ | refine Qd rfl ?_ | refine Za (ldr (row:=cdC c) rfl) ?_ | refine Za rfl ?_)
    rw[wrapI (n:=c.power + c.health) (by omega) (by omega),wrapI (n:=c.power + c.health + c.shield) (by omega) (by omega),wrapI (n:=c.power + c.health + c.shield + c.aurap) (by omega) (by omega),wrapI (n:=c.power + c.health + c.shield + c.aurap + c.aurah) (by omega) (by omega)]
    rcases Bool.eq_false_or_eq_true (decide (c.power + c.health + c.shield + c.aurap + c.aurah > 0)) with h | h
    ·rw[h]
     repeat (first | refine Xa ?_ | refine Zb ?_ | refine Yb rfl ?_ | refine Yc rfl ?_ | refine Yd rfl ?_ | refine Qd rfl ?_ | refine Za (ldr (row:=cdC c) rfl) ?_ | refine Za rfl ?_)
     refine Xe (bad ?_)
     have h:¬ (c.power + c.health + c.shield + c.aurap + c.aurah≤0):=by simp at h; omega
     simp[cdSum,hu,h]
    rw[h]
    repeat (first | refine Xa ?_ | refine Zb ?_ | refine Za (ldr (row:=cdC c) rfl) ?_ | refine Za rfl ?_)
    have h:(c.power + c.health + c.shield + c.aurap + c.aurah≤0):=by simp at h; omega
    have l1:=QB f2
    have l2:=QB f3
    rw[bigE] at l1 l2
    rw[List.length_map,List.length_map,wrapI (n:=(c.dead.length:Int) + (c.dawn.length:Int)) (by omega) (by omega)]
    refine Xc (fun h2=>bad ?_) (fun h2=>hR ?_)
    ·have h2:¬ (c.dead.length + c.dawn.length=0):=by simp at h2; omega
     have:cdSum c=false:=by rw[cdSum,hu,decide_eq_false h2]; simp
     simp[this]
    ·have h2:(c.dead.length + c.dawn.length=0):=by simp at h2; omega
     rw[cdSum,hu,decide_eq_true h2,decide_eq_true h]; rfl
  intro b7
  rw[b7,Bool.true_and]
  refine Za rfl (Ye rfl rfl (Za rfl (Za rfl (Za (ldr (row:=cdC c) rfl) ?_))))
  refine Yz (c157 m cs hU true c.played 1 f1 (by omega)) rfl g157_ok.plain rfl rfl ?_
  refine Za rfl (Xc (fun p1=>?_) (fun p1=>?_))
  ·have p1:lstOk cs true 1 c.played=false:=by simpa using p1
   rw[p1]; rfl
  have p1:lstOk cs true 1 c.played=true:=by simpa using p1
  rw[p1,Bool.true_and]
  refine Za rfl (Za rfl (Ye rfl rfl (Za rfl (Za rfl (Za (ldr (row:=cdC c) rfl) ?_)))))
  refine Yz (c157 m cs hU false c.dead 1 f2 (by omega)) rfl g157_ok.plain rfl rfl ?_
  rcases Bool.eq_false_or_eq_true (lstOk cs false 1 c.dead) with p2 | p2
  rotate_left
  ·rw[p2]
   repeat (first | refine Xa ?_ | refine Zb ?_ | refine Yb rfl ?_ | refine Yc rfl ?_ | refine Yd rfl ?_ | refine Qd rfl ?_ | refine Za (ldr (row:=cdC c) rfl) ?_ | refine Za rfl ?_)
   rfl
  rw[p2]
  repeat (first | refine Xa ?_ | refine Zb ?_ | refine Za (ldr (row:=cdC c) rfl) ?_ | refine Za rfl ?_)
  refine Yz (c157 m cs hU false c.dawn 1 f3 (by omega)) rfl g157_ok.plain rfl rfl ?_
  repeat (first | refine Xa ?_ | refine Zb ?_ | refine Za (ldr (row:=cdC c) rfl) ?_ | refine Za rfl ?_)
  rfl
 clear hk33 bad
 refine Xc (fun n1=>?_) (fun n1=>?_)
 ·rw[n1]
  refine kk1 ?_
  have n1:nameOk c.name=false:=by simpa using n1
  rw[n1]; rfl
 have n1:nameOk c.name=true:=by simpa using n1
 refine Za rfl (Za (ldr (cdLd c)) ?_)
 refine Zd h124 rfl g124_ok.plain rfl ?_
 refine Za rfl (Xc (fun n2=>?_) (fun n2=>?_))
 ·rw[n2]
  refine kk1 ?_
  have n2:¬ cdW c≤200:=by simp at n2; omega
  rw[decide_eq_false n2]; simp
 have n2:cdW c≤200:=by simp at n2; omega
 repeat (first | refine Za (ldr (row:=cdC c) rfl) ?_ | refine Za rfl ?_)
 cases hu:c.unit with
 | false=>
  repeat (first | refine Xa ?_ | refine Zb ?_ | refine Yb rfl ?_ | refine Yc rfl ?_ | refine Yd rfl ?_ | refine Qd rfl ?_ | refine Za (ldr (row:=cdC c) rfl) ?_ | refine Za rfl ?_)
  exact kk2 n1 n2 (fun h=>by rw[hu] at h; cases h)
 | true=>
  repeat (first | refine Xa ?_ | refine Zb ?_ | refine Za (ldr (row:=cdC c) rfl) ?_ | refine Za rfl ?_)
  rcases Bool.eq_false_or_eq_true (decide (c.health < 1)) with h | h
  ·rw[h]
   refine kk1 ?_
   have:cdSum c=false:=by simp at h; simp[cdSum,hu]; omega
   rw[this]; simp
  ·rw[h]
   exact kk2 n1 n2 (fun _=>by simp at h; omega)
end Go.Ah.Tz
end
section
namespace Go.Ah.Tz
open Go.Proofs.Tryz (prog)
def tput(t:Tx)(v:Bool):List (Tx × Bool)→List (Tx × Bool)
 | []=>[(t,v)]
 | p :: l=>if t == p.1 then (t,v) :: l else p :: tput t v l
theorem Qbm(t:Tx)(v:Bool):∀ l,aput (.str t) (.bool v) (mpE l)=some (mpE (tput t v l))
 | []=>rfl
 | p :: l=>by
  simp only[mpE,List.map_cons,aput,keyEq,tput]
  cases h:t == p.1 with
  | true=>rfl
  | false=>
   have:=Qbm t v l
   simp only[mpE] at this
   simp only[this]; rfl
theorem QN(t n:Tx)(v:Bool):∀ l,tlook t (tput n v l)=if t == n then some v else tlook t l
 | []=>by simp[tput,tlook]
 | p :: l=>by
  simp only[tput]
  by_cases h:n == p.1
  ·have e:n=p.1:=by simpa using h
   rw[if_pos h,tlook,tlook,← e]
   by_cases h2:t == n <;> simp[h2]
  ·rw[if_neg h,tlook,tlook,QN t n v l]
   have e:n≠p.1:=by simpa using h
   by_cases h2:t == p.1
   ·have e2:t=p.1:=by simpa using h2
    have:¬ (t == n)=true:=by simp[e2]; exact fun h=>e h.symm
    rw[if_pos h2,if_neg this,if_pos h2]
   ·rw[if_neg h2]
    by_cases h3:t == n <;> simp[h3,h2]
theorem QaR:∀ l,roES (mpE l)=true
 | []=>rfl
 | p :: l=>by
  have:=QaR l
  simp only[mpE] at this
  simp[mpE,roES,AVal.ro,this]
theorem Xb3{σ:List ABlk}{b:Nat}{l:List (Tx × Bool)}(h:hget σ b=.map (mpE l))(row:List AVal)(j:Nat):Qt σ 1000 [.rptr row j,.map b]=some ([.rptr row j,.rmap (mpE l)],[b]):=by
 show Qt σ (998 + 1 + 1) _=_
 simp[Qt,h,QaR,AVal.ro]
theorem Yct{σ:List ABlk}{b:Nat}{l:List (Tx × Bool)}(h:hget σ b=.map (mpE l))(t:Tx):Xt true true (.bool false) [.map b,.str t] σ=.ok (.tup [.bool ((tlook t l).getD false),.bool (tlook t l).isSome]) [b] []:=by
 simp only[Xt,YZ,mapOf,h,Z5,cond_true]
 cases tlook t l <;> rfl
theorem QaP{σ:List ABlk}{b:Nat}{l:List (Tx × Bool)}(h:hget σ b=.map (mpE l))(t:Tx):Xt true false (.bool false) [.map b,.str t] σ=.ok (.bool ((tlook t l).getD false)) [b] []:=by
 simp only[Xt,YZ,mapOf,h,Z5,cond_true]
 cases tlook t l <;> rfl
theorem Ya3{σ:List ABlk}{b:Nat}{l:List (Tx × Bool)}(h:hget σ b=.map (mpE l))(t:Tx)(v:Bool):ZA true [.map b,.str t,.bool v] σ=.ok .junk [] [(b,.map (mpE (tput t v l)))]:=by
 simp only[ZA,YZ,h,Qbm,cond_true]
def findO:List Cd→Tx→Option Bool
 | [],_=>none
 | c :: l,t=>if c.name == t then some c.unit else findO l t
theorem XbI:∀ (l:List Cd) (t:Tx) (u:Bool),findC l t u=(match findO l t with
 | none=>false
 | some b=>b || !u)
 | [],_,_=>rfl
 | c :: l,t,u=>by
  simp only[findC,findO]
  by_cases h:c.name == t
  ·rw[if_pos h,if_pos h]
  ·rw[if_neg h,if_neg h]; exact XbI l t u
theorem Yak:∀ (l:List Cd) (c:Cd) (t:Tx),findO (l ++ [c]) t=(match findO l t with
 | some b=>some b
 | none=>if c.name == t then some c.unit else none)
 | [],_,_=>rfl
 | d :: l,c,t=>by
  simp only[List.cons_append,findO]
  by_cases h:d.name == t
  ·rw[if_pos h,if_pos h]
  ·rw[if_neg h,if_neg h]; exact Yak l c t
def UnitsO(m:List (Tx × Bool))(l:List Cd):Prop:=∀ t,tlook t m=findO l t
theorem UnitsO.units{m:List (Tx × Bool)}{l:List Cd}(h:UnitsO m l):Units m l:=by
 intro t u; rw[XbI,h t]; cases findO l t <;> rfl
theorem UnitsO.old{m:List (Tx × Bool)}{l:List Cd}(h:UnitsO m l){c:Cd}(hc:(tlook c.name m).isSome=true):UnitsO m (l ++ [c]):=by
 intro t
 rw[Yak,← h t]
 cases e:tlook t m with
 | some b=>rfl
 | none=>
  by_cases h2:c.name == t
  ·have:c.name=t:=by simpa using h2
   rw[this,e] at hc; cases hc
  ·rw[if_neg h2]
theorem UnitsO.new{m:List (Tx × Bool)}{l:List Cd}(h:UnitsO m l){c:Cd}(hc:(tlook c.name m).isSome=false):UnitsO (tput c.name c.unit m) (l ++ [c]):=by
 intro t
 rw[Yak,← h t,QN]
 by_cases h2:t == c.name
 ·have e:t=c.name:=by simpa using h2
  subst e
  cases e:tlook c.name m with
  | some b=>rw[e] at hc; cases hc
  | none=>simp
 ·have h3:¬ (c.name == t)=true:=by
   intro h; apply h2; simp at h; simp[h]
  rw[if_neg h2,if_neg h3]
  cases tlook t m <;> rfl
def Seen(m:List (Tx × Bool))(l:List Cd):Prop:=∀ t,(tlook t m).getD false=l.any fun d=>d.name == t
theorem Seen.put{m:List (Tx × Bool)}{l:List Cd}(h:Seen m l)(c:Cd):Seen (tput c.name true m) (l ++ [c]):=by
 intro t
 rw[QN,List.any_append,← h t]
 by_cases h2:t == c.name
 ·have e:t=c.name:=by simpa using h2
  simp[e]
 ·have h3:(c.name == t)=false:=by
   rw[Bool.eq_false_iff]; intro h; apply h2; simp at h; simp[h]
  rw[if_neg h2]; simp[h3]
theorem Qk{σ:List ABlk}{b:Nat}(x:ABlk)(h:b < σ.length):hget (σ.set b x) b=x:=YG (by simp[h])
attribute [local irreducible] Ans.rd Ans.pu Ans.wr Ans.dr Ans.gr Ans.gw Ans.gl Ans.gd Ans.opt joinK W
set_option maxHeartbeats 1000000
theorem c180(cs:List Cd)(hf:ZM cs=true)(h221:∀ m,Units m cs→∀ c∈cs,PCall prog GL0 221 [.rptr (cdC c) 0,.rmap (mpE m)] (.bool (cdOk cs c))) :
  PCall prog GL0 180 [cdV cs] (.agg [iv (cdsChk cs).1,iv (cdsChk cs).2]):=by
 simp only[ZM,Bool.and_eq_true,decide_eq_true_eq] at hf
 obtain⟨f0,f1⟩:=hf
 rw[bigE] at f0
 refine Zf hP g180_ok rfl rfl ?_
 unfold g180
 refine Ye rfl rfl (Za rfl (Za rfl ?_))
 refine Xc (fun h=>?_) (fun h=>?_)
 ·have h:240 < cs.length:=by simp at h; omega
  refine Za rfl (Ye rfl rfl (Yj rfl ?_))
  rw[cdsChk,if_pos h]
 have h:¬ 240 < cs.length:=by simp at h; omega
 rw[cdsChk,if_neg h]
 refine Ye rfl rfl (Za rfl ?_)
 refine Xm (ι:=Nat) (fun i vs σ=>∃ m,vs=[iv i]∧hget σ 0=.box [iv 0,iv 0]∧hget σ 1=.map (mpE m)∧1 < σ.length∧i≤cs.length∧UnitsO m (cs.take i)) (fun i=>cs.length - i) 0 ⟨[],rfl,rfl,rfl,by simp,by omega,fun t=>by simp[tlook,findO]⟩ ?_
 rintro i vs σ again ⟨m,rfl,hz,hm,hln,hi,hu⟩ hag
 refine Za rfl ?_
 refine Xc (fun h=>?_) (fun h=>?_)
 ·have hil:i < cs.length:=by simpa using h
  have hix:=fun (s:List ABlk)=>Qo s cdC false false 12 cs .i64 i hil
  have htk:cs.take (i + 1)=cs.take i ++ [cs[i]]:=Zw cs i hil
  generalize cs[i]=c at hix htk
  refine Qi fun k10 hk10=>?_
  have kk:∀ m' σ',UnitsO m' (cs.take i ++ [c])→hget σ' 0=.box [iv 0,iv 0]→hget σ' 1=.map (mpE m')→1 < σ'.length→k10 [] σ':=by
   intro m' σ' q1 q2 q3 q4
   rw[hk10]
   refine Za (Yn ..) ?_
   rw[Zh (n:=i) (by omega)]
   exact hag (i + 1) _ _ (by omega) ⟨m',rfl,q2,q3,q4,by omega,by rw[htk]; exact q1⟩
  clear hk10 hag
  refine Za (hix _) (Za (ldr (cdLd _)) (ZB (row:=cdC c) (row':=cdC c) rfl rfl rfl ?_))
  have hB0:=Xn σ (ABlk.box (cdC c))
  have hz':hget (σ ++ [ABlk.box (cdC c)]) 0=.box [iv 0,iv 0]:=Zl _ hz (by simp)
  have hm':hget (σ ++ [ABlk.box (cdC c)]) 1=.map (mpE m):=Zl _ hm (by simp)
  have hl':1 < (σ ++ [ABlk.box (cdC c)]).length:=by simp; omega
  generalize σ ++ [ABlk.box (cdC c)]=base at hB0 hz' hm' hl' ⊢
  generalize σ.length=b at hB0 ⊢
  refine Za rfl (Za (ld hB0 rfl) (Za (Yct hm' _) (Za rfl (Za rfl (Za rfl ?_)))))
  refine Xc (fun h=>?_) (fun h=>?_)
  ·have h:(tlook c.name m).isSome=false:=by simpa using h
   refine Za rfl (Za (ld hB0 rfl) (Za rfl (Za (ld hB0 rfl) (Ye (Ya3 hm' _ _) (Yo _ hl') ?_))))
   exact kk _ _ (hu.new h) (Xh hz' (by simp) (by omega)) (Qk _ hl') (by simpa using hl')
  ·have h:(tlook c.name m).isSome=true:=by simpa using h
   exact kk _ _ (hu.old h) hz' hm' hl'
 have h:i=cs.length:=by simp at h; omega
 subst h
 rw[List.take_length] at hu
 have hmay:=h221 m hu.units
 clear hag hu h221
 refine Ye rfl (XL _ _) (Za rfl ?_)
 have hz':hget (σ ++ [ABlk.map []]) 0=.box [iv 0,iv 0]:=Zl _ hz (by simp)
 have hm':hget (σ ++ [ABlk.map []]) 1=.map (mpE m):=Zl _ hm (by simp)
 have hs':hget (σ ++ [ABlk.map []]) σ.length=.map (mpE []):=Xn _ _
 have hl':σ.length < (σ ++ [ABlk.map []]).length:=by simp
 generalize σ ++ [ABlk.map []]=base at hz' hm' hs' hl' ⊢
 generalize σ.length=b at hs' hl' hln ⊢
 refine Xm (ι:=Nat) (fun i vs s=>∃ m2,vs=[iv i]∧hget s 0=.box [iv 0,iv 0]∧hget s 1=.map (mpE m)∧hget s b=.map (mpE m2)∧b < s.length∧i≤cs.length∧Seen m2 (cs.take i)∧cdsGo cs [] cs=cdsGo cs (cs.take i) (cs.drop i)) (fun i=>cs.length - i) 0 ⟨[],rfl,hz',hm',hs',hl',by omega,fun t=>by simp[tlook],by simp⟩ ?_
 clear hz' hm' hs' hl' base hz hm σ
 rintro i vs s again ⟨m2,rfl,hz,hm,hs,hl,hi,hse,hu⟩ hag
 refine Za rfl ?_
 refine Xc (fun h=>?_) (fun h=>?_)
 rotate_left
 ·have h:i=cs.length:=by simp at h; omega
  subst h
  rw[List.drop_length,cdsGo] at hu
  refine Za rfl (Ye (stv hz rfl rfl rfl) (Yo _ (by show 0 < s.length; omega)) (Yj (ZG (by show 0 < s.length; omega) rfl) ?_))
  rw[hu]
 have hil:i < cs.length:=by simpa using h
 have hdr:cs.drop i=cs[i] :: cs.drop (i + 1):=by rw[List.drop_eq_getElem_cons hil]
 have hix:=fun (s:List ABlk)=>Qo s cdC false false 12 cs .i64 i hil
 have htk:cs.take (i + 1)=cs.take i ++ [cs[i]]:=Zw cs i hil
 have hmy:=hmay _ (List.getElem_mem hil)
 generalize cs[i]=c at hix htk hdr hmy
 rw[hdr,cdsGo,← hse c.name] at hu
 refine Za (hix _) (Za rfl (Za rfl (Za (ldr (cdLd0 _)) (Za (QaP hs _) ?_))))
 refine Xc (fun h=>?_) (fun h=>?_)
 ·rw[if_pos h] at hu
  refine Za rfl (Za rfl (Za (ldr (Qbq _)) (Za rfl (Ye (stv hz rfl rfl rfl) (Yo _ (by show 0 < s.length; omega)) (Yj (ZG (by show 0 < s.length; omega) rfl) ?_)))))
  rw[hu]
 rw[if_neg (by rw[h]; simp)] at hu
 refine Yz hmy rfl g221_ok.plain (Xb3 hm _ _) rfl ?_
 refine Za rfl ?_
 refine Xc (fun h=>?_) (fun h=>?_)
 ·have h:cdOk cs c=false:=by simpa using h
  rw[h] at hu
  replace hu:cdsGo cs [] cs=(130,c.pl):=hu
  refine Za rfl (Za rfl (Za (ldr (Qbq _)) (Za rfl (Ye (stv hz rfl rfl rfl) (Yo _ (by show 0 < s.length; omega)) (Yj (ZG (by show 0 < s.length; omega) rfl) ?_)))))
  rw[hu]
 ·have h:cdOk cs c=true:=by simpa using h
  rw[h,if_pos rfl] at hu
  refine Za rfl (Za rfl (Za (ldr (cdLd0 _)) (Ye (Ya3 hs _ _) (Yo _ hl) (Za (Yn ..) ?_))))
  rw[Zh (n:=i) (by omega)]
  refine hag (i + 1) _ _ (by omega) ⟨_,rfl,?_,?_,Qk _ hl,by simpa using hl,by omega,by rw[htk]; exact hse.put c,by rw[htk]; exact hu⟩
  ·exact Xh hz (by simp) (by omega)
  ·exact Xh hm (by simp) (by omega)
end Go.Ah.Tz
end
section
namespace Go.Ah.Tz
open Go.Proofs.Tryz (prog)
set_option maxRecDepth 1000000
theorem hTm:∀ f np g,tb.get f=some (np,g)→GOk prog GL0 f np g:=GT.get_ok ZcF
def ownTx:Tx:=[99,97,114,100,32,117,110,105,116,32,99,104,97,114,109,32,102,111,114,109,97,116,32,112,108,97,121,101,100,32,100,101,97,100,32,100,97,119,110,32,97,117,114,97,32,115,104,105,101,108,100,32,104,97,114,109,32,109,101,110,100,32,100,114,97,119,32,103,97,105,110,32,100,114,111,112,32,108,111,111,107,32,115,104,111,119,32,115,117,109,109,111,110,32,105,102,32,101,108,115,101,32,109,101,32,102,111,101,32,116,97,114,103,101,116,32,108,105,102,101,32,104,97,110,100,32,100,101,99,107,32,117,110,105,116,115,32,109,97,110,97,32,99,111,115,116,32,116,111,112,32,112,111,119,101,114,32,109,105,110,32,109,97,120,32,110,111,116,32,97,110,100,32,111,114,32,104,111,108,100,115,32,108,101,97,115,116,32,109,111,115,116,32,99,111,112,105,101,115,32,98,97,110,110,101,100,32,115,105,110,103,108,101]
theorem p264:PCall prog GL0 264 [.str ownTx] (.rsl true false 1 (keysR.map txC)):=YY hP hTm (much:=1000000000) 60 (by kernel_rfl)
def ownM:List (Tx × Bool):=keysR.foldl (fun m k=>tput k true m) []
theorem XaI(t:Tx):∀ (l:List Tx) (m:List (Tx × Bool)),(tlook t (l.foldl (fun m k=>tput k true m) m)).getD false=((tlook t m).getD false || ownIn l t)
 | [],m=>by simp[ownIn]
 | k :: l,m=>by
  rw[List.foldl_cons,XaI t l,QN,ownIn]
  by_cases h:t == k
  ·have e:t=k:=by simpa using h
   subst e; simp
  ·have h2:(k == t)=false:=by
    rw[Bool.eq_false_iff]; intro q; apply h; simp at q; simp[q]
   rw[if_neg h,h2,Bool.false_or]
theorem Ycu(t:Tx):(tlook t ownM).getD false=ownIn keysR t:=by
 rw[ownM,XaI]; rfl
attribute [local irreducible] Ans.rd Ans.pu Ans.wr Ans.dr Ans.gr Ans.gw Ans.gl Ans.gd Ans.opt joinK W
theorem c258:PCall prog GL0 258 [] (.rmap (mpE ownM)):=by
 refine Za2 hP g258_ok rfl ⟨.map 0,[.map (mpE ownM)],?_,?_⟩
 ·show (match Qt [.map (mpE ownM)] (998 + 1 + 1) [.map 0] with
   | some ([y],_)=>some y
   | _=>none)=_
  have:hget [ABlk.map (mpE ownM)] 0=.map (mpE ownM):=rfl
  simp only[Qt,this,QaR,cond_true]
 unfold g258
 refine Ye rfl rfl ?_
 refine Zd p264 rfl g264_ok.plain rfl ?_
 refine Za rfl ?_
 have hlen:keysR.length=41:=rfl
 unfold ownM
 generalize keysR=l at hlen ⊢
 refine Xm (ι:=Nat) (fun i vs σ=>∃ m,vs=[iv i]∧σ=[.map (mpE m)]∧i≤l.length∧l.foldl (fun m k=>tput k true m) []=(l.drop i).foldl (fun m k=>tput k true m) m) (fun i=>l.length - i) 0 ⟨[],rfl,rfl,by omega,by simp⟩ ?_
 rintro i vs σ again ⟨m,rfl,rfl,hi,hu⟩ hag
 refine Za rfl ?_
 refine Xc (fun h=>?_) (fun h=>?_)
 ·have h:i < l.length:=by simpa using h
  have hdr:l.drop i=l[i] :: l.drop (i + 1):=by rw[List.drop_eq_getElem_cons h]
  rw[hdr,List.foldl_cons] at hu
  refine Za (Qo _ txC _ _ _ l .i64 i h) (Za (ldr (txLd _)) (Ye (Ya3 (b:=0) rfl _ _) rfl (Za (Yn ..) ?_)))
  rw[Zh (n:=i) (by omega)]
  exact hag (i + 1) _ _ (by omega) ⟨_,rfl,rfl,by omega,hu⟩
 ·have h:i=l.length:=by simp at h; omega
  subst h
  rw[List.drop_length,List.foldl_nil] at hu
  rw[hu]; exact⟨rfl,rfl⟩
theorem c242(s:Tx):PCall prog GL0 242 [.str s] (.bool (ownIn keysR s)):=by
 refine Zf hP g242_ok rfl rfl ?_
 unfold g242
 refine Zd c258 rfl g258_ok.plain rfl ?_
 refine Za (Zm ..) ?_
 rw[Ycu]
end Go.Ah.Tz
end
section
namespace Go.Ah.Tz
open Go.Proofs.Tryz (prog)
attribute [local irreducible] Ans.rd Ans.pu Ans.wr Ans.dr Ans.gr Ans.gw Ans.gl Ans.gd Ans.opt joinK W
theorem c257(x:Int):PCall prog GL0 257 [.int .i32 x] (.bool (isDig x)):=by
 refine Zf hP g257_ok rfl rfl ?_
 unfold g257
 refine Za rfl (QX rfl rfl ?_)
 exact congrArg AVal.bool (by rw[Bool.eq_iff_iff]; simp[isDig])
theorem c256(x:Int):PCall prog GL0 256 [.int .i32 x] (.bool (isLet x)):=by
 refine Zf hP g256_ok rfl rfl ?_
 unfold g256
 refine Za rfl (QX rfl rfl ?_)
 refine Qi fun k1 hk1=>?_
 have kk:∀ c,c=decide ((97≤x∧x≤122)∨(65≤x∧x≤90))→k1 [.bool c] []:=by
  rintro c hc
  rw[hk1]; clear hk1 k1
  refine Xc (fun h=>?_) (fun h=>?_)
  ·rw[h] at hc
   have hc:(97≤x∧x≤122)∨(65≤x∧x≤90):=by simpa using hc.symm
   exact congrArg AVal.bool (by rw[eq_comm,isLet,decide_eq_true_eq]; omega)
  rw[h] at hc
  have hc:¬ ((97≤x∧x≤122)∨(65≤x∧x≤90)):=of_decide_eq_false hc.symm
  refine Za (Zg ..) ?_
  refine Qi fun k1 hk1=>?_
  have k2:∀ c,c=decide (x=215∨x=247)→k1 [.bool c] []:=by
   rintro c hc2
   rw[hk1]; clear hk1 k1
   refine Xc (fun h=>?_) (fun h=>?_)
   ·rw[h] at hc2
    have hc2:x=215∨x=247:=of_decide_eq_true hc2.symm
    exact congrArg AVal.bool (by rw[eq_comm,isLet,decide_eq_false_iff_not]; omega)
   rw[h] at hc2
   have hc2:¬ (x=215∨x=247):=of_decide_eq_false hc2.symm
   refine Za rfl (QX rfl rfl ?_)
   exact congrArg AVal.bool (by rw[Bool.eq_iff_iff,Bool.and_eq_true,isLet,decide_eq_true_eq,decide_eq_true_eq,decide_eq_true_eq]; omega)
  clear hk1
  refine Xc (fun h=>k2 _ ?_) (fun h=>?_)
  ·rw[h]; rw[eq_comm,decide_eq_true_eq]; exact Or.inl (of_decide_eq_true h)
  ·have h:x≠215:=of_decide_eq_false h
   refine Za (Zg ..) (k2 _ ?_)
   rw[Bool.eq_iff_iff,decide_eq_true_eq,decide_eq_true_eq]; omega
 clear hk1
 refine Xc (fun h=>kk _ ?_) (fun h=>?_)
 ·rw[h]; rw[eq_comm,decide_eq_true_eq]; simp at h; omega
 ·refine Za rfl (QX rfl rfl (kk _ ?_))
  rw[Bool.eq_iff_iff,Bool.and_eq_true,decide_eq_true_eq,decide_eq_true_eq,decide_eq_true_eq]; simp at h; omega
end Go.Ah.Tz
end
section
namespace Go.Ah.Tz
theorem all256{p:Nat→Bool}(h:(List.range 256).all p=true){c:Nat}(hc:c < 256):p c=true:=List.all_eq_true.1 h c (List.mem_range.2 hc)
theorem and31{c:Nat}(hc:c < 256):bits .and .i64 (c:Int) 31=((c % 32:Nat):Int):=by
 have:=all256 (p:=fun c=>bits .and .i64 (c:Int) 31 == ((c % 32:Nat):Int)) (by kernel_rfl) hc
 simpa using this
theorem and15{c:Nat}(hc:c < 256):bits .and .i64 (c:Int) 15=((c % 16:Nat):Int):=by
 have:=all256 (p:=fun c=>bits .and .i64 (c:Int) 15 == ((c % 16:Nat):Int)) (by kernel_rfl) hc
 simpa using this
theorem and7{c:Nat}(hc:c < 256):bits .and .i64 (c:Int) 7=((c % 8:Nat):Int):=by
 have:=all256 (p:=fun c=>bits .and .i64 (c:Int) 7 == ((c % 8:Nat):Int)) (by kernel_rfl) hc
 simpa using this
theorem and63{c:Nat}(hc:c < 256):bits .and .u8 (c:Int) 63=((c % 64:Nat):Int):=by
 have:=all256 (p:=fun c=>bits .and .u8 (c:Int) 63 == ((c % 64:Nat):Int)) (by kernel_rfl) hc
 simpa using this
theorem and192{c:Nat}(hc:c < 256):(bits .and .u8 (c:Int) 192 != 128) = !(c / 64 == 2):=by
 have:=all256 (p:=fun c=>(bits .and .u8 (c:Int) 192 != 128) == !(c / 64 == 2)) (by kernel_rfl) hc
 simpa using this
theorem Zb8(c:UInt8):rCont c = !(c.toNat / 64 == 2):=and192 c.toNat_lt
theorem or64(q y:Nat)(hq:q < 1099511627776)(hy:y < 64):bits .or .i64 ((q * 64:Nat):Int) (y:Int)=((q * 64 + y:Nat):Int):=by
 have h1:(BitVec.ofInt 64 ((q * 64:Nat):Int)).toNat=q * 64:=by
  rw[BitVec.toNat_ofInt]; omega
 have h2:(BitVec.ofInt 64 (y:Int)).toNat=y:=by
  rw[BitVec.toNat_ofInt]; omega
 have h3:q * 64 ||| y=q * 64 + y:=by
  have:=Nat.two_pow_add_eq_or_of_lt (i:=6) (b:=y) (by omega) q
  rw[show 2 ^ 6 * q=q * 64 by omega] at this
  exact this.symm
 show IntKind.i64.wrap (((BitVec.ofInt 64 ((q * 64:Nat):Int)) ||| (BitVec.ofInt 64 (y:Int))).toNat:Int)=_
 rw[BitVec.toNat_or,h1,h2,h3]
 exact wrapI (by omega) (by omega)
theorem Yb6(x:Nat)(hx:x < 1099511627776)(c:UInt8):rStep (x:Int) c=((x * 64 + c.toNat % 64:Nat):Int):=by
 have e:shl6 (x:Int)=((x * 64:Nat):Int):=by
  show IntKind.i64.wrap ((x:Int) * 64)=_
  rw[wrapI (by omega) (by omega)]; simp
 rw[rStep,e,and63 c.toNat_lt,wrapI (by omega) (by omega)]
 exact or64 x _ hx (Nat.mod_lt _ (by omega))
theorem Xb5(s:Tx)(a:Nat)(ha:a < s.length) :
  (((runeR s a).2≠0→((Utf8.decode ⟨s.toArray⟩ a).1:Int)=(runeR s a).1∧(Utf8.decode ⟨s.toArray⟩ a).2=(runeR s a).2)∧((runeR s a).2=0→(Utf8.decode ⟨s.toArray⟩ a).1=65533)):=by
 have hat:∀ k,((⟨s.toArray⟩:ByteArray).get! (a + k))=(s[a + k]?).getD 0:=by
  intro k
  show (s.toArray)[a + k]! = _
  simp[List.getElem!_eq_getElem?_getD]
  rfl
 have hsz:(⟨s.toArray⟩:ByteArray).size=s.length:=by simp[ByteArray.size]
 rw[runeR,List.getElem?_eq_getElem ha]
 unfold Utf8.decode
 simp only[hat,hsz]
 have h0:(s[a + 0]?).getD 0=s[a]:=by simp[List.getElem?_eq_getElem ha]
 rw[h0]
 have hb:s[a].toNat < 256:=s[a].toNat_lt
 generalize s[a].toNat=b at hb ⊢
 have hcn:∀ k,¬ a + k < s.length→s[a + k]?=none:=fun k h=>by simp; omega
 have ht:∀ (i x:Nat),x < 1000000→∀ m,rTail s a (m + 1) i (x:Int)=if a + i < s.length∧((s[a + i]?).getD 0).toNat / 64=2 then rTail s a m (i + 1) ((x * 64 + ((s[a + i]?).getD 0).toNat % 64:Nat):Int) else none:=by
  intro i x hx m
  by_cases h:a + i < s.length
  ·rw[rTail,List.getElem?_eq_getElem h]
   simp only[Zb8,Option.getD_some,h,true_and]
   by_cases h2:s[a + i].toNat / 64=2
   ·simp[h2,Yb6 x (by omega)]
   ·simp[h2]
  ·rw[rTail,hcn i h]; simp[h]
 have hcd:∀ k,(decide (a + k < s.length) && (((s[a + k]?).getD 0).toNat / 64 == 2))=decide (a + k < s.length∧((s[a + k]?).getD 0).toNat / 64=2):=by
  intro k; rw[Bool.eq_iff_iff]; simp
 simp only[hcd]
 have t1:=fun x hx m=>ht 1 x hx m
 have t2:=fun x hx m=>ht 2 x hx m
 have t3:=fun x hx m=>ht 3 x hx m
 clear ht hcd hcn hat hsz h0
 generalize ((s[a + 1]?).getD 0).toNat=d1 at *
 generalize ((s[a + 2]?).getD 0).toNat=d2 at *
 generalize ((s[a + 3]?).getD 0).toNat=d3 at *
 by_cases c1:b < 128
 ·have hh:rHead (b:Int)=some (1,(b:Int),0):=by
   rw[rHead,if_neg (by omega),if_neg (by omega),if_neg (by omega),if_neg (by omega)]
  simp only[hh,if_pos c1,Nat.sub_self,rTail,rEnd]
  rw[if_neg (by omega)]; simp
 rw[if_neg c1]
 by_cases c2:b < 192
 ·have hh:rHead (b:Int)=none:=by
   rw[rHead,if_neg (by omega),if_neg (by omega),if_neg (by omega),if_pos (by omega)]
  simp only[hh]
  have e1:¬ b / 32=6:=by omega
  have e2:¬ b / 16=14:=by omega
  have e3:¬ b / 8=30:=by omega
  simp[e1,e2,e3,Utf8.runeError]
 by_cases c3:b < 224
 ·have hh:rHead (b:Int)=some (2,((b % 32:Nat):Int),128):=by
   rw[rHead,if_pos (by omega),and31 hb]
  have e1:b / 32=6:=by omega
  have e2:¬ b / 16=14:=by omega
  have e3:¬ b / 8=30:=by omega
  simp only[hh]
  rw[t1 _ (by omega) 0]
  by_cases p1:a + 1 < s.length∧d1 / 64=2
  ·simp only[if_pos p1,rTail,rEnd,e1,decide_eq_true p1,beq_self_eq_true,Bool.and_self,if_true]
   by_cases y:b % 32 * 64 + d1 % 64 ≥ 128
   ·rw[if_pos y,if_neg (by omega)]; simp
   ·rw[if_neg y,if_pos (by omega)]; simp[Utf8.runeError]
  ·simp only[if_neg p1,rEnd,decide_eq_false p1,Bool.and_false,Bool.false_and,Bool.false_eq_true,if_false]
   simp[Utf8.runeError]
 by_cases c4:b < 240
 ·have hh:rHead (b:Int)=some (3,((b % 16:Nat):Int),2048):=by
   rw[rHead,if_neg (by omega),if_pos (by omega),and15 hb]
  have e1:¬ b / 32=6:=by omega
  have e2:b / 16=14:=by omega
  have e3:¬ b / 8=30:=by omega
  simp only[hh]
  rw[t1 _ (by omega) 1]
  have f1:(b / 32 == 6)=false:=by simpa using e1
  by_cases p1:a + 1 < s.length∧d1 / 64=2
  ·rw[if_pos p1,t2 _ (by omega) 0]
   by_cases p2:a + 2 < s.length∧d2 / 64=2
   ·simp only[if_pos p2,rTail,rEnd,f1,e2,decide_eq_true p1,decide_eq_true p2,beq_self_eq_true,Bool.and_self,if_true,Bool.false_and,Bool.false_eq_true,if_false]
    by_cases y:(b % 16 * 64 + d1 % 64) * 64 + d2 % 64 < 2048∨(55296≤(b % 16 * 64 + d1 % 64) * 64 + d2 % 64∧(b % 16 * 64 + d1 % 64) * 64 + d2 % 64≤57343)
    ·rw[if_pos (by omega),if_neg (by simp[Utf8.valid]; omega)]; simp[Utf8.runeError]
    ·rw[if_neg (by omega),if_pos (by simp[Utf8.valid]; omega)]; simp; omega
   ·simp only[if_neg p2,rEnd,f1,decide_eq_false p2,Bool.and_false,Bool.false_and,Bool.false_eq_true,if_false]
    simp[Utf8.runeError]
  ·simp only[if_neg p1,rEnd,f1,decide_eq_false p1,Bool.and_false,Bool.false_and,Bool.false_eq_true,if_false]
   simp[Utf8.runeError]
 by_cases c5:b < 248
 ·have hh:rHead (b:Int)=some (4,((b % 8:Nat):Int),65536):=by
   rw[rHead,if_neg (by omega),if_neg (by omega),if_pos (by omega),and7 hb]
  have e3:b / 8=30:=by omega
  have f1:(b / 32 == 6)=false:=by simp; omega
  have f2:(b / 16 == 14)=false:=by simp; omega
  simp only[hh]
  rw[t1 _ (by omega) 2]
  by_cases p1:a + 1 < s.length∧d1 / 64=2
  ·rw[if_pos p1,t2 _ (by omega) 1]
   by_cases p2:a + 2 < s.length∧d2 / 64=2
   ·rw[if_pos p2,t3 _ (by omega) 0]
    by_cases p3:a + 3 < s.length∧d3 / 64=2
    ·simp only[if_pos p3,rTail,rEnd,f1,f2,e3,decide_eq_true p1,decide_eq_true p2,decide_eq_true p3,beq_self_eq_true,Bool.and_self,if_true,Bool.false_and,Bool.false_eq_true,if_false]
     by_cases y:((b % 8 * 64 + d1 % 64) * 64 + d2 % 64) * 64 + d3 % 64 < 65536∨1114111 < ((b % 8 * 64 + d1 % 64) * 64 + d2 % 64) * 64 + d3 % 64
     ·rw[if_pos (by omega),if_neg (by simp[Utf8.valid]; omega)]; simp[Utf8.runeError]
     ·rw[if_neg (by omega),if_pos (by simp[Utf8.valid]; omega)]; simp; omega
    ·simp only[if_neg p3,rEnd,f1,f2,decide_eq_false p3,Bool.and_false,Bool.false_and,Bool.false_eq_true,if_false]
     simp[Utf8.runeError]
   ·simp only[if_neg p2,rEnd,f1,f2,decide_eq_false p2,Bool.and_false,Bool.false_and,Bool.false_eq_true,if_false]
    simp[Utf8.runeError]
  ·simp only[if_neg p1,rEnd,f1,f2,decide_eq_false p1,Bool.and_false,Bool.false_and,Bool.false_eq_true,if_false]
   simp[Utf8.runeError]
 ·have hh:rHead (b:Int)=none:=by
   rw[rHead,if_neg (by omega),if_neg (by omega),if_neg (by omega),if_pos (by omega)]
  simp only[hh]
  have e1:¬ b / 32=6:=by omega
  have e2:¬ b / 16=14:=by omega
  have e3:¬ b / 8=30:=by omega
  simp[e1,e2,e3,Utf8.runeError]
end Go.Ah.Tz
end
section
namespace Go.Ah.Tz
open Go.Proofs.Tryz (prog)
theorem Xbo(s:Tx)(a:Nat):∀ (m i:Nat) (x y:Int),rTail s a (m + 1) i x=some y→a + i + m < s.length
 | m,i,x,y,h=>by
  rw[rTail] at h
  cases e:s[a + i]? with
  | none=>rw[e] at h; cases h
  | some c=>
   have hl:a + i < s.length:=(List.getElem?_eq_some_iff.1 e).1
   rw[e] at h
   cases m with
   | zero=>omega
   | succ m=>
    have h2:(if rCont c=true then none else rTail s a (m + 1) (i + 1) (rStep x c))=some y:=h
    split at h2
    ·cases h2
    ·have:=Xbo s a m (i + 1) _ _ h2
     omega
theorem Zcb(s:Tx)(a:Nat)(ha:a < s.length)(h:(runeR s a).2≠0):a + (runeR s a).2≤s.length:=by
 unfold runeR at h ⊢
 rw[List.getElem?_eq_getElem ha] at h ⊢
 simp only at h ⊢
 cases e:rHead (s[a].toNat:Int) with
 | none=>rw[e] at h; simp at h
 | some p=>
  obtain⟨n,x,least⟩:=p
  rw[e] at h
  simp only at h ⊢
  cases e2:rTail s a (n - 1) 1 x with
  | none=>rw[e2] at h; simp[rEnd] at h
  | some y=>
   rw[e2] at h
   have h3:(rEnd n least (some y)).2≤n:=by rw[rEnd]; split <;> simp
   by_cases hn:n≤1
   ·omega
   ·have:=Xbo s a (n - 2) 1 x y (by rw[show n - 2 + 1=n - 1 by omega]; exact e2)
    omega
attribute [local irreducible] Ans.rd Ans.pu Ans.wr Ans.dr Ans.gr Ans.gw Ans.gl Ans.gd Ans.opt joinK W
set_option maxHeartbeats 1000000
theorem YcB{s:Tx}{a:Nat}(h:a < s.length):Za7 [.iter 0] [.siter s a]=.ok (.tup [.bool true,iv a,.int .i32 (Utf8.decode ⟨s.toArray⟩ a).1]) [] [(0,.siter s (a + (Utf8.decode ⟨s.toArray⟩ a).2))]:=by
 have hb:Nat.blt a s.length=true:=by simpa[Nat.blt_eq] using h
 show (bif Nat.blt a s.length then _ else _)=_
 rw[hb]; rfl
theorem Qcu{s:Tx}{a:Nat}(h:¬ a < s.length):Za7 [.iter 0] [.siter s a]=.ok (.tup [.bool false]) [0] []:=by
 have hb:Nat.blt a s.length=false:=by rw[Bool.eq_false_iff]; intro q; exact h (by simpa[Nat.blt_eq] using q)
 show (bif Nat.blt a s.length then _ else _)=_
 rw[hb]; rfl
theorem c241(s:Tx)(hs:s.length≤big):PCall prog GL0 241 [.str s] (.tup [iv (nameR s 0 0).1,iv (nameR s 0 0).2]):=by
 rw[bigE] at hs
 refine Zf hP g241_ok rfl rfl ?_
 unfold g241
 refine Ye rfl rfl ?_
 refine Xm (ι:=Nat) (fun a vs σ=>∃ n:Nat,vs=[iv n]∧σ=[.siter s a]∧n≤a∧(a=0↔n=0)∧a≤s.length∧nameR s 0 0=nameR s a n) (fun a=>s.length - a) 0 ⟨0,rfl,rfl,by omega,by simp,by omega,rfl⟩ ?_
 rintro a vs σ again ⟨n,rfl,rfl,i1,i0,i2,hu⟩ hag
 by_cases h:a < s.length
 rotate_left
 ·refine Ye (Qcu h) rfl (Za rfl (Yh (Za rfl ?_)))
  rw[show nameR s a n=(a,n) by rw[nameR,dif_neg h]] at hu
  rw[hu,show s.length=a by omega]; rfl
 refine Ye (YcB h) rfl (Za rfl (Xe (Za rfl (Za rfl ?_))))
 obtain⟨d1,d2⟩:=Xb5 s a h
 have hin:=Zcb s a h
 generalize Utf8.decode ⟨s.toArray⟩ a=p at d1 d2 ⊢
 have hst:Xar s a n↔(isLet (p.1:Int)=false∧(a=0∨(isDig (p.1:Int)=false∧(p.1:Int)≠39))):=by
  unfold Xar
  by_cases h0:(runeR s a).2=0
  ·have:=d2 h0
   rw[this]
   have e1:isLet 65533=false:=by decide
   have e2:isDig 65533=false:=by decide
   simp[h0,e1,e2]
  ·rw[(d1 h0).1]
   simp[h0,i0]
 have stp:(isLet (p.1:Int)=false∧(a=0∨(isDig (p.1:Int)=false∧(p.1:Int)≠39)))→AVal.tup [iv a,iv n]=AVal.tup [iv (nameR s 0 0).1,iv (nameR s 0 0).2]:=by
  intro q
  rw[hu,nameR,dif_pos h,dif_pos (hst.2 q)]
 have go:¬ (isLet (p.1:Int)=false∧(a=0∨(isDig (p.1:Int)=false∧(p.1:Int)≠39)))→(W prog GL0).rd (Qb .add false [iv n,(.int .i64 1)] [.siter s (a + p.2)]) fun t31=>again [t31] [.siter s (a + p.2)]:=by
  intro q
  have q2:¬ Xar s a n:=fun z=>q (hst.1 z)
  have h0:(runeR s a).2≠0:=fun e=>q2 (Or.inl e)
  have:=(d1 h0).2
  have:=hin h0
  refine Za (Yn ..) ?_
  rw[Zh (n:=n) (by omega)]
  refine hag (a + p.2) _ _ (by omega) ⟨n + 1,rfl,rfl,by omega,by omega,by omega,?_⟩
  rw[hu,nameR,dif_pos h,dif_neg q2,(d1 h0).2]
 clear hag hu hst d1 d2 hin
 generalize (p.1:Int)=r at stp go ⊢
 refine Zd (c256 r) rfl g256_ok.plain rfl ?_
 refine Za rfl ?_
 rcases Bool.eq_false_or_eq_true (!isLet r) with h1 | h1
 rotate_left
 ·rw[h1]
  repeat (first | refine Xa ?_ | refine Zb ?_ | refine Yb rfl ?_ | refine Yc rfl ?_ | refine Yd rfl ?_ | refine Qd rfl ?_ | refine Za rfl ?_)
  exact Yh (go (by have h1:isLet r=true:=(by simpa using h1); simp[h1]))
 rw[h1]
 have h1:isLet r=false:=by simpa using h1
 repeat (first | refine Xa ?_ | refine Zb ?_ | refine Za rfl ?_)
 rcases Bool.eq_false_or_eq_true ((a:Int) == 0) with h2 | h2
 ·rw[h2]
  repeat (first | refine Xa ?_ | refine Zb ?_ | refine Yb rfl ?_ | refine Yc rfl ?_ | refine Yd rfl ?_ | refine Qd rfl ?_ | refine Za rfl ?_)
  exact Xe (stp ⟨h1,Or.inl (by simpa using h2)⟩)
 rw[h2]
 have h2:a≠0:=by simpa using h2
 repeat (first | refine Xa ?_ | refine Zb ?_ | refine Za rfl ?_)
 refine Zd (c257 r) rfl g257_ok.plain rfl ?_
 repeat (first | refine Xa ?_ | refine Zb ?_ | refine Za rfl ?_)
 rcases Bool.eq_false_or_eq_true (!isDig r) with h3 | h3
 rotate_left
 ·rw[h3]
  repeat (first | refine Xa ?_ | refine Zb ?_ | refine Yb rfl ?_ | refine Yc rfl ?_ | refine Yd rfl ?_ | refine Qd rfl ?_ | refine Za rfl ?_)
  exact Yh (go (by have h3:isDig r=true:=(by simpa using h3); simp[h2,h3]))
 rw[h3]
 have h3:isDig r=false:=by simpa using h3
 repeat (first | refine Xa ?_ | refine Zb ?_ | refine Za rfl ?_)
 refine Xc (fun h4=>stp ⟨h1,Or.inr ⟨h3,by simpa using h4⟩⟩) (fun h4=>go ?_)
 have h4:r=39:=by simpa using h4
 simp[h2,h4]
theorem c223(s:Tx)(hs:s.length≤big):PCall prog GL0 223 [.str s] (.bool (nameOk s)):=by
 refine Zf hP g223_ok rfl rfl ?_
 unfold g223
 refine Zd (c241 s hs) rfl g241_ok.plain rfl ?_
 unfold nameOk
 generalize (nameR s 0 0).1=e
 generalize (nameR s 0 0).2=n
 refine Za rfl (Za rfl (Za rfl ?_))
 rcases Bool.eq_false_or_eq_true (decide ((n:Int) > 0)) with h1 | h1
 rotate_left
 ·rw[h1]
  repeat (first | refine Yb rfl ?_ | refine Yc rfl ?_ | refine Yd rfl ?_ | refine Qd rfl ?_ | refine Za rfl ?_)
  have h1:¬ 1≤n:=by simp at h1; omega
  simp[h1]
 rw[h1]
 repeat (first | refine Xa ?_ | refine Zb ?_ | refine Za rfl ?_)
 rcases Bool.eq_false_or_eq_true (decide ((n:Int)≤24)) with h2 | h2
 rotate_left
 ·rw[h2]
  repeat (first | refine Yb rfl ?_ | refine Yc rfl ?_ | refine Yd rfl ?_ | refine Qd rfl ?_ | refine Za rfl ?_)
  have h2:¬ n≤24:=by simp at h2; omega
  simp[h2]
 rw[h2]
 repeat (first | refine Xa ?_ | refine Zb ?_ | refine Za rfl ?_)
 rcases Bool.eq_false_or_eq_true ((e:Int) == (s.length:Int)) with h3 | h3
 rotate_left
 ·rw[h3]
  repeat (first | refine Yb rfl ?_ | refine Yc rfl ?_ | refine Yd rfl ?_ | refine Qd rfl ?_ | refine Za rfl ?_)
  have h3:¬ e=s.length:=by simp at h3; omega
  simp[h3]
 rw[h3]
 repeat (first | refine Xa ?_ | refine Zb ?_ | refine Za rfl ?_)
 have h3:e=s.length:=by simp at h3; omega
 subst h3
 rcases Bool.eq_false_or_eq_true (decide ((s.length:Int)≤40)) with h4 | h4
 rotate_left
 ·rw[h4]
  repeat (first | refine Yb rfl ?_ | refine Yc rfl ?_ | refine Yd rfl ?_ | refine Qd rfl ?_ | refine Za rfl ?_)
  have h4:¬ s.length≤40:=by simp at h4; omega
  simp[h4]
 rw[h4]
 repeat (first | refine Xa ?_ | refine Zb ?_ | refine Za rfl ?_)
 refine Zd (c242 _) rfl g242_ok.plain rfl ?_
 repeat (first | refine Xa ?_ | refine Zb ?_ | refine Za rfl ?_)
 have h1:1≤n:=by simp at h1; omega
 have h2:n≤24:=by simp at h2; omega
 have h4:s.length≤40:=by simp at h4; omega
 simp[h1,h2,h4]
end Go.Ah.Tz
end
section
namespace Go.Ah.Tz
open Go.Proofs.Tryz (prog)
theorem Ya5(a:Int):lbN a=0∨lbN a=1∨lbN a=2∨lbN a=3:=by unfold lbN; split <;> omega
attribute [local irreducible] Ans.rd Ans.pu Ans.wr Ans.dr Ans.gr Ans.gw Ans.gl Ans.gd Ans.opt joinK W
theorem c252(a:Int):PCall prog GL0 252 [iv8 a] (iv8 (lbN a)):=by
 refine Zf hP g252_ok rfl rfl ?_
 unfold g252
 refine Za rfl (YB rfl rfl ?_)
 refine Xc (fun h=>?_) (fun h=>?_)
 ·rw[lbN,if_pos (by simpa using h)]
 ·rw[lbN,if_neg (by simpa using h)]
def joinT:AVal:=.agg [iv8 0,iv8 1,iv8 2,iv8 3,iv8 1,iv8 1,iv8 3,iv8 3,iv8 2,iv8 3,iv8 2,iv8 3,iv8 3,iv8 3,iv8 3,iv8 3]
theorem c263:PCall prog GL0 263 [] joinT:=by
 refine Zf hP g263_ok rfl rfl ?_
 unfold g263
 refine Ye rfl rfl (Za rfl (Za rfl (Za rfl (Za rfl (Za rfl (Ye rfl rfl (Yj rfl ?_)))))))
 rfl
theorem c250(a b:Int):PCall prog GL0 250 [iv8 a,iv8 b] (iv8 (joinL a b)):=by
 refine Zf hP g250_ok rfl rfl ?_
 unfold g250
 refine Qp c263 rfl g263_ok.plain rfl ?_
 refine Qp (c252 a) rfl g252_ok.plain rfl ?_
 have h1:=Ya5 a
 have h2:=Ya5 b
 unfold joinL
 have k:=c252 b
 generalize lbN a=p at h1 ⊢
 generalize lbN b=q at h2 k ⊢
 rcases h1 with h1 | h1 | h1 | h1 <;> subst h1 <;> refine Xf rfl ?_ <;> refine Qp k rfl g252_ok.plain rfl ?_ <;> rcases h2 with h2 | h2 | h2 | h2 <;> subst h2 <;> exact Xf rfl (Yy (by kernel_rfl) rfl)
theorem c253(a b:Int):PCall prog GL0 253 [iv8 a,iv8 b] (.bool (decide (joinL a b=lbN b))):=by
 refine Zf hP g253_ok rfl rfl ?_
 unfold g253
 refine Zd (c250 a b) rfl g250_ok.plain rfl ?_
 refine Zd (c252 b) rfl g252_ok.plain rfl ?_
 refine Za (Zg ..) ?_
 rfl
theorem YaO(b:Int):joinL b b=lbN b:=by rw[joinL,if_pos (Or.inl rfl)]
end Go.Ah.Tz
end
section
namespace Go.Ah.Tz
open Go.Proofs.Tryz (prog)
attribute [local irreducible] Ans.rd Ans.pu Ans.wr Ans.dr Ans.gr Ans.gw Ans.gl Ans.gd Ans.opt joinK W
set_option maxHeartbeats 1000000
theorem Qcs(x:Nm):nmL x=if x.op=6 then 3 else if 8≤x.op∧x.op≤12 then nmLs 0 x.kids else 0:=by
 rw[Zcl]
 by_cases h:x.op=6
 ·rw[if_neg (by omega),if_pos h,if_pos h]
 ·rw[if_neg h,if_neg h]
theorem c251':∀ (k:Nat) (x:Nm),SizeOf.sizeOf x≤k→nmFit x=true→PCall prog GL0 251 [.agg (nmC x)] (iv8 (nmL x))
 | 0,x,h,_=>by cases x; simp at h
 | k + 1,x,hk,hf=>by
  rw[QD]
  refine Zf hP g251_ok rfl rfl ?_
  unfold g251
  refine Ye rfl rfl ?_
  rw[Qcs]
  have hlen:=Z4 hf
  rw[bigE] at hlen
  generalize hB:([] ++ [ABlk.box [iv8 x.op,iv x.n,iv8 x.who,.rsl false false 4 (x.kids.map nmC)]]:List ABlk)=base
  have hB0:hget base 0=.box [iv8 x.op,iv x.n,iv8 x.who,.rsl false false 4 (x.kids.map nmC)]:=by rw[← hB]; rfl
  clear hB
  refine Za rfl (Za (ld hB0 rfl) (Za (Zg ..) ?_))
  refine Xc (fun h=>?_) (fun h=>?_)
  ·rw[if_pos (by simpa using h)]
  rw[if_neg (by simpa using h)]
  refine Za rfl (Za (ld hB0 rfl) (Za rfl ?_))
  refine Y9 rfl (ld hB0 rfl) rfl ?_
  rw[show (decide (x.op ≥ 8) && decide (x.op≤12))=decide (8≤x.op∧x.op≤12) by simp]
  refine Xc (fun h=>?_) (fun h=>?_)
  rotate_left
  ·rw[if_neg (by simpa using h)]
  rw[if_pos (by simpa using h)]
  refine Za rfl (Za (ld hB0 rfl) (Za rfl ?_))
  clear hB0
  refine Xm (ι:=Nat) (fun i vs σ=>∃ n,vs=[iv i,iv8 n]∧i≤x.kids.length∧nmLs 0 x.kids=nmLs n (x.kids.drop i)) (fun i=>x.kids.length - i) 0 ⟨0,rfl,by omega,by simp⟩ ?_
  rintro i vs σ again ⟨n,rfl,hi,hu⟩ hag
  refine Za rfl ?_
  refine Xc (fun h=>?_) (fun h=>?_)
  ·have h:i < x.kids.length:=by simpa using h
   have hdr:x.kids.drop i=x.kids[i] :: x.kids.drop (i + 1):=by rw[List.drop_eq_getElem_cons h]
   rw[hdr,nmLs] at hu
   have hm:x.kids[i]∈x.kids:=List.getElem_mem h
   have hix:=fun (s:List ABlk)=>Qo s nmC false false 4 x.kids .i64 i h
   have hsz:=Zak hm
   have hfk:=XV hf hm
   generalize x.kids[i]=y at hu hix hsz hfk
   refine Za (hix _) (Za (ldr (nmLd _)) ?_)
   refine ZB (row:=[iv8 y.op,iv y.n,iv8 y.who,.rsl false false 4 (y.kids.map nmC)]) (row':=[iv8 y.op,iv y.n,iv8 y.who,.rsl false false 4 (y.kids.map nmC)]) (by rw[QD]; rfl) rfl rfl ?_
   have hB1:=Xn σ (ABlk.box [iv8 y.op,iv y.n,iv8 y.who,.rsl false false 4 (y.kids.map nmC)])
   have hN:Ze true 4 [.bptr σ.length 0] (σ ++ [ABlk.box [iv8 y.op,iv y.n,iv8 y.who,.rsl false false 4 (y.kids.map nmC)]])=.ok (.agg (nmC y)) [σ.length] []:=ld hB1 (by rw[QD]; rfl)
   refine Za hN ?_
   refine Zd (c251' k y (by omega) hfk) rfl g251_ok.plain (nmRo _) ?_
   refine Zd (c250 _ _) rfl g250_ok.plain rfl ?_
   refine Za (Yn ..) ?_
   rw[Zh (n:=i) (by omega)]
   exact hag (i + 1) _ _ (by omega) ⟨_,rfl,by omega,hu⟩
  ·have h:i=x.kids.length:=by simp at h; omega
   subst h
   rw[List.drop_length,nmLs] at hu
   rw[hu]; rfl
theorem c251(x:Nm)(hf:nmFit x=true):PCall prog GL0 251 [.agg (nmC x)] (iv8 (nmL x)):=c251' _ x (Nat.le_refl _) hf
end Go.Ah.Tz
end
section
namespace Go.Ah.Tz
open Go.Proofs.Tryz (prog)
attribute [local irreducible] Ans.rd Ans.pu Ans.wr Ans.dr Ans.gr Ans.gw Ans.gl Ans.gd Ans.opt joinK W
set_option maxHeartbeats 1000000
theorem c254':∀ (k:Nat) (x:Cn),SizeOf.sizeOf x≤k→cnFit x=true→PCall prog GL0 254 [.agg (cnC x)] (iv8 (cnL x))
 | 0,x,h,_=>by cases x; simp at h
 | k + 1,x,hk,hf=>by
  rw[QL]
  refine Zf hP g254_ok rfl rfl ?_
  unfold g254
  refine Ye rfl rfl ?_
  rw[Qck]
  have hl1:=XN hf
  have hl2:=YN hf
  rw[bigE] at hl1 hl2
  generalize hB:([] ++ [ABlk.box [iv8 x.op,iv8 x.who,.str x.name,.rsl false false 4 (x.nums.map nmC),.rsl false false 5 (x.kids.map cnC)]]:List ABlk)=base
  have hB0:hget base 0=.box [iv8 x.op,iv8 x.who,.str x.name,.rsl false false 4 (x.nums.map nmC),.rsl false false 5 (x.kids.map cnC)]:=by rw[← hB]; rfl
  clear hB
  refine Za rfl (Za (ld hB0 rfl) (Za (Zg ..) ?_))
  refine Xc (fun h=>?_) (fun h=>?_)
  ·rw[if_pos (by simpa using h)]
   refine Za rfl (Za (ld hB0 rfl) (Za (Zg ..) ?_))
   refine Xc (fun h=>?_) (fun h=>?_)
   ·rw[if_pos (by simpa using h)]
   rw[if_neg (by simpa using h)]
   refine Za (Zg ..) ?_
   refine Xc (fun h=>?_) (fun h=>?_)
   ·rw[if_pos (by simpa using h)]
   ·rw[if_neg (by simpa using h)]
  rw[if_neg (by simpa using h)]
  refine Za rfl (Za (ld hB0 rfl) (Za rfl ?_))
  refine Xm (ι:=Nat) (fun i vs σ=>∃ n,vs=[iv i,iv8 n]∧hget σ 0=.box [iv8 x.op,iv8 x.who,.str x.name,.rsl false false 4 (x.nums.map nmC),.rsl false false 5 (x.kids.map cnC)]∧i≤x.nums.length∧nmLs 0 x.nums=nmLs n (x.nums.drop i)) (fun i=>x.nums.length - i) 0 ⟨0,rfl,hB0,by omega,by simp⟩ ?_
  rintro i vs σ again ⟨n,rfl,hB0,hi,hu⟩ hag
  refine Za rfl ?_
  refine Xc (fun h=>?_) (fun h=>?_)
  ·have h:i < x.nums.length:=by simpa using h
   have hdr:x.nums.drop i=x.nums[i] :: x.nums.drop (i + 1):=by rw[List.drop_eq_getElem_cons h]
   rw[hdr,nmLs] at hu
   have hm:x.nums[i]∈x.nums:=List.getElem_mem h
   have hix:=fun (s:List ABlk)=>Qo s nmC false false 4 x.nums .i64 i h
   have hfk:=QW hf hm
   generalize x.nums[i]=y at hu hix hfk
   refine Za (hix _) (Za (ldr (nmLd _)) ?_)
   refine ZB (row:=[iv8 y.op,iv y.n,iv8 y.who,.rsl false false 4 (y.kids.map nmC)]) (row':=[iv8 y.op,iv y.n,iv8 y.who,.rsl false false 4 (y.kids.map nmC)]) (by rw[QD]; rfl) rfl rfl ?_
   have hB1:=Xn σ (ABlk.box [iv8 y.op,iv y.n,iv8 y.who,.rsl false false 4 (y.kids.map nmC)])
   have hN:Ze true 4 [.bptr σ.length 0] (σ ++ [ABlk.box [iv8 y.op,iv y.n,iv8 y.who,.rsl false false 4 (y.kids.map nmC)]])=.ok (.agg (nmC y)) [σ.length] []:=ld hB1 (by rw[QD]; rfl)
   refine Za hN ?_
   refine Zd (c251 y hfk) rfl g251_ok.plain (nmRo _) ?_
   refine Zd (c250 _ _) rfl g250_ok.plain rfl ?_
   refine Za (Yn ..) ?_
   rw[Zh (n:=i) (by omega)]
   exact hag (i + 1) _ _ (by omega) ⟨_,rfl,Zl _ hB0 (by simp),by omega,hu⟩
  have h:i=x.nums.length:=by simp at h; omega
  subst h
  rw[List.drop_length,nmLs] at hu
  rw[hu]
  clear hag hu hi
  refine Za rfl (Za (ld hB0 rfl) (Za rfl ?_))
  refine Xm (ι:=Nat) (fun i vs s=>∃ m,vs=[iv i,iv8 m]∧i≤x.kids.length∧cnLs n x.kids=cnLs m (x.kids.drop i)) (fun i=>x.kids.length - i) 0 ⟨n,rfl,by omega,by simp⟩ ?_
  rintro i vs s again ⟨m,rfl,hi,hu⟩ hag
  refine Za rfl ?_
  refine Xc (fun h=>?_) (fun h=>?_)
  ·have h:i < x.kids.length:=by simpa using h
   have hdr:x.kids.drop i=x.kids[i] :: x.kids.drop (i + 1):=by rw[List.drop_eq_getElem_cons h]
   rw[hdr,cnLs] at hu
   have hm:x.kids[i]∈x.kids:=List.getElem_mem h
   have hix:=fun (s:List ABlk)=>Qo s cnC false false 5 x.kids .i64 i h
   have hfk:=QV hf hm
   have hsz:=Qam hm
   generalize x.kids[i]=y at hu hix hfk hsz
   refine Za (hix _) (Za (ldr (cnLd _)) ?_)
   refine ZB (row:=[iv8 y.op,iv8 y.who,.str y.name,.rsl false false 4 (y.nums.map nmC),.rsl false false 5 (y.kids.map cnC)]) (row':=[iv8 y.op,iv8 y.who,.str y.name,.rsl false false 4 (y.nums.map nmC),.rsl false false 5 (y.kids.map cnC)]) (by rw[QL]; rfl) rfl rfl ?_
   have hB1:=Xn s (ABlk.box [iv8 y.op,iv8 y.who,.str y.name,.rsl false false 4 (y.nums.map nmC),.rsl false false 5 (y.kids.map cnC)])
   have hN:Ze true 5 [.bptr s.length 0] (s ++ [ABlk.box [iv8 y.op,iv8 y.who,.str y.name,.rsl false false 4 (y.nums.map nmC),.rsl false false 5 (y.kids.map cnC)]])=.ok (.agg (cnC y)) [s.length] []:=ld hB1 (by rw[QL]; rfl)
   refine Za hN ?_
   refine Zd (c254' k y (by omega) hfk) rfl g254_ok.plain (cnRo _) ?_
   refine Zd (c250 _ _) rfl g250_ok.plain rfl ?_
   refine Za (Yn ..) ?_
   rw[Zh (n:=i) (by omega)]
   exact hag (i + 1) _ _ (by omega) ⟨_,rfl,by omega,hu⟩
  ·have h:i=x.kids.length:=by simp at h; omega
   subst h
   rw[List.drop_length,cnLs] at hu
   rw[hu]; rfl
theorem c254(x:Cn)(hf:cnFit x=true):PCall prog GL0 254 [.agg (cnC x)] (iv8 (cnL x)):=c254' _ x (Nat.le_refl _) hf
end Go.Ah.Tz
end
section
namespace Go.Ah.Tz
open Go.Proofs.Tryz (prog)
attribute [local irreducible] Ans.rd Ans.pu Ans.wr Ans.dr Ans.gr Ans.gw Ans.gl Ans.gd Ans.opt joinK W
theorem efRo(u:Int)(x:Ef):roL [.agg [iv8 u],.agg (efC x)]=true:=by rw[XF]; rfl
theorem c235(u:Int)(x:Ef)(hf:efFit x=true):PCall prog GL0 235 [.agg [iv8 u],.agg (efC x)] (.bool (decide (joinL u (nmL x.n)=0))):=by
 rw[XF]
 refine Zf hP g235_ok rfl rfl ?_
 unfold g235
 refine Ye rfl rfl (Ye rfl rfl (Xf rfl (Qh rfl rfl (Xf rfl (Qh (ld (v:=.agg (nmC x.n)) rfl (by rw[QD]; rfl)) rfl ?_)))))
 refine Qp (c251 _ (Q2 hf)) rfl g251_ok.plain (nmRo _) ?_
 refine Qp (c250 _ _) rfl g250_ok.plain rfl ?_
 exact Xf (Zg ..) (Yy (by kernel_rfl) rfl)
theorem c236(u:Int)(x:Ef):PCall prog GL0 236 [.agg [iv8 u],.agg (efC x)] (.bool (decide (lbN u=0))):=by
 rw[XF]
 refine Zf hP g236_ok rfl rfl ?_
 unfold g236
 refine Ye rfl rfl (Ye rfl rfl (Za rfl (Za rfl ?_)))
 refine Zd (c252 _) rfl g252_ok.plain rfl ?_
 exact Za (Zg ..) rfl
theorem c237(u:Int)(x:Ef)(hf:efFit x=true):PCall prog GL0 237 [.agg [iv8 u],.agg (efC x)] (.bool (QaN (joinL u (nmL x.n)) 1)):=by
 rw[XF]
 refine Zf hP g237_ok rfl rfl ?_
 unfold g237
 refine Ye rfl rfl (Ye rfl rfl (Xf rfl (Qh rfl rfl (Xf rfl (Qh (ld (v:=.agg (nmC x.n)) rfl (by rw[QD]; rfl)) rfl ?_)))))
 refine Qp (c251 _ (Q2 hf)) rfl g251_ok.plain (nmRo _) ?_
 refine Qp (c250 _ _) rfl g250_ok.plain rfl ?_
 refine Qp (c253 _ _) rfl g253_ok.plain rfl ?_
 refine Yy (by kernel_rfl) ?_
 rw[QaN,YaO]
end Go.Ah.Tz
end
section
namespace Go.Ah.Tz
open Go.Proofs.Tryz (prog)
theorem YM{σ:List ABlk}(l:List ABlk){c:Nat}(h:c < σ.length):hget (σ ++ l) c=hget σ c:=by
 have h1:=Zah h
 exact YG (by rw[List.getElem?_append_left h]; exact h1)
theorem Ym{σ:List ABlk}{b c:Nat}(x:ABlk)(h:c < σ.length)(hc:c≠b):hget (σ.set b x) c=hget σ c:=by
 have h1:=Zah h
 exact YG (by rw[List.getElem?_set_ne (fun e=>hc e.symm)]; exact h1)
def Gr(σ0:List ABlk)(n:Nat)(rows:List (List AVal))(k:Nat)(v:AVal)(σ:List ABlk):Prop:=
 σ0.length≤σ.length∧(∀ c,c < σ0.length→hget σ c=hget σ0 c)∧((k=0∧v=.nils∧rows=[])∨(0 < k∧∃ b,σ0.length≤b∧v=.sl b 0 k false∧hget σ b=.rows n rows∧rows.length=k))
theorem Gr.nil(n:Nat)(σ:List ABlk):Gr σ n [] 0 .nils σ:=⟨Nat.le_refl _,fun _ _=>rfl,.inl ⟨rfl,rfl,rfl⟩⟩
theorem Gr.grows{σ0 σ:List ABlk}{n k:Nat}{rows:List (List AVal)}{v:AVal}(h:Gr σ0 n rows k v σ):Grows n rows k v σ:=by
 rcases h.2.2 with h | ⟨h1,b,_,h2,h3,h4⟩
 ·exact .inl h
 ·exact .inr ⟨h1,b,h2,h3,h4⟩
theorem Gr.old{σ0 σ:List ABlk}{n k:Nat}{rows:List (List AVal)}{v:AVal}(h:Gr σ0 n rows k v σ){c:Nat}{x:ABlk}(hx:hget σ0 c=x)(hd:x≠.dead):hget σ c=x:=by
 rw[h.2.1 c (Zt hx hd)]; exact hx
theorem Gr.base{σ0 σ:List ABlk}{l:List ABlk}{n k:Nat}{rows:List (List AVal)}{v:AVal}(h:Gr (σ0 ++ l) n rows k v σ):Gr σ0 n rows k v σ:=by
 obtain⟨h1,h2,h3⟩:=h
 simp only[List.length_append] at h1 h2 h3
 refine⟨by omega,fun c hc=>?_,?_⟩
 ·rw[h2 c (by omega),YM l hc]
 ·rcases h3 with h3 | ⟨q1,b,q2,q3⟩
  ·exact .inl h3
  ·exact .inr ⟨q1,b,by omega,q3⟩
theorem Gr.put{σ0 σ:List ABlk}{n by_ k:Nat}{rows:List (List AVal)}{v:AVal}{z cs:List AVal}{x:AVal}(hg:Gr σ0 n rows k v σ)(hx:fill z [(0,n)] [x]=some cs)(hc:chunk n 1 cs=some [cs])(hr:cs.all AVal.cell=true)(hroom:(2 * (k + 1) + 192) * by_≤2 ^ 48){K:AVal→List ABlk→Prop}
 (hK:∀ v' σ',Gr σ0 n (rows ++ [cs]) (k + 1) v' σ'→K v' σ'):(W prog GL0).wr (Yl n 1 z [(0,n)] [x] σ) σ (fun t σ=>(W prog GL0).wr (Yk n by_ [v,t] σ) σ K):=by
 rw[XW _ _ _ _ _ cs hx hc]
 obtain⟨g1,g2,hg⟩:=hg
 rcases hg with ⟨rfl,rfl,rfl⟩ | ⟨hk,b,hb0,rfl,hb,hl⟩
 ·rw[ZaT _ n by_ σ cs hr (by simpa using hroom)]
  refine hK _ _ ⟨by simp; omega,fun c hc=>?_,.inr ⟨by omega,_,?_,rfl,by have:=Xn (σ ++ [.rows n [cs]]) (.rows n [cs]); simpa using this,rfl⟩⟩
  ·rw[YM _ (by simp; omega),YM _ (by omega),g2 c hc]
  ·omega
 ·rw[YaQ _ n by_ σ b k false rows cs hb hl hr hroom]
  refine hK _ _ ⟨by simp; omega,fun c hc=>?_,.inr ⟨by omega,_,?_,rfl,?_,by simp[hl]⟩⟩
  ·rw[YM _ (by simp; omega),YM _ (by simp; omega),Ym _ (by omega) (by omega),g2 c hc]
  ·omega
  ·have:=Xn (σ.set b .dead ++ [.rows n [cs]]) (.rows n (rows ++ [cs]))
   simpa using this
inductive Pt where
 | ef (x:Ef)
 | nm (x:Nm)
 | cn (x:Cn)
inductive PtV:AVal→Pt→Prop
 | ef (x:Ef):PtV (.iface 272 (.agg [.rptr (efC x) 0])) (.ef x)
 | nm (row:List AVal) (j:Nat) (x:Nm):NmAt row j x→PtV (.iface 290 (.agg [.rptr row j])) (.nm x)
 | cn (row:List AVal) (j:Nat) (x:Cn):CnAt row j x→PtV (.iface 292 (.agg [.rptr row j])) (.cn x)
def Pt.kids:Pt→List Pt
 | .ef x=>(if cntOp x.op then [.nm x.n] else []) ++ (if x.op=8 then .cn x.c :: (x.thn.map .ef ++ x.els.map .ef) else [])
 | .nm x=>x.kids.map .nm
 | .cn x=>x.nums.map .nm ++ x.kids.map .cn
def Pt.fit:Pt→Bool
 | .ef x=>efFit x
 | .nm x=>nmFit x
 | .cn x=>cnFit x
mutual
def nmP:Nm→List Pt
 | .mk op n who kids=>.nm (.mk op n who kids) :: nmPs kids
def nmPs:List Nm→List Pt
 | []=>[]
 | x :: l=>nmP x ++ nmPs l
end
mutual
def cnP:Cn→List Pt
 | .mk op who name nums kids=>.cn (.mk op who name nums kids) :: (nmPs nums ++ cnPs kids)
def cnPs:List Cn→List Pt
 | []=>[]
 | x :: l=>cnP x ++ cnPs l
end
mutual
def efP:Ef→List Pt
 | .mk op who n name c thn els=>.ef (.mk op who n name c thn els) :: ((if cntOp op then nmP n else []) ++ (if op=8 then cnP c ++ (efPs thn ++ efPs els) else []))
def efPs:List Ef→List Pt
 | []=>[]
 | x :: l=>efP x ++ efPs l
end
def flat:Pt→List Pt
 | .ef x=>efP x
 | .nm x=>nmP x
 | .cn x=>cnP x
def flats:List Pt→List Pt
 | []=>[]
 | p :: l=>flat p ++ flats l
theorem QR:∀ a b,flats (a ++ b)=flats a ++ flats b
 | [],b=>rfl
 | p :: a,b=>by simp[flats,QR a b]
theorem ZaU:∀ l,flats (l.map .nm)=nmPs l
 | []=>rfl
 | x :: l=>by simp[flats,ZaU l,flat,nmPs]
theorem Xbj:∀ l,flats (l.map .cn)=cnPs l
 | []=>rfl
 | x :: l=>by simp[flats,Xbj l,flat,cnPs]
theorem Zaf:∀ l,flats (l.map .ef)=efPs l
 | []=>rfl
 | x :: l=>by simp[flats,Zaf l,flat,efPs]
theorem YbT(p:Pt):flat p=p :: flats p.kids:=by
 cases p with
 | ef x=>
  obtain⟨op,who,n,name,c,thn,els⟩:=x
  have e:Pt.kids (.ef (.mk op who n name c thn els))=(if cntOp op then [.nm n] else []) ++ (if op=8 then .cn c :: (thn.map .ef ++ els.map .ef) else []):=rfl
  rw[e,QR]
  simp only[flat,efP]
  congr 2
  ·by_cases h:cntOp op=true <;> simp[h,flats,flat]
  ·by_cases h:op=8 <;> simp[h,flats,flat,QR,Zaf]
 | nm x=>cases x; simp[flat,nmP,Pt.kids,Nm.kids,ZaU]
 | cn x=>cases x; simp[flat,cnP,Pt.kids,Cn.nums,Cn.kids,QR,ZaU,Xbj]
theorem Ybp(p:Pt):0 < (flat p).length:=by rw[YbT]; simp
theorem YaE:∀ {l:List Pt} {p:Pt},p∈l→(flat p).length≤(flats l).length
 | q :: l,p,h=>by
  simp only[flats,List.length_append]
  rcases List.mem_cons.1 h with rfl | h
  ·omega
  ·have:=YaE h; omega
theorem Yay:∀ l:List Pt,l.length≤(flats l).length
 | []=>by simp
 | p :: l=>by
  have:=Yay l
  have:=Ybp p
  simp[flats]; omega
theorem Ycr{p q:Pt}(h:p.fit=true)(hq:q∈p.kids):q.fit=true:=by
 cases p with
 | ef x=>
  simp only[Pt.kids,List.mem_append] at hq
  rcases hq with hq | hq
  ·split at hq
   ·simp at hq; subst hq; exact Q2 h
   ·simp at hq
  ·split at hq
   ·simp only[List.mem_cons,List.mem_append,List.mem_map] at hq
    rcases hq with rfl | ⟨y,hy,rfl⟩ | ⟨y,hy,rfl⟩
    ·exact ZY h
    ·exact XK (YK h) hy
    ·exact XK (QJ h) hy
   ·simp at hq
 | nm x=>
  simp only[Pt.kids,List.mem_map] at hq
  obtain⟨y,hy,rfl⟩:=hq
  exact XV h hy
 | cn x=>
  simp only[Pt.kids,List.mem_append,List.mem_map] at hq
  rcases hq with ⟨y,hy,rfl⟩ | ⟨y,hy,rfl⟩
  ·exact QW h hy
  ·exact QV h hy
def runL{S:Type}(step:S→Pt→S × Bool):S→List Pt→S × Bool
 | s,[]=>(s,true)
 | s,p :: l=>if (step s p).2=true then runL step (step s p).1 l else ((step s p).1,false)
theorem XY{S:Type}(step:S→Pt→S × Bool):∀ (a:List Pt) (s:S) (b:List Pt),runL step s (a ++ b)=if (runL step s a).2=true then runL step (runL step s a).1 b else ((runL step s a).1,false)
 | [],s,b=>by simp[runL]
 | p :: a,s,b=>by
  simp only[List.cons_append,runL]
  by_cases h:(step s p).2=true
  ·simp only[if_pos h]; exact XY step a _ b
  ·simp[if_neg h]
def Bt(b:Nat)(σ σ':List ABlk):Prop:=σ.length≤σ'.length∧∀ c,c < σ.length→c≠b→hget σ' c=hget σ c
theorem Bt.refl(b:Nat)(σ:List ABlk):Bt b σ σ:=⟨Nat.le_refl _,fun _ _ _=>rfl⟩
theorem Bt.trans{b:Nat}{x y z:List ABlk}(h:Bt b x y)(k:Bt b y z):Bt b x z:=⟨Nat.le_trans h.1 k.1,fun c hc hb=>by rw[k.2 c (by have:=h.1; omega) hb,h.2 c hc hb]⟩
theorem Bt.old{b:Nat}{σ σ':List ABlk}(h:Bt b σ σ'){c:Nat}{x:ABlk}(hx:hget σ c=x)(hd:x≠.dead)(hc:c≠b):hget σ' c=x:=by
 rw[h.2 c (Zt hx hd) hc]; exact hx
theorem Bt.gr{σ σ':List ABlk}(b:Nat)(h1:σ.length≤σ'.length)(h:∀ c,c < σ.length→hget σ' c=hget σ c):Bt b σ σ':=⟨h1,fun c hc _=>h c hc⟩
def Clo{S:Type}(clo:AVal)(b:Nat)(enc:S→List AVal)(step:S→Pt→S × Bool):Prop:=
 ∀ p v,PtV v p→∀ s σ K,hget σ b=.box (enc s)→(∀ σ',Bt b σ σ'→hget σ' b=.box (enc (step s p).1)→K (.bool (step s p).2) σ')→(W prog GL0).call .callv [clo,v] σ K
inductive PtL:List AVal→List Pt→Prop
 | nil:PtL [] []
 | snoc (vs:List AVal) (ps:List Pt) (v:AVal) (p:Pt):PtL vs ps→PtV v p→PtL (vs ++ [v]) (ps ++ [p])
theorem PtL.length{vs:List AVal}{ps:List Pt}(h:PtL vs ps):vs.length=ps.length:=by
 induction h with
 | nil=>rfl
 | snoc vs ps v p h hv ih=>simp[ih]
theorem PtL.get{vs:List AVal}{ps:List Pt}(h:PtL vs ps):∀ i (h1:i < vs.length) (h2:i < ps.length),PtV vs[i] ps[i]:=by
 induction h with
 | nil=>intro i h; simp at h
 | snoc vs ps v p h hv ih=>
  intro i h1 h2
  have hl:=h.length
  simp only[List.length_append,List.length_singleton] at h1 h2
  by_cases hi:i < vs.length
  ·rw[List.getElem_append_left hi,List.getElem_append_left (by omega)]; exact ih i hi (by omega)
  ·have e1:i=vs.length:=by omega
   subst e1
   have:ps[vs.length]?=none:=by rw[List.getElem?_eq_none (by omega)]
   simp[hl,hv]
def one(v:AVal):List AVal:=[v]
end Go.Ah.Tz
end
section
namespace Go.Ah.Tz
open Go.Proofs.Tryz (prog)
attribute [local irreducible] Ans.rd Ans.pu Ans.wr Ans.dr Ans.gr Ans.gw Ans.gl Ans.gd Ans.opt joinK W
set_option maxHeartbeats 2000000
def efPt(x:Ef):List AVal:=[.iface 272 (.agg [.rptr (efC x) 0])]
def nmPt(x:Nm):List AVal:=[.iface 290 (.agg [.rptr (nmC x) 0])]
def cnPt(x:Cn):List AVal:=[.iface 292 (.agg [.rptr (cnC x) 0])]
theorem Zcz{σ0 σ:List ABlk}{k:Nat}{rows:List (List AVal)}{v:AVal}(l:List Ef)(hl:k + l.length≤1000000000)(hg:Gr σ0 1 rows k v σ){K:List AVal→List ABlk→Prop}
 (hK:∀ v' σ' w,Gr σ0 1 (rows ++ l.map efPt) (k + l.length) v' σ'→K [w,v'] σ') :
  (W prog GL0).loop (fun ag v55 σ=>(W prog GL0).rd (Qb .lss false [(h0 v55),iv l.length] σ) fun t72_56=>(W prog GL0).test t72_56 (
   (W prog GL0).rd (Xd 14 [efV l,(h0 v55)] σ) fun t77_57=>(W prog GL0).rd (Xg [.nilp] [(0,1)] [t77_57] σ) fun t78_58=>(W prog GL0).rd (Xz 272 [t78_58] σ) fun t79_59=>
   (W prog GL0).wr (Yl 1 1 [.nili] [(0,1)] [t79_59] σ) σ fun t80_60 σ=>(W prog GL0).wr (Yk 1 16 [(h1 v55),t80_60] σ) σ fun t81_61 σ=>
   (W prog GL0).rd (Qb .add false [(h0 v55),(.int .i64 1)] σ) fun t82_62=>ag [t82_62,t81_61] σ) (K v55 σ)) [(.int .i64 0),v] σ:=by
 refine Xm (ι:=Nat) (fun i vs s=>∃ v,vs=[iv i,v]∧i≤l.length∧Gr σ0 1 (rows ++ (l.take i).map efPt) (k + i) v s) (fun i=>l.length - i) 0 ⟨v,rfl,by omega,by simpa using hg⟩ ?_
 rintro i vs s again ⟨v,rfl,hi,hg⟩ hag
 refine Za rfl (Xc (fun h=>?_) (fun h=>?_))
 ·have h:i < l.length:=by simpa using h
  refine Za (Qo _ efC _ _ _ l _ i h) (Za rfl (Za rfl ?_))
  refine hg.put (cs:=efPt l[i]) rfl rfl rfl (by omega) (fun v' σ' hg'=>?_)
  refine Za (Yn ..) ?_
  rw[Zh (n:=i) (by omega)]
  refine hag (i + 1) _ _ (by omega) ⟨v',rfl,by omega,?_⟩
  rw[← YC _ _ _ h,← List.append_assoc]; exact hg'
 ·have h:i=l.length:=by simp at h; omega
  subst h
  rw[List.take_length] at hg
  exact hK _ _ _ hg
theorem efPtL{vs:List AVal}{ps:List Pt}(h:PtL vs ps):∀ l:List Ef,PtL (vs ++ (l.map efPt).flatten) (ps ++ l.map .ef):=by
 intro l
 induction l generalizing vs ps with
 | nil=>simpa using h
 | cons x l ih=>
  have:=ih (PtL.snoc _ _ _ _ h (.ef x))
  simpa[efPt] using this
theorem nmPtL{vs:List AVal}{ps:List Pt}(h:PtL vs ps):∀ l:List Nm,PtL (vs ++ (l.map nmPt).flatten) (ps ++ l.map .nm):=by
 intro l
 induction l generalizing vs ps with
 | nil=>simpa using h
 | cons x l ih=>
  have:=ih (PtL.snoc _ _ _ _ h (.nm (nmC x) 0 x (nmAt x)))
  simpa[nmPt] using this
theorem cnPtL{vs:List AVal}{ps:List Pt}(h:PtL vs ps):∀ l:List Cn,PtL (vs ++ (l.map cnPt).flatten) (ps ++ l.map .cn):=by
 intro l
 induction l generalizing vs ps with
 | nil=>simpa using h
 | cons x l ih=>
  have:=ih (PtL.snoc _ _ _ _ h (.cn (cnC x) 0 x (cnAt x)))
  simpa[cnPt] using this
theorem Qaw{α:Type}{f:α→List AVal}(h:∀ x,∃ v,f x=[v]):∀ l:List α,l.map f=((l.map f).flatten).map one
 | []=>rfl
 | x :: l=>by
  obtain⟨v,hv⟩:=h x
  have:=Qaw h l
  simp only[List.map_cons,List.flatten_cons,hv,List.map_append,List.map_nil,one]
  rw[← this]; rfl
theorem Yav(l:List Ef):l.map efPt=((l.map efPt).flatten).map one:=Qaw (fun _=>⟨_,rfl⟩) l
theorem Qbk(l:List Nm):l.map nmPt=((l.map nmPt).flatten).map one:=Qaw (fun _=>⟨_,rfl⟩) l
theorem Ycb(l:List Cn):l.map cnPt=((l.map cnPt).flatten).map one:=Qaw (fun _=>⟨_,rfl⟩) l
theorem c208{S:Type}{enc:S→List AVal}{step:S→Pt→S × Bool}{clo:AVal}{b:Nat}(hc:Clo clo b enc step):∀ (k:Nat) (p:Pt),(flat p).length≤k→p.fit=true→(flat p).length≤500000000→∀ v,PtV v p→∀ s σ K,hget σ b=.box (enc s) →
  (∀ σ',Bt b σ σ'→hget σ' b=.box (enc (runL step s (flat p)).1)→K (.bool (runL step s (flat p)).2) σ')→g208 (W prog GL0) [v,clo] σ K
 | 0,p,h,_,_=>by have:=Ybp p; omega
 | k + 1,p,hk,hf,hN=>by
  intro v hv s σ K hb hK
  rw[YbT] at hk hN hK
  simp only[List.length_cons] at hk hN
  have hkl:=Yay p.kids
  unfold g208
  refine hc p v hv s σ _ hb (fun σ1 t1 b1=>?_)
  simp only[runL] at hK
  refine Za rfl (Xc (fun h=>?_) (fun h=>?_))
  ·have h:(step s p).2=false:=by simpa using h
   rw[h] at hK
   exact hK σ1 t1 b1
  have h:(step s p).2=true:=by simpa using h
  rw[h,if_pos rfl] at hK
  generalize (step s p).1=s1 at hK b1
  refine Qi fun k2 hk2=>?_
  have kk:∀ v2 σ2 vs,PtL vs p.kids→Gr σ1 1 (vs.map one) vs.length v2 σ2→k2 [v2] σ2:=by
   intro v2 σ2 vs hp hg
   rw[hk2]; clear hk2 k2
   have hlen:=hp.length
   have hb2:=hg.old b1 (by simp)
   have t2:Bt b σ1 σ2:=⟨hg.1,fun c hc _=>hg.2.1 c hc⟩
   refine Za (hg.grows.len _) ?_
   refine Xm (ι:=Nat) (fun i ws σ3=>∃ s',ws=[iv i]∧i≤p.kids.length∧hget σ3 b=.box (enc s')∧Bt b σ2 σ3∧runL step s1 (flats p.kids)=runL step s' (flats (p.kids.drop i))) (fun i=>p.kids.length - i) 0 ⟨s1,rfl,by omega,hb2,Bt.refl _ _,by simp⟩ ?_
   rintro i ws σ3 again ⟨s',rfl,hi,hb3,t3,hr⟩ hag
   refine Za rfl (Xc (fun h=>?_) (fun h=>?_))
   ·have h:i < vs.length:=by simpa using h
    have h':i < p.kids.length:=by omega
    have hg3:Grows 1 (vs.map one) vs.length v2 σ3:=by
     rcases hg.2.2 with h | ⟨q1,c,q2,q3,q4,q5⟩
     ·exact .inl h
     ·refine .inr ⟨q1,c,q3,?_,q5⟩
      have hcb:c≠b:=by
       intro e; subst e
       rw[hb2] at q4; cases q4
      exact t3.old q4 (by simp) hcb
    obtain⟨c,e1,hj,e2⟩:=hg3.at .i64 i h
    refine Za e1 (Za (e2 false 1 vs[i] (by simp[one])) ?_)
    have hmem:p.kids[i]∈p.kids:=List.getElem_mem h'
    have hfl:=YaE hmem
    have hdr:p.kids.drop i=p.kids[i] :: p.kids.drop (i + 1):=List.drop_eq_getElem_cons h'
    rw[hdr,flats,XY] at hr
    refine Zu hP rfl g208_ok rfl ?_
    refine c208 hc k p.kids[i] (by omega) (Ycr hf hmem) (by omega) _ (hp.get i h h') s' σ3 _ hb3 (fun σ4 t4 b4=>?_)
    refine Za rfl (Xc (fun h5=>?_) (fun h5=>?_))
    ·have h5:(runL step s' (flat p.kids[i])).2=false:=by simpa using h5
     rw[h5] at hr
     have:=hK σ4 ((t1.trans t2).trans (t3.trans t4)) (by rw[hr]; exact b4)
     rw[hr] at this; exact this
    ·have h5:(runL step s' (flat p.kids[i])).2=true:=by simpa using h5
     rw[h5,if_pos rfl] at hr
     refine Za (Yn ..) ?_
     rw[Zh (n:=i) (by omega)]
     exact hag (i + 1) _ _ (by omega) ⟨_,rfl,by omega,b4,t3.trans t4,hr⟩
   ·have h:i=p.kids.length:=by simp at h; omega
    subst h
    rw[List.drop_length,flats,runL] at hr
    have:=hK σ3 ((t1.trans t2).trans t3) (by rw[hr]; exact hb3)
    rw[hr] at this; exact this
  clear hk2 hK hb hc
  cases hv with
  | ef x=>
   refine Za rfl (Za rfl (Za rfl (Xe ?_)))
   refine ZB (row:=[.rptr (efC x) 0]) rfl rfl rfl ?_
   have hB:=Xn σ1 (ABlk.box [.rptr (efC x) 0])
   have hlt:σ1.length < (σ1 ++ [ABlk.box [.rptr (efC x) 0]]).length:=by simp
   have kb:∀ v2 σ2 vs,PtL vs (Pt.ef x).kids→Gr (σ1 ++ [ABlk.box [.rptr (efC x) 0]]) 1 (vs.map one) vs.length v2 σ2→k2 [v2] σ2:=fun v2 σ2 vs h1 h2=>kk v2 σ2 vs h1 h2.base
   clear kk b1 t1
   generalize σ1 ++ [ABlk.box [.rptr (efC x) 0]]=τ at hB hlt kb ⊢
   generalize σ1.length=c at hB hlt ⊢
   refine Za rfl (Za (ld hB rfl) (Za rfl (Za rfl (Za (ldr (efLd0 _)) ?_))))
   refine Zd (c210 _) rfl g210_ok.plain rfl ?_
   refine Qi fun k14 hk14=>?_
   have k1:∀ v σ2 vs,PtL vs (if cntOp x.op then [.nm x.n] else [])→Gr τ 1 (vs.map one) vs.length v σ2→k14 [v] σ2:=by
    intro v σ2 vs hp hg
    rw[hk14]; clear hk14 k14
    have hB2:=hg.old hB (by simp)
    have hvl:vs.length≤1:=by rw[hp.length]; split <;> simp
    refine Za rfl (Za (ld hB2 rfl) (Za rfl (Za rfl (Za (ldr (efLd0 _)) (Za (Zg ..) ?_)))))
    refine Xc (fun h=>?_) (fun h=>?_)
    rotate_left
    ·have h:¬ x.op=8:=by simpa using h
     refine kb _ _ vs ?_ hg
     simp only[Pt.kids,if_neg h,List.append_nil]; exact hp
    have h:x.op=8:=by simpa using h
    have hkids:(Pt.ef x).kids=(if cntOp x.op then [.nm x.n] else []) ++ (.cn x.c :: (x.thn.map .ef ++ x.els.map .ef)):=by simp only[Pt.kids,if_pos h]
    have hlen2:x.thn.length + x.els.length + 1≤500000000:=by
     rw[hkids] at hkl
     simp only[List.length_append,List.length_cons,List.length_map] at hkl
     rw[hkids] at hN
     omega
    refine Za rfl (Za (ld hB2 rfl) (Za rfl (Za rfl (Za rfl (Za rfl ?_)))))
    refine hg.put (cs:=[.iface 292 (.agg [.rptr (efC x) 7])]) rfl rfl rfl (by omega) (fun v' σ' hg'=>?_)
    have hB3:=hg'.old hB (by simp)
    refine Za rfl (Za (ld hB3 rfl) (Za rfl (Za rfl (Za (ldr (Xp _)) ?_))))
    refine Za rfl (Za (ld hB3 rfl) (Za rfl (Za rfl (Za (ldr (Zq _)) ?_))))
    refine Za rfl ?_
    refine QA 3 (Qj (Za rfl (Xe (Za rfl ?_))))
    refine Za (v:=iv x.thn.length) (rd:=[]) (by simp[Zi]) ?_
    refine Zcz x.thn (by omega) hg' (fun v3 σ3 w hg3=>?_)
    refine Za rfl (Qj (Za rfl (Xe (Za rfl ?_))))
    refine Za (v:=iv x.els.length) (rd:=[]) (by simp[Zi]) ?_
    refine Zcz x.els (by omega) hg3 (fun v4 σ4 w hg4=>?_)
    refine Za rfl (Qj (Za rfl (Yh ?_)))
    refine kb _ _ ((vs ++ [.iface 292 (.agg [.rptr (efC x) 7])]) ++ (x.thn.map efPt).flatten ++ (x.els.map efPt).flatten) ?_ ?_
    ·rw[hkids]
     have:=efPtL (efPtL (PtL.snoc _ _ _ _ hp (.cn (efC x) 7 x.c (cnAt7 x))) x.thn) x.els
     simpa using this
    ·have e1:((vs ++ [AVal.iface 292 (.agg [.rptr (efC x) 7])]) ++ (x.thn.map efPt).flatten ++ (x.els.map efPt).flatten).map one=List.map one vs ++ [[AVal.iface 292 (.agg [.rptr (efC x) 7])]] ++ List.map efPt x.thn ++ List.map efPt x.els:=by
      rw[List.map_append,List.map_append,← Yav,← Yav,List.map_append]; rfl
     have e2:((vs ++ [AVal.iface 292 (.agg [.rptr (efC x) 7])]) ++ (x.thn.map efPt).flatten ++ (x.els.map efPt).flatten).length=vs.length + 1 + x.thn.length + x.els.length:=by
      have l1:=congrArg List.length (Yav x.thn)
      have l2:=congrArg List.length (Yav x.els)
      simp only[List.length_map] at l1 l2
      simp only[List.length_append,List.length_cons,List.length_nil,← l1,← l2]
     rw[e1,e2]; exact hg4
   clear hk14
   refine Xc (fun h=>?_) (fun h=>?_)
   ·refine Za rfl (Za (ld hB rfl) (Za rfl (Za rfl (Za rfl (Za rfl ?_)))))
    refine(Gr.nil 1 τ).put (cs:=[.iface 290 (.agg [.rptr (efC x) 2])]) rfl rfl rfl (by omega) (fun v' σ' hg'=>?_)
    refine k1 _ _ [.iface 290 (.agg [.rptr (efC x) 2])] ?_ hg'
    rw[if_pos h]
    exact PtL.snoc [] [] _ _ .nil (.nm (efC x) 2 x.n (nmAt2 x))
   ·refine k1 _ _ [] ?_ (Gr.nil 1 τ)
    rw[h]; exact .nil
  | nm row j x hx=>
   refine Za rfl (Za rfl (Za rfl (Yh ?_)))
   refine Za rfl (Za rfl (Za rfl (Xe ?_)))
   refine ZB (row:=[.rptr row j]) rfl rfl rfl ?_
   have hB:=Xn σ1 (ABlk.box [.rptr row j])
   have kb:∀ v2 σ2 vs,PtL vs (Pt.nm x).kids→Gr (σ1 ++ [ABlk.box [.rptr row j]]) 1 (vs.map one) vs.length v2 σ2→k2 [v2] σ2:=fun v2 σ2 vs h1 h2=>kk v2 σ2 vs h1 h2.base
   clear kk b1 t1
   generalize σ1 ++ [ABlk.box [.rptr row j]]=τ at hB kb ⊢
   generalize σ1.length=c at hB ⊢
   have hlen2:x.kids.length≤500000000:=by
    simp only[Pt.kids,List.length_map] at hkl hN; omega
   refine Za rfl (Za (ld hB rfl) (Za rfl (Za rfl (Za (ldr hx.h3) ?_))))
   refine Za (v:=iv x.kids.length) (rd:=[]) (by simp[Zi]) ?_
   refine Xm (ι:=Nat) (fun i vs s=>∃ v,vs=[iv i,v]∧i≤x.kids.length∧Gr τ 1 ((x.kids.take i).map nmPt) i v s) (fun i=>x.kids.length - i) 0 ⟨_,rfl,by omega,by simpa using Gr.nil 1 τ⟩ ?_
   rintro i vs s again ⟨v,rfl,hi,hg⟩ hag
   refine Za rfl (Xc (fun h=>?_) (fun h=>?_))
   ·have h:i < x.kids.length:=by simpa using h
    refine Za rfl (Za (ld (hg.old hB (by simp)) rfl) (Za rfl (Za rfl (Za (ldr hx.h3) ?_))))
    refine Za (Qo _ nmC _ _ _ x.kids _ i h) (Za rfl (Za rfl ?_))
    refine hg.put (cs:=nmPt x.kids[i]) rfl rfl rfl (by omega) (fun v' σ' hg'=>?_)
    refine Za (Yn ..) ?_
    rw[Zh (n:=i) (by omega)]
    refine hag (i + 1) _ _ (by omega) ⟨v',rfl,by omega,?_⟩
    rw[← YC _ _ _ h]; exact hg'
   ·have h:i=x.kids.length:=by simp at h; omega
    subst h
    rw[List.take_length] at hg
    refine kb _ _ (x.kids.map nmPt).flatten ?_ ?_
    ·have:=nmPtL .nil x.kids
     simpa[Pt.kids] using this
    ·have e1:=Qbk x.kids
     have e2:=congrArg List.length e1
     rw[← e1]
     simp only[List.length_map] at e2
     rw[← e2]; exact hg
  | cn row j x hx=>
   refine Za rfl (Za rfl (Za rfl (Yh ?_)))
   refine Za rfl (Za rfl (Za rfl (Yh ?_)))
   refine Za rfl (Za rfl (Za rfl (Xe ?_)))
   refine ZB (row:=[.rptr row j]) rfl rfl rfl ?_
   have hB:=Xn σ1 (ABlk.box [.rptr row j])
   have kb:∀ v2 σ2 vs,PtL vs (Pt.cn x).kids→Gr (σ1 ++ [ABlk.box [.rptr row j]]) 1 (vs.map one) vs.length v2 σ2→k2 [v2] σ2:=fun v2 σ2 vs h1 h2=>kk v2 σ2 vs h1 h2.base
   clear kk b1 t1
   generalize σ1 ++ [ABlk.box [.rptr row j]]=τ at hB kb ⊢
   generalize σ1.length=c at hB ⊢
   have hlen2:x.nums.length + x.kids.length≤500000000:=by
    simp only[Pt.kids,List.length_map,List.length_append] at hkl hN; omega
   refine Za rfl (Za (ld hB rfl) (Za rfl (Za rfl (Za (ldr hx.h3) ?_))))
   refine Za (v:=iv x.nums.length) (rd:=[]) (by simp[Zi]) ?_
   refine Xm (ι:=Nat) (fun i vs s=>∃ v,vs=[iv i,v]∧i≤x.nums.length∧Gr τ 1 ((x.nums.take i).map nmPt) i v s) (fun i=>x.nums.length - i) 0 ⟨_,rfl,by omega,by simpa using Gr.nil 1 τ⟩ ?_
   rintro i vs s again ⟨v,rfl,hi,hg⟩ hag
   refine Za rfl (Xc (fun h=>?_) (fun h=>?_))
   ·have h:i < x.nums.length:=by simpa using h
    refine Za rfl (Za (ld (hg.old hB (by simp)) rfl) (Za rfl (Za rfl (Za (ldr hx.h3) ?_))))
    refine Za (Qo _ nmC _ _ _ x.nums _ i h) (Za rfl (Za rfl ?_))
    refine hg.put (cs:=nmPt x.nums[i]) rfl rfl rfl (by omega) (fun v' σ' hg'=>?_)
    refine Za (Yn ..) ?_
    rw[Zh (n:=i) (by omega)]
    refine hag (i + 1) _ _ (by omega) ⟨v',rfl,by omega,?_⟩
    rw[← YC _ _ _ h]; exact hg'
   have h:i=x.nums.length:=by simp at h; omega
   subst h
   rw[List.take_length] at hg
   clear hag
   refine Za rfl (Za (ld (hg.old hB (by simp)) rfl) (Za rfl (Za rfl (Za (ldr hx.h4) ?_))))
   refine Za (v:=iv x.kids.length) (rd:=[]) (by simp[Zi]) ?_
   refine Xm (ι:=Nat) (fun i vs s=>∃ v,vs=[iv i,v]∧i≤x.kids.length∧Gr τ 1 (x.nums.map nmPt ++ (x.kids.take i).map cnPt) (x.nums.length + i) v s) (fun i=>x.kids.length - i) 0 ⟨_,rfl,by omega,by simpa[h1,hdV,tlV] using hg⟩ ?_
   clear hg
   rintro i vs s again ⟨v,rfl,hi,hg⟩ hag
   refine Za rfl (Xc (fun h=>?_) (fun h=>?_))
   ·have h:i < x.kids.length:=by simpa using h
    refine Za rfl (Za (ld (hg.old hB (by simp)) rfl) (Za rfl (Za rfl (Za (ldr hx.h4) ?_))))
    refine Za (Qo _ cnC _ _ _ x.kids _ i h) (Za rfl (Za rfl ?_))
    refine hg.put (cs:=cnPt x.kids[i]) rfl rfl rfl (by omega) (fun v' σ' hg'=>?_)
    refine Za (Yn ..) ?_
    rw[Zh (n:=i) (by omega)]
    refine hag (i + 1) _ _ (by omega) ⟨v',rfl,by omega,?_⟩
    rw[← YC _ _ _ h,← List.append_assoc]; exact hg'
   ·have h:i=x.kids.length:=by simp at h; omega
    subst h
    rw[List.take_length] at hg
    refine kb _ _ ((x.nums.map nmPt).flatten ++ (x.kids.map cnPt).flatten) ?_ ?_
    ·have:=cnPtL (nmPtL .nil x.nums) x.kids
     simpa[Pt.kids] using this
    ·have e1:((x.nums.map nmPt).flatten ++ (x.kids.map cnPt).flatten).map one=x.nums.map nmPt ++ x.kids.map cnPt:=by
      rw[List.map_append,← Qbk,← Ycb]
     have e2:=congrArg List.length e1
     simp only[List.length_map,List.length_append] at e2
     rw[e1,List.length_append,e2]; exact hg
end Go.Ah.Tz
end
section
namespace Go.Ah.Tz
open Go.Proofs.Tryz (prog)
mutual
theorem YcE:∀ x:Nm,nmW x=min ((nmP x).length:Int) 1073741824
 | .mk op n who kids=>by
  simp only[nmW,nmP,List.length_cons]
  rw[YbI 1 kids (by omega) (by omega)]; omega
theorem YbI:∀ (n:Int) (l:List Nm),0≤n→n≤1073741824→nmWs n l=min (n + ((nmPs l).length:Int)) 1073741824
 | n,[],h1,h2=>by simp only[nmWs,nmPs,List.length_nil]; omega
 | n,x :: l,h1,h2=>by
  simp only[nmWs,nmPs,List.length_append]
  rw[YcE x,YbI _ l (by omega) (by omega)]; omega
end
mutual
theorem XcD:∀ x:Cn,cnW x=min ((cnP x).length:Int) 1073741824
 | .mk op who name nums kids=>by
  simp only[cnW,cnP,List.length_cons,List.length_append]
  rw[YbI 1 nums (by omega) (by omega),Qcm _ kids (by omega) (by omega)]; omega
theorem Qcm:∀ (n:Int) (l:List Cn),0≤n→n≤1073741824→cnWs n l=min (n + ((cnPs l).length:Int)) 1073741824
 | n,[],h1,h2=>by simp only[cnWs,cnPs,List.length_nil]; omega
 | n,x :: l,h1,h2=>by
  simp only[cnWs,cnPs,List.length_append]
  rw[XcD x,Qcm _ l (by omega) (by omega)]; omega
end
mutual
theorem efW_P:∀ (n:Int) (x:Ef),0≤n→n≤1073741824→efW n x=min (n + ((efP x).length:Int)) 1073741824
 | n,.mk op who nn name c thn els,h1,h2=>by
  simp only[efW,efP,List.length_cons,List.length_append]
  rw[YcE nn,XcD c,XaO 0 thn (by omega) (by omega),XaO 0 els (by omega) (by omega)]
  generalize cntOp op=cb
  by_cases h:op=8
  ·simp only[if_pos h]
   cases cb <;> simp only[if_true,if_false,List.length_append,List.length_nil,Bool.false_eq_true] <;> omega
  ·simp only[if_neg h]
   cases cb <;> simp only[if_true,if_false,List.length_nil,Bool.false_eq_true] <;> omega
theorem XaO:∀ (n:Int) (l:List Ef),0≤n→n≤1073741824→efsW n l=min (n + ((efPs l).length:Int)) 1073741824
 | n,[],h1,h2=>by simp only[efsW,efPs,List.length_nil]; omega
 | n,x :: l,h1,h2=>by
  simp only[efsW,efPs,List.length_append]
  rw[efW_P n x h1 h2,XaO _ l (by omega) (by omega)]; omega
end
def cdP(c:Cd):List Pt:=efPs c.played ++ (efPs c.dead ++ efPs c.dawn)
theorem cdW_P(c:Cd):cdW c=min ((cdP c).length:Int) 1073741824:=by
 rw[cdW,XaO 0 _ (by omega) (by omega),XaO 0 _ (by omega) (by omega),XaO 0 _ (by omega) (by omega),cdP]
 simp only[List.length_append]; omega
attribute [local irreducible] Ans.rd Ans.pu Ans.wr Ans.dr Ans.gr Ans.gw Ans.gl Ans.gd Ans.opt joinK W
set_option maxHeartbeats 1000000
theorem QbY(l:List Ef):efPs l=flats (l.map .ef):=(Zaf l).symm
theorem QbR{S:Type}{enc:S→List AVal}{step:S→Pt→S × Bool}{clo:AVal}{b:Nat}(hc:Clo clo b enc step)(l:List Ef)(hf:lsFit l=true)(hN:(efPs l).length≤500000000){s:S}{σ:List ABlk}(hb:hget σ b=.box (enc s)){R:List ABlk→Prop}{K:List AVal→List ABlk→Prop}
 (hR:∀ σ',Bt b σ σ'→hget σ' b=.box (enc (runL step s (efPs l)).1)→(runL step s (efPs l)).2=false→R σ')(hK:∀ w σ',Bt b σ σ'→hget σ' b=.box (enc (runL step s (efPs l)).1)→(runL step s (efPs l)).2=true→K w σ') :
  (W prog GL0).loop (fun ag15 v16 σ=>(W prog GL0).rd (Qb .lss false [(h0 v16),iv l.length] σ) fun t26_17=>(W prog GL0).test t26_17 (
   (W prog GL0).rd (Xd 14 [efV l,(h0 v16)] σ) fun t30_18=>(W prog GL0).rd (Xg [.nilp] [(0,1)] [t30_18] σ) fun t31_19=>(W prog GL0).rd (Xz 272 [t31_19] σ) fun t32_20=>
   (W prog GL0).call (.call 208) [t32_20,clo] σ fun t34_21 σ=>(W prog GL0).rd (Yp .not [t34_21] σ) fun t35_22=>(W prog GL0).test t35_22 (R σ) (
   (W prog GL0).rd (Qb .add false [(h0 v16),(.int .i64 1)] σ) fun t36_23=>ag15 [t36_23] σ)) (K v16 σ)) [(.int .i64 0)] σ:=by
 have hl:=Yay (l.map .ef)
 rw[Zaf,List.length_map] at hl
 rw[QbY] at hR hK
 refine Xm (ι:=Nat) (fun i ws σ3=>∃ s',ws=[iv i]∧i≤l.length∧hget σ3 b=.box (enc s')∧Bt b σ σ3∧runL step s (flats (l.map .ef))=runL step s' (flats ((l.drop i).map .ef))) (fun i=>l.length - i) 0 ⟨s,rfl,by omega,hb,Bt.refl _ _,by simp⟩ ?_
 rintro i ws σ3 again ⟨s',rfl,hi,hb3,t3,hr⟩ hag
 refine Za rfl (Xc (fun h=>?_) (fun h=>?_))
 ·have h:i < l.length:=by simpa using h
  refine Za (Qo _ efC _ _ _ l _ i h) (Za rfl (Za rfl ?_))
  have hdr:l.drop i=l[i] :: l.drop (i + 1):=List.drop_eq_getElem_cons h
  rw[hdr,List.map_cons,flats,XY] at hr
  refine Zu hP rfl g208_ok rfl ?_
  have hm:=YaE (l:=l.map .ef) (p:=.ef l[i]) (List.mem_map_of_mem (List.getElem_mem h))
  rw[Zaf] at hm
  refine c208 hc _ (.ef l[i]) (Nat.le_refl _) (XK hf (List.getElem_mem h)) (by omega) _ (.ef _) s' σ3 _ hb3 (fun σ4 t4 b4=>?_)
  refine Za rfl (Xc (fun h5=>?_) (fun h5=>?_))
  ·have h5:(runL step s' (flat (.ef l[i]))).2=false:=by simpa using h5
   rw[h5] at hr
   exact hR σ4 (t3.trans t4) (by rw[hr]; exact b4) (by rw[hr]; rfl)
  ·have h5:(runL step s' (flat (.ef l[i]))).2=true:=by simpa using h5
   rw[h5,if_pos rfl] at hr
   refine Za (Yn ..) ?_
   rw[Zh (n:=i) (by omega)]
   exact hag (i + 1) _ _ (by omega) ⟨_,rfl,by omega,b4,t3.trans t4,hr⟩
 ·have h:i=l.length:=by simp at h; omega
  subst h
  rw[List.drop_length,List.map_nil,flats,runL] at hr
  exact hK _ σ3 t3 (by rw[hr]; exact hb3) (by rw[hr])
theorem c155{S:Type}{enc:S→List AVal}{step:S→Pt→S × Bool}{clo:AVal}{b:Nat}(hc:Clo clo b enc step)(c:Cd)(f1:lsFit c.played=true)(f2:lsFit c.dead=true)(f3:lsFit c.dawn=true)(hN:(cdP c).length≤500000000){s:S}{σ:List ABlk}{cb:Nat}(hcb:hget σ cb=.box (cdC c))(hb:hget σ b=.box (enc s)){K:AVal→List ABlk→Prop}
 (hK:∀ σ',Bt b σ σ'→hget σ' b=.box (enc (runL step s (cdP c)).1)→K (.tup []) σ'):g155 (W prog GL0) [.bptr cb 0,clo] σ K:=by
 simp only[cdP,List.length_append] at hN
 simp only[cdP,XY] at hK
 unfold g155
 refine Za rfl (Za rfl (Za (ld hcb rfl) (Za rfl (Za rfl (Za (ld hcb rfl) (Za rfl (Za rfl (Za (ld hcb rfl) (Za rfl ?_)))))))))
 refine QA 4 (Qj (Za rfl (Xe (Za rfl ?_))))
 refine Za (v:=iv c.played.length) (rd:=[]) (by simp[Zi]) ?_
 refine QbR hc c.played f1 (by omega) hb (fun σ1 t1 b1 h1=>?_) (fun w σ1 t1 b1 h1=>?_)
 ·rw[h1] at hK; exact hK σ1 t1 b1
 rw[h1,if_pos rfl] at hK
 refine Za rfl (Qj (Za rfl (Xe (Za rfl ?_))))
 refine Za (v:=iv c.dead.length) (rd:=[]) (by simp[Zi]) ?_
 refine QbR hc c.dead f2 (by omega) b1 (fun σ2 t2 b2 h2=>?_) (fun w σ2 t2 b2 h2=>?_)
 ·rw[h2] at hK; exact hK σ2 (t1.trans t2) b2
 rw[h2,if_pos rfl] at hK
 refine Za rfl (Qj (Za rfl (Xe (Za rfl ?_))))
 refine Za (v:=iv c.dawn.length) (rd:=[]) (by simp[Zi]) ?_
 refine QbR hc c.dawn f3 (by omega) b2 (fun σ3 t3 b3 h3=>?_) (fun w σ3 t3 b3 h3=>?_)
 ·exact hK σ3 ((t1.trans t2).trans t3) b3
 refine Za rfl (Qj (Za rfl (Yh ?_)))
 exact hK σ3 ((t1.trans t2).trans t3) b3
def cntS(n:Int)(_:Pt):Int × Bool:=(IntKind.i64.wrap (n + 1),decide (IntKind.i64.wrap (n + 1) < 1073741824))
theorem XbR:∀ (l:List Pt) (n:Int),0≤n→n + (l.length:Int) < 1073741824→runL cntS n l=(n + (l.length:Int),true)
 | [],n,_,_=>by simp[runL]
 | p :: l,n,h1,h2=>by
  simp only[List.length_cons] at h2
  have hw:IntKind.i64.wrap (n + 1)=n + 1:=wrapI (by omega) (by omega)
  simp only[runL,cntS,hw]
  rw[if_pos (by simp; omega),XbR l (n + 1) (by omega) (by omega),List.length_cons]
  congr 1; omega
theorem clo156(b:Nat):Clo (.func (.func 156) [] [.bptr b 0]) b (fun n:Int=>[iv n]) cntS:=by
 intro p v hv s σ K hb hK
 refine Zu hP rfl g156_ok rfl ?_
 show g156 (W prog GL0) [v,.bptr b 0] σ K
 unfold g156
 have hlt:=Zt hb (by simp)
 refine Za (ld hb rfl) (Za (Yn ..) (Ye (stv hb rfl rfl rfl) (Yo _ hlt) ?_))
 have hb2:hget (σ.set b (.box [iv (IntKind.i64.wrap (s + 1))])) b=.box [iv (IntKind.i64.wrap (s + 1))]:=Qk _ hlt
 refine Za (ld hb2 rfl) (Za (QG ..) ?_)
 exact hK _ ⟨by simp,fun c hc hne=>Ym _ hc hne⟩ hb2
theorem c124(c:Cd)(f1:lsFit c.played=true)(f2:lsFit c.dead=true)(f3:lsFit c.dawn=true)(hN:(cdP c).length≤500000000):PCall prog GL0 124 [.agg (cdC c)] (iv (cdW c)):=by
 refine Zf hP g124_ok rfl rfl ?_
 unfold g124
 refine Ye rfl rfl (Ye rfl rfl (Ye rfl rfl (Za rfl ?_)))
 refine Zu hP rfl g155_ok rfl ?_
 refine c155 (clo156 1) c f1 f2 f3 hN (s:=0) rfl rfl (fun σ' _ hb=>?_)
 rw[XbR _ 0 (by omega) (by omega)] at hb
 refine Za (ld hb rfl) ?_
 rw[cdW_P]
 congr 1; omega
end Go.Ah.Tz
end
section
namespace Go.Ah.Tz
open Go.Proofs.Tryz (prog)
attribute [local irreducible] Ans.rd Ans.pu Ans.wr Ans.dr Ans.gr Ans.gw Ans.gl Ans.gd Ans.opt joinK W
set_option maxHeartbeats 1000000
theorem QbL(σ:List ABlk)(x:Ef):Zo [.agg (efC x)] σ=.ok (.bptr σ.length 0) [] [(σ.length,.box (efC x))]:=by rw[XF]; rfl
def idxF{α:Type}(f:α→Bool):List α→Int→Int
 | [],_=>-1
 | x :: l,n=>if f x=true then n else idxF f l (n + 1)
theorem XaW{α:Type}(f:α→Bool):∀ (l:List α) (n:Int),0≤n→decide (0≤idxF f l n)=l.any f
 | [],_,_=>rfl
 | x :: l,n,h=>by
  by_cases hf:f x=true
  ·have e:idxF f (x :: l) n=n:=if_pos hf
   rw[e,List.any_cons,hf]; simpa using h
  ·have e:idxF f (x :: l) n=idxF f l (n + 1):=if_neg hf
   have hf':f x=false:=by simpa using hf
   rw[e,XaW f l (n + 1) (by omega),List.any_cons,hf']; rfl
theorem Ycf{P:Program}{GL:Globs}{c d:Bool}{K:AVal→Prop}{r1:SRes}{f2 f3 f4:AVal→SRes}{σ:List ABlk}{v1 v2 v3:AVal}{q1 q2 q3 q4:List Nat}(h1:r1=.ok v1 q1 [])(h2:f2 v1=.ok v2 q2 [])(h3:f3 v2=.ok v3 q3 [])(h4:f4 v3=.ok (.bool d) q4 [])(hK:K (.bool (c && d))) :
  (W P GL).gr (.bool c) true (fun k=>(W P GL).rd r1 k) fun t1=>(W P GL).gr (.bool c) true (fun k=>(W P GL).rd (f2 t1) k) fun t2=>(W P GL).gr (.bool c) true (fun k=>(W P GL).rd (f3 t2) k) fun t3=>(W P GL).gr (.bool c) true (fun k=>(W P GL).rd (f4 t3) k) fun t4=>(W P GL).rd (Qc [.bool c,t4,.bool false] σ) K:=by
 cases c with
 | true=>exact Xa (Za h1 (Xa (Za h2 (Xa (Za h3 (Xa (Za h4 (Za rfl hK))))))))
 | false=>exact Yb rfl (Yb rfl (Yb rfl (Yb rfl (Za rfl hK))))
theorem c255(l:List Ef)(hl:l.length≤big)(id:FuncId)(fs cs:List AVal)(hp:Zk prog id=true)(f:Ef→Bool)(hc:∀ x∈l,PCall prog GL0 id (fs ++ [.agg (efC x)] ++ cs) (.bool (f x)))(hr:∀ x,roL (fs ++ [.agg (efC x)] ++ cs)=true) :
  PCall prog GL0 255 [efV l,.func (.func id) fs cs] (iv (idxF f l 0)):=by
 rw[bigE] at hl
 refine Zf hP g255_ok rfl rfl ?_
 unfold g255
 refine Za (v:=iv l.length) (rd:=[]) (by simp[Zi]) ?_
 refine Xm (ι:=Nat) (fun i vs s=>vs=[iv i]∧i≤l.length∧idxF f l 0=idxF f (l.drop i) i) (fun i=>l.length - i) 0 ⟨rfl,by omega,by simp⟩ ?_
 rintro i vs s again ⟨rfl,hi,hr'⟩ hag
 refine Za rfl (Xc (fun h=>?_) (fun h=>?_))
 ·have h:i < l.length:=by simpa using h
  refine Za (Qo _ efC _ _ _ l _ i h) (Za (ldr (efLd _)) ?_)
  refine Zd (hc _ (List.getElem_mem h)) rfl hp (hr _) ?_
  rw[List.drop_eq_getElem_cons h,idxF] at hr'
  refine Xc (fun h2=>?_) (fun h2=>?_)
  ·rw[if_pos h2] at hr'; rw[hr']; rfl
  ·rw[if_neg (by rw[h2]; simp)] at hr'
   refine Za (Yn ..) ?_
   rw[Zh (n:=i) (by omega)]
   exact hag (i + 1) _ _ (by omega) ⟨rfl,by omega,by rw[hr']; push_cast; rfl⟩
 ·have h:i=l.length:=by simp at h; omega
  subst h
  rw[List.drop_length,idxF] at hr'
  rw[hr']
theorem c239(l:List Ef)(hl:l.length≤big)(id:FuncId)(fs cs:List AVal)(hp:Zk prog id=true)(f:Ef→Bool)(hc:∀ x∈l,PCall prog GL0 id (fs ++ [.agg (efC x)] ++ cs) (.bool (f x)))(hr:∀ x,roL (fs ++ [.agg (efC x)] ++ cs)=true)(hr2:roL [efV l,.func (.func id) fs cs]=true) :
  PCall prog GL0 239 [efV l,.func (.func id) fs cs] (.bool (l.any f)):=by
 refine Zf hP g239_ok rfl rfl ?_
 unfold g239
 refine Zd (c255 l hl id fs cs hp f hc hr) rfl g255_ok.plain hr2 ?_
 refine Za (Y1 ..) ?_
 rw[XaW f l 0 (by omega)]
def asksR(u:Int):List AVal:=[.func (.func 235) [.agg [iv8 u]] [],.func (.func 235) [.agg [iv8 u]] [],.func (.func 235) [.agg [iv8 u]] [],.func (.func 235) [.agg [iv8 u]] [],.func (.func 236) [.agg [iv8 u]] [],.func (.func 237) [.agg [iv8 u]] [],.func (.func 236) [.agg [iv8 u]] [],.func (.func 236) [.agg [iv8 u]] [],.func (.func 238) [.agg [iv8 u]] []]
theorem c240(u:Int)(x:Ef)(hf:efFit x=true)(h238:x.op=8→PCall prog GL0 238 [.agg [iv8 u],.agg (efC x)] (.bool (efL u x))):PCall prog GL0 240 [.agg (efC x),.rptr [iv8 u] 0,.rptr (asksR u) 0] (.bool (!efL u x)):=by
 have hop:=Xcd hf
 refine Zf hP g240_ok rfl rfl ?_
 unfold g240
 refine Ye (QbL _ _) rfl (Za rfl (Za rfl (Za rfl (Za (ld rfl (efLd0 x)) (Za (Y1 ..) ?_)))))
 have p235:x.op=0∨x.op=1∨x.op=2∨x.op=3→PCall prog GL0 235 [.agg [iv8 u],.agg (efC x)] (.bool (efL u x)):=by
  intro h
  have e:efL u x=decide (joinL u (nmL x.n)=0):=by rw[Xa2,if_neg (by omega),if_neg (by omega),if_pos h]
  rw[e]; exact c235 u x hf
 have p236:¬ (x.op=0∨x.op=1∨x.op=2∨x.op=3)→x.op≠5→x.op≠8→PCall prog GL0 236 [.agg [iv8 u],.agg (efC x)] (.bool (efL u x)):=by
  intro h h5 h8
  have e:efL u x=decide (lbN u=0):=by rw[Xa2,if_neg h5,if_neg h8,if_neg h,YaO]
  rw[e]; exact c236 u x
 have p237:x.op=5→PCall prog GL0 237 [.agg [iv8 u],.agg (efC x)] (.bool (efL u x)):=by
  intro h
  have e:efL u x=QaN (joinL u (nmL x.n)) 1:=by rw[Xa2,if_pos h]
  rw[e]; exact c237 u x hf
 refine Ycf rfl (ld rfl (efLd0 x)) rfl (QG ..) ?_
 rw[wrapI (n:=x.op) (by omega) (by omega)]
 refine Qi fun k11 hk11=>?_
 have hk:∀ id,Zk prog id=true→PCall prog GL0 id [.agg [iv8 u],.agg (efC x)] (.bool (efL u x))→k11 [.func (.func id) [.agg [iv8 u]] []] [.box (efC x)]:=by
  intro id hp hc
  rw[hk11]
  refine Za (ld rfl (efLd x)) ?_
  refine Zd hc rfl hp (efRo u x) ?_
  exact Za rfl rfl
 clear hk11
 refine Xc (fun h=>?_) (fun h=>?_)
 ·have h:0≤x.op∧x.op < 9:=by simpa using h
  refine Za rfl (Za (ld rfl (efLd0 x)) ?_)
  have hcs:x.op=0∨x.op=1∨x.op=2∨x.op=3∨x.op=4∨x.op=5∨x.op=6∨x.op=7∨x.op=8:=by omega
  rcases hcs with e | e | e | e | e | e | e | e | e
  ·have q:=p235 (by omega); rw[e]; exact Za rfl (Za rfl (hk _ g235_ok.plain q))
  ·have q:=p235 (by omega); rw[e]; exact Za rfl (Za rfl (hk _ g235_ok.plain q))
  ·have q:=p235 (by omega); rw[e]; exact Za rfl (Za rfl (hk _ g235_ok.plain q))
  ·have q:=p235 (by omega); rw[e]; exact Za rfl (Za rfl (hk _ g235_ok.plain q))
  ·have q:=p236 (by omega) (by omega) (by omega); rw[e]; exact Za rfl (Za rfl (hk _ g236_ok.plain q))
  ·have q:=p237 e; rw[e]; exact Za rfl (Za rfl (hk _ g237_ok.plain q))
  ·have q:=p236 (by omega) (by omega) (by omega); rw[e]; exact Za rfl (Za rfl (hk _ g236_ok.plain q))
  ·have q:=p236 (by omega) (by omega) (by omega); rw[e]; exact Za rfl (Za rfl (hk _ g236_ok.plain q))
  ·have q:=h238 e; rw[e]; exact Za rfl (Za rfl (hk _ g238_ok.plain q))
 ·have h:0≤x.op→¬ x.op < 9:=by simpa using h
  exact hk _ g236_ok.plain (p236 (by omega) (by omega) (by omega))
theorem c238(u:Int)(x:Ef)(hf:efFit x=true)(h1:∀ u',PCall prog GL0 222 [.agg [iv8 u'],efV x.thn] (.bool (efsL u' x.thn)))(h2:∀ u',PCall prog GL0 222 [.agg [iv8 u'],efV x.els] (.bool (efsL u' x.els))) :
  PCall prog GL0 238 [.agg [iv8 u],.agg (efC x)] (.bool (efsL (joinL u (cnL x.c)) x.thn && efsL (joinL u (cnL x.c)) x.els)):=by
 refine Zf hP g238_ok rfl rfl ?_
 unfold g238
 refine Ye rfl rfl (Ye (QbL _ _) rfl (Xf rfl (Qh rfl rfl (Xf rfl (Qh (ld rfl (efLdC x)) rfl ?_)))))
 refine Qp (c254 _ (ZY hf)) rfl g254_ok.plain (cnRo _) ?_
 refine Qp (c250 _ _) rfl g250_ok.plain rfl ?_
 refine Xf rfl (Qh rfl rfl (Qh rfl rfl (Yy (by kernel_rfl) ?_)))
 refine Za rfl (Za rfl (Za (ld rfl (Xp x)) ?_))
 refine Zd (h1 _) rfl g222_ok.plain rfl ?_
 rcases Bool.eq_false_or_eq_true (efsL (joinL u (cnL x.c)) x.thn) with h | h
 ·rw[h]
  refine Xa (Za rfl (Xa (Za rfl (Xa (Za (ld rfl (Zq x)) (Zb ?_))))))
  refine Zd (h2 _) rfl g222_ok.plain rfl ?_
  exact Za rfl rfl
 ·rw[h]
  exact Yb rfl (Yb rfl (Yb rfl (Yc rfl (Za rfl rfl))))
theorem Ybq(u:Int):∀ l,efsL u l=l.all (efL u)
 | []=>rfl
 | x :: l=>by simp[efsL,Ybq u l]
theorem c222':∀ (k:Nat) (l:List Ef) (u:Int),SizeOf.sizeOf l≤k→lsFit l=true→PCall prog GL0 222 [.agg [iv8 u],efV l] (.bool (efsL u l))
 | 0,l,_,h,_=>by cases l <;> simp at h
 | k + 1,l,u,hk,hf=>by
  refine Zf hP g222_ok rfl rfl ?_
  unfold g222
  refine Ye rfl rfl (Za rfl (Za rfl (Za rfl (Za rfl (Za rfl (Za rfl (Za rfl (Za rfl (Za rfl (Za rfl (Za rfl (Za rfl (Za rfl (Za rfl (Za rfl (Za rfl (Za rfl (Za rfl (Za rfl (Ye rfl rfl (Ye rfl rfl (Za rfl ?_))))))))))))))))))))))
  have hc:∀ x∈l,PCall prog GL0 240 ([] ++ [.agg (efC x)] ++ [.rptr [iv8 u] 0,.rptr (asksR u) 0]) (.bool (!efL u x)):=by
   intro x hx
   have hfx:=XK hf hx
   refine c240 u x hfx (fun h8=>?_)
   have e:efL u x=(efsL (joinL u (cnL x.c)) x.thn && efsL (joinL u (cnL x.c)) x.els):=by rw[Xa2,if_neg (by omega),if_pos h8]
   have hs:=List.sizeOf_lt_of_mem hx
   have hs2:=Yaa x
   rw[e]
   exact c238 u x hfx (fun u'=>c222' k x.thn u' (by omega) (YK hfx)) (fun u'=>c222' k x.els u' (by omega) (QJ hfx))
  refine Yz (c239 l (QB hf) 240 [] [.rptr [iv8 u] 0,.rptr (asksR u) 0] g240_ok.plain (fun x=>!efL u x) hc (fun x=>by rw[XF]; rfl) rfl) rfl g239_ok.plain rfl rfl ?_
  refine Za rfl ?_
  rw[Ybq]
  congr 1
  simp only[List.any_eq_not_all_not,Bool.not_not]
theorem c222(l:List Ef)(u:Int)(hf:lsFit l=true):PCall prog GL0 222 [.agg [iv8 u],efV l] (.bool (efsL u l)):=c222' _ l u (Nat.le_refl _) hf
end Go.Ah.Tz
end
section
namespace Go.Ah.Tz
open Go.Proofs.Tryz (prog)
attribute [local irreducible] Ans.rd Ans.pu Ans.wr Ans.dr Ans.gr Ans.gw Ans.gl Ans.gd Ans.opt joinK W
set_option maxHeartbeats 1000000
theorem c182(cs:List Cd)(hf:ZM cs=true):PCall prog GL0 182 [cdV cs] (.agg [iv (cdsL cs).1,iv (cdsL cs).2]):=by
 simp only[ZM,Bool.and_eq_true,decide_eq_true_eq] at hf
 obtain⟨f0,f1⟩:=hf
 rw[bigE] at f0
 refine Zf hP g182_ok rfl rfl ?_
 unfold g182
 refine Ye rfl rfl (Za rfl (Ye rfl rfl (Ye rfl rfl ?_)))
 refine Za (v:=iv cs.length) (rd:=[]) (by simp[Zi]) ?_
 refine Xm (ι:=Nat) (fun i vs σ=>vs=[iv i]∧hget σ 0=.box [iv 0,iv 0]∧hget σ 1=.box [iv8 0]∧0 < σ.length∧i≤cs.length∧cdsL cs=cdsL (cs.drop i)) (fun i=>cs.length - i) 0 ⟨rfl,rfl,rfl,by simp,by omega,by simp⟩ ?_
 rintro i vs σ again ⟨rfl,hz,ho,hz2,hi,hu⟩ hag
 refine Za rfl ?_
 refine Xc (fun h=>?_) (fun h=>?_)
 rotate_left
 ·have h:i=cs.length:=by simp at h; omega
  subst h
  rw[List.drop_length,cdsL] at hu
  refine Za rfl (Ye (stv hz rfl rfl rfl) (Yo _ hz2) (Yj (ZG hz2 rfl) ?_))
  rw[hu]
 have hi:i < cs.length:=by simpa using h
 have hdr:cs.drop i=cs[i] :: cs.drop (i + 1):=by rw[List.drop_eq_getElem_cons hi]
 have hix:=fun (s:List ABlk)=>Qo s cdC false false 12 cs .i64 i hi
 have hfi:=List.all_eq_true.1 f1 _ (List.getElem_mem hi)
 generalize cs[i]=c at hdr hix hfi
 rw[hdr,cdsL] at hu
 simp only[cdFit,Bool.and_eq_true,decide_eq_true_eq] at hfi
 obtain⟨g0,g1,g2,g3⟩:=hfi
 refine Za (hix _) (Za (ldr (cdLd _)) (ZB (row:=cdC c) (row':=cdC c) rfl rfl rfl ?_))
 have hB0:=Xn σ (ABlk.box (cdC c))
 have hz':hget (σ ++ [ABlk.box (cdC c)]) 0=.box [iv 0,iv 0]:=Zl _ hz (by simp)
 have ho':hget (σ ++ [ABlk.box (cdC c)]) 1=.box [iv8 0]:=Zl _ ho (by simp)
 have hz2':0 < (σ ++ [ABlk.box (cdC c)]).length:=by simp
 generalize σ ++ [ABlk.box (cdC c)]=base at hB0 hz' ho' hz2' ⊢
 generalize σ.length=b at hB0 ⊢
 clear hz hz2 ho
 refine Za (ld ho' rfl) (Za rfl (Za (ld hB0 rfl) ?_))
 refine Zd (c222 _ 0 g1) rfl g222_ok.plain rfl ?_
 refine Za rfl ?_
 apply cutF (cdL c=false)
 ·intro hR
  have good:cdL c=true→(W prog GL0).rd (Qb .add false [iv i,(.int .i64 1)] base) fun t10_26=>again [t10_26] base:=by
   intro hc
   rw[hc,if_pos rfl] at hu
   refine Za (Yn ..) ?_
   rw[Zh (n:=i) (by omega)]
   exact hag (i + 1) _ _ (by omega) ⟨rfl,hz',ho',hz2',by omega,hu⟩
  rcases Bool.eq_false_or_eq_true (!efsL 0 c.played) with a1 | a1
  ·rw[a1]
   repeat (first | refine Xa ?_ | refine Zb ?_ | refine Yb rfl ?_ | refine Yc rfl ?_ | refine Yd rfl ?_ | refine Qd rfl ?_ | refine Za (ld hB0 rfl) ?_ | refine Za rfl ?_)
   refine Xe (hR ?_)
   have a1:efsL 0 c.played=false:=by simpa using a1
   simp[cdL,a1]
  rw[a1]
  repeat (first | refine Xa ?_ | refine Zb ?_ | refine Za (ld ho' rfl) ?_ | refine Za (ld hB0 rfl) ?_ | refine Za rfl ?_)
  have a1:efsL 0 c.played=true:=by simpa using a1
  refine Zd (c222 _ 0 g2) rfl g222_ok.plain rfl ?_
  repeat (first | refine Xa ?_ | refine Zb ?_ | refine Za (ld ho' rfl) ?_ | refine Za (ld hB0 rfl) ?_ | refine Za rfl ?_)
  rcases Bool.eq_false_or_eq_true (!efsL 0 c.dead) with a2 | a2
  ·rw[a2]
   repeat (first | refine Xa ?_ | refine Zb ?_ | refine Yb rfl ?_ | refine Yc rfl ?_ | refine Yd rfl ?_ | refine Qd rfl ?_ | refine Za (ld hB0 rfl) ?_ | refine Za rfl ?_)
   refine Xe (hR ?_)
   have a2:efsL 0 c.dead=false:=by simpa using a2
   simp[cdL,a2]
  rw[a2]
  repeat (first | refine Xa ?_ | refine Zb ?_ | refine Za (ld ho' rfl) ?_ | refine Za (ld hB0 rfl) ?_ | refine Za rfl ?_)
  have a2:efsL 0 c.dead=true:=by simpa using a2
  refine Zd (c222 _ 0 g3) rfl g222_ok.plain rfl ?_
  repeat (first | refine Xa ?_ | refine Zb ?_ | refine Za (ld hB0 rfl) ?_ | refine Za rfl ?_)
  refine Xc (fun a3=>hR ?_) (fun a3=>good ?_)
  ·have a3:efsL 0 c.dawn=false:=by simpa using a3
   simp[cdL,a3]
  ·have a3:efsL 0 c.dawn=true:=by simpa using a3
   simp[cdL,a1,a2,a3]
 intro hc
 rw[hc] at hu
 replace hu:cdsL cs=(140,c.pl):=hu
 refine Za rfl (Za (ld hB0 rfl) (Za rfl (Ye (stv hz' rfl rfl rfl) (Yo _ hz2') (Yj (ZG hz2' rfl) ?_))))
 rw[hu]
theorem c259(l:List Cd)(hl:l.length≤big)(id:FuncId)(fs cs:List AVal)(hp:Zk prog id=true)(f:Cd→Bool)(hc:∀ x∈l,PCall prog GL0 id (fs ++ [.agg (cdC x)] ++ cs) (.bool (f x)))(hr:∀ x,roL (fs ++ [.agg (cdC x)] ++ cs)=true) :
  PCall prog GL0 259 [cdV l,.func (.func id) fs cs] (iv (idxF f l 0)):=by
 rw[bigE] at hl
 refine Zf hP g259_ok rfl rfl ?_
 unfold g259
 refine Za (v:=iv l.length) (rd:=[]) (by simp[Zi]) ?_
 refine Xm (ι:=Nat) (fun i vs s=>vs=[iv i]∧i≤l.length∧idxF f l 0=idxF f (l.drop i) i) (fun i=>l.length - i) 0 ⟨rfl,by omega,by simp⟩ ?_
 rintro i vs s again ⟨rfl,hi,hr'⟩ hag
 refine Za rfl (Xc (fun h=>?_) (fun h=>?_))
 ·have h:i < l.length:=by simpa using h
  refine Za (Qo _ cdC _ _ _ l _ i h) (Za (ldr (cdLd _)) ?_)
  refine Zd (hc _ (List.getElem_mem h)) rfl hp (hr _) ?_
  rw[List.drop_eq_getElem_cons h,idxF] at hr'
  refine Xc (fun h2=>?_) (fun h2=>?_)
  ·rw[if_pos h2] at hr'; rw[hr']; rfl
  ·rw[if_neg (by rw[h2]; simp)] at hr'
   refine Za (Yn ..) ?_
   rw[Zh (n:=i) (by omega)]
   exact hag (i + 1) _ _ (by omega) ⟨rfl,by omega,by rw[hr']; push_cast; rfl⟩
 ·have h:i=l.length:=by simp at h; omega
  subst h
  rw[List.drop_length,idxF] at hr'
  rw[hr']
theorem XbC(t:Tx):∀ (l:List Cd) (n:Nat),((fndI n l t).2=true∧n≤(fndI n l t).1∧(fndI n l t).1 < n + l.length∧idxF (fun c=>c.name == t) l (n:Int)=((fndI n l t).1:Int))∨((fndI n l t)=(0,false)∧idxF (fun c=>c.name == t) l (n:Int) = -1)
 | [],n=>.inr ⟨rfl,rfl⟩
 | c :: l,n=>by
  by_cases h:c.name == t
  ·left
   have e1:fndI n (c :: l) t=(n,true):=if_pos h
   have e2:idxF (fun c:Cd=>c.name == t) (c :: l) (n:Int)=n:=if_pos h
   rw[e1,e2]; simp
  ·have e1:fndI n (c :: l) t=fndI (n + 1) l t:=if_neg h
   have e2:idxF (fun c:Cd=>c.name == t) (c :: l) (n:Int)=idxF (fun c:Cd=>c.name == t) l ((n + 1:Nat):Int):=by
    have:=(if_neg h:(if (c.name == t)=true then (n:Int) else idxF (fun c:Cd=>c.name == t) l ((n:Int) + 1))=_)
    push_cast; exact this
   rw[e1,e2]
   rcases XbC t l (n + 1) with ⟨q1,q2,q3,q4⟩ | q
   ·exact .inl ⟨q1,by omega,by simp; omega,q4⟩
   ·exact .inr q
theorem c244(c:Cd)(t:Tx):PCall prog GL0 244 [.agg (cdC c),.rptr [.str t] 0] (.bool (c.name == t)):=by
 refine Zf hP g244_ok rfl rfl ?_
 unfold g244
 exact Ye rfl rfl (Za rfl (Za (ld rfl rfl) (Za rfl (Za rfl rfl))))
theorem c243(l:List Cd)(hl:l.length≤big)(t:Tx)(x:ABlk)(K:AVal→List ABlk→Prop)(hK:∀ cs σ,cs.all AVal.cell=true→cs.length=12→K (.tup [.agg cs,iv (fndI 0 l t).1,.bool (fndI 0 l t).2]) ([x,.box [.str t]] ++ σ)) :
  g243 (W prog GL0) [cdV l,.func (.func 244) [] [.bptr 1 0]] [x,.box [.str t]] K:=by
 have hc:=c259 l hl 244 [] [.rptr [.str t] 0] g244_ok.plain (fun c=>c.name == t) (fun x _=>c244 x t) (fun x=>rfl)
 unfold g243
 refine Ye rfl rfl ?_
 refine Yz hc rfl g259_ok.plain rfl rfl ?_
 clear hc
 rcases XbC t l 0 with ⟨q1,q2,q3,q4⟩ | ⟨q1,q4⟩
 ·rw[Nat.zero_add] at q3
  have q4:idxF (fun c=>c.name == t) l 0=((fndI 0 l t).1:Int):=q4
  rw[q4]
  rw[q1] at hK
  generalize (fndI 0 l t).1=i at q2 q3 hK ⊢
  refine Za (QG ..) ?_
  rw[decide_eq_false (by omega)]
  refine Yh (Za (Qo _ cdC _ _ _ l _ i q3) (Za (ldr (cdLd _)) (Ye rfl rfl (Yj rfl ?_))))
  exact hK (cdC l[i]) _ rfl rfl
 ·have q4:idxF (fun c=>c.name == t) l 0 = -1:=q4
  rw[q4]
  rw[q1] at hK
  refine Za rfl ?_
  refine Xe (Za rfl (Ye rfl rfl (Yj rfl ?_)))
  exact hK [.str [],.bool false,iv 0,iv 0,iv 0,iv 0,iv 0,iv 0,.nils,.nils,.nils,iv 0] _ rfl rfl
theorem Zcs(cs:List AVal)(h:cs.all AVal.cell=true):cellsOf (.agg cs)=some cs:=by simp[cellsOf,h]
theorem YaP{α:Type}:∀ (a b:List α),a.length=b.length→splice 0 a b=some a
 | [],[],_=>rfl
 | x :: a,y :: b,h=>by simp only[splice,YaP a b (by simpa using h)]
theorem c224(b:Bk)(hl:b.cards.length≤big)(t:Tx):PCall prog GL0 224 [bkV b,.str t] (.tup [iv (fndI 0 b.cards t).1,.bool (fndI 0 b.cards t).2]):=by
 refine Zf hP g224_ok rfl rfl ?_
 unfold g224
 refine Ye rfl rfl (Ye rfl rfl (Za rfl (Za rfl (Za rfl ?_))))
 refine Zu hP rfl g243_ok rfl (c243 b.cards hl t _ _ (fun cs σ h1 h2=>?_))
 refine Za rfl (Za rfl (Za rfl ?_))
 refine ZB (row:=cs) (row':=cs) (Zcs cs h1) (by rw[h2]; rfl) (YaP _ _ (by rw[h2]; rfl)) ?_
 rfl
end Go.Ah.Tz
end
section
namespace Go.Ah.Tz
open Go.Proofs.Tryz (prog)
attribute [local irreducible] Ans.rd Ans.pu Ans.wr Ans.dr Ans.gr Ans.gw Ans.gl Ans.gd Ans.opt joinK W
set_option maxHeartbeats 1000000
theorem Yb0{P:Program}{GL:Globs}{c d:Bool}{K:AVal→Prop}{r1:SRes}{σ:List ABlk}(h1:r1=.ok (.bool d) [] [])(hK:K (.bool (c && d))) :
  (W P GL).gr (.bool c) true (fun k=>(W P GL).rd r1 k) fun t1=>(W P GL).rd (Qc [.bool c,t1,.bool false] σ) K:=by
 cases c with
 | true=>exact Xa (Za h1 (Za rfl hK))
 | false=>exact Yb rfl (Za rfl hK)
theorem XbG{P:Program}{GL:Globs}{c d:Bool}{K:AVal→Prop}{r1 r2:SRes}{f3:AVal→AVal→SRes}{f4:AVal→SRes}{σ:List ABlk}{v1 v2 v3:AVal}{q1 q2 q3 q4:List Nat}(h1:r1=.ok v1 q1 [])(h2:r2=.ok v2 q2 [])(h3:f3 v1 v2=.ok v3 q3 [])(h4:f4 v3=.ok (.bool d) q4 [])(hK:K (.bool (c && d))) :
  (W P GL).gr (.bool c) true (fun k=>(W P GL).rd r1 k) fun t1=>(W P GL).gr (.bool c) true (fun k=>(W P GL).rd r2 k) fun t2=>(W P GL).gr (.bool c) true (fun k=>(W P GL).rd (f3 t1 t2) k) fun t3=>(W P GL).gr (.bool c) true (fun k=>(W P GL).rd (f4 t3) k) fun t4=>(W P GL).rd (Qc [.bool c,t4,.bool false] σ) K:=by
 cases c with
 | true=>exact Xa (Za h1 (Xa (Za h2 (Xa (Za h3 (Xa (Za h4 (Za rfl hK))))))))
 | false=>exact Yb rfl (Yb rfl (Yb rfl (Yb rfl (Za rfl hK))))
theorem QbP{P:Program}{GL:Globs}{c d:Bool}{K:AVal→Prop}{r1 r3:SRes}{f2 f4:AVal→SRes}{f5:AVal→AVal→SRes}{σ:List ABlk}{v1 v2 v3 v4:AVal}{q1 q2 q3 q4 q5:List Nat}(h1:r1=.ok v1 q1 [])(h2:f2 v1=.ok v2 q2 [])(h3:r3=.ok v3 q3 [])(h4:f4 v3=.ok v4 q4 [])(h5:f5 v2 v4=.ok (.bool d) q5 [])(hK:K (.bool (c && d))) :
  (W P GL).gr (.bool c) true (fun k=>(W P GL).rd r1 k) fun t1=>(W P GL).gr (.bool c) true (fun k=>(W P GL).rd (f2 t1) k) fun t2=>(W P GL).gr (.bool c) true (fun k=>(W P GL).rd r3 k) fun t3=>(W P GL).gr (.bool c) true (fun k=>(W P GL).rd (f4 t3) k) fun t4=>(W P GL).gr (.bool c) true (fun k=>(W P GL).rd (f5 t2 t4) k) fun t5=>(W P GL).rd (Qc [.bool c,t5,.bool false] σ) K:=by
 cases c with
 | true=>exact Xa (Za h1 (Xa (Za h2 (Xa (Za h3 (Xa (Za h4 (Xa (Za h5 (Za rfl hK))))))))))
 | false=>exact Yb rfl (Yb rfl (Yb rfl (Yb rfl (Yb rfl (Za rfl hK)))))
theorem ZbE{P:Program}{GL:Globs}{c d:Bool}{K:AVal→Prop}{r1 r2:SRes}{f3:AVal→SRes}{f4:AVal→AVal→SRes}{f5:AVal→SRes}{σ:List ABlk}{v1 v2 v3 v4:AVal}{q1 q2 q3 q4 q5:List Nat}(h1:r1=.ok v1 q1 [])(h2:r2=.ok v2 q2 [])(h3:f3 v2=.ok v3 q3 [])(h4:f4 v1 v3=.ok v4 q4 [])(h5:f5 v4=.ok (.bool d) q5 [])(hK:K (.bool (c && d))) :
  (W P GL).gr (.bool c) true (fun k=>(W P GL).rd r1 k) fun t1=>(W P GL).gr (.bool c) true (fun k=>(W P GL).rd r2 k) fun t2=>(W P GL).gr (.bool c) true (fun k=>(W P GL).rd (f3 t2) k) fun t3=>(W P GL).gr (.bool c) true (fun k=>(W P GL).rd (f4 t1 t3) k) fun t4=>(W P GL).gr (.bool c) true (fun k=>(W P GL).rd (f5 t4) k) fun t5=>(W P GL).rd (Qc [.bool c,t5,.bool false] σ) K:=by
 cases c with
 | true=>exact Xa (Za h1 (Xa (Za h2 (Xa (Za h3 (Xa (Za h4 (Xa (Za h5 (Za rfl hK))))))))))
 | false=>exact Yb rfl (Yb rfl (Yb rfl (Yb rfl (Yb rfl (Za rfl hK)))))
theorem QbF{P:Program}{GL:Globs}{c d:Bool}{K:List ABlk→AVal→Prop}{r1:SRes}{f2:AVal→SRes}{f3:AVal→(AVal→List ABlk→Prop)→Prop}{g:List ABlk→List ABlk}{σ:List ABlk}{v1 v2:AVal}{q1 q2:List Nat}(h1:r1=.ok v1 q1 [])(h2:f2 v1=.ok v2 q2 [])(h3:∀ k:AVal→List ABlk→Prop,k (.bool d) σ→f3 v2 k)(hK:K σ (.bool (c && d))) :
  (W P GL).gr (.bool c) true (fun k=>(W P GL).rd r1 k) fun t1=>(W P GL).gr (.bool c) true (fun k=>(W P GL).rd (f2 t1) k) fun t2=>(W P GL).gw (.bool c) true (fun k=>f3 t2 k) σ fun t3 σ'=>(W P GL).rd (Qc [.bool c,t3,.bool false] (g σ')) (K σ'):=by
 cases c with
 | true=>exact Xa (Za h1 (Xa (Za h2 (Zb (h3 _ (Za rfl hK))))))
 | false=>exact Yb rfl (Yb rfl (Yc rfl (Za rfl hK)))
def Old(σ σ':List ABlk):Prop:=σ.length≤σ'.length∧∀ c,c < σ.length→hget σ' c=hget σ c
theorem Old.refl(σ:List ABlk):Old σ σ:=⟨Nat.le_refl _,fun _ _=>rfl⟩
theorem Old.trans{a b c:List ABlk}(h:Old a b)(k:Old b c):Old a c:=⟨Nat.le_trans h.1 k.1,fun i hi=>by rw[k.2 i (by have:=h.1; omega),h.2 i hi]⟩
theorem Old.app(σ l:List ABlk):Old σ (σ ++ l):=⟨by simp,fun _ h=>YM l h⟩
theorem Old.get{σ σ':List ABlk}(h:Old σ σ'){c:Nat}{x:ABlk}(hx:hget σ c=x)(hd:x≠.dead):hget σ' c=x:=by
 rw[h.2 c (Zt hx hd)]; exact hx
theorem Bt.past{σ σ':List ABlk}{x:ABlk}(h:Bt σ.length (σ ++ [x]) σ'):Old σ σ':=by
 obtain⟨h1,h2⟩:=h
 simp only[List.length_append,List.length_singleton] at h1 h2
 exact⟨by omega,fun c hc=>by rw[h2 c (by omega) (by omega),YM _ hc]⟩
def SeenT(m:List (Tx × Bool))(l:List Tx):Prop:=∀ t,(tlook t m).getD false=l.any fun d=>d == t
theorem SeenT.nil:SeenT [] []:=fun t=>by simp[tlook]
theorem SeenT.put{m:List (Tx × Bool)}{l:List Tx}(h:SeenT m l)(c:Tx):SeenT (tput c true m) (l ++ [c]):=by
 intro t
 rw[QN,List.any_append,← h t]
 by_cases h2:t == c
 ·have e:t=c:=by simpa using h2
  simp[e]
 ·have h3:(c == t)=false:=by
   rw[Bool.eq_false_iff]; intro h; apply h2; simp at h; simp[h]
  rw[if_neg h2]; simp[h3]
theorem YbY{α:Type}(l:List α)(f:α→Bool):(!l.any f)=l.all fun x=>!f x:=by
 induction l with
 | nil=>rfl
 | cons x l ih=>simp[← ih]
theorem Xck(b:Bk)(hc:b.cards.length≤big)(l:List Tx)(hl:l.length≤big)(ok:Bool){σ:List ABlk}(h0':hget σ 0=.box [cdV b.cards,foV b.formats]){K:List AVal→List ABlk→Prop}
 (hK:∀ w σ',Old σ σ'→K [w,.bool (ok && nmsGo b.cards [] l)] σ') :
  (W prog GL0).loop (fun ag56 v57 τ=>(W prog GL0).rd (Qb .lss false [(h0 v57),iv l.length] τ) fun t76_58=>(W prog GL0).test t76_58 (
   (W prog GL0).rd (Xd 1 [txV l,(h0 v57)] τ) fun t77_59=>(W prog GL0).rd (Ze false 1 [t77_59] τ) fun t78_60=>(W prog GL0).rd (Ze true 2 [.bptr 0 0] τ) fun t80_61=>
   (W prog GL0).call (.call 224) [t80_61,t78_60] τ fun t82_62 τ=>(W prog GL0).rd (Qe 0 [t82_62] τ) fun t83_63=>(W prog GL0).rd (Qe 1 [t82_62] τ) fun t84_64=>
   (W prog GL0).gr (h1 v57) true (fun k=>(W prog GL0).rd (Zj [t84_64] τ) k) fun t87_65=>(W prog GL0).rd (Qc [(h1 v57),t87_65,(.bool false)] τ) fun t88_66=>
   (W prog GL0).gr t88_66 true (fun k=>(W prog GL0).rd (Zj [.map σ.length] τ) k) fun t90_67=>(W prog GL0).gr t88_66 true (fun k=>(W prog GL0).rd (Zj [t78_60] τ) k) fun t91_68=>
   (W prog GL0).gr t88_66 true (fun k=>(W prog GL0).rd (Xt true false (.bool false) [t90_67,t91_68] τ) k) fun t92_69=>(W prog GL0).gr t88_66 true (fun k=>(W prog GL0).rd (Yp .not [t92_69] τ) k) fun t93_70=>
   (W prog GL0).rd (Qc [t88_66,t93_70,(.bool false)] τ) fun t94_71=>(W prog GL0).wr (ZA true [.map σ.length,t78_60,(.bool true)] τ) τ fun _ τ=>
   (W prog GL0).rd (Qb .add false [(h0 v57),(.int .i64 1)] τ) fun t97_72=>ag56 [t97_72,t94_71] τ) (K v57 τ)) [(.int .i64 0),.bool ok] (σ ++ [.map []]):=by
 rw[bigE] at hl
 have hnew:hget (σ ++ [.map []]) σ.length=.map (mpE []):=Xn _ _
 have hlen:σ.length < (σ ++ [ABlk.map []]).length:=by simp
 refine Xm (ι:=Nat) (fun i vs s=>∃ ok' m,vs=[iv i,.bool ok']∧i≤l.length∧hget s σ.length=.map (mpE m)∧SeenT m (l.take i)∧Bt σ.length (σ ++ [.map []]) s∧(ok && nmsGo b.cards [] l)=(ok' && nmsGo b.cards (l.take i) (l.drop i))) (fun i=>l.length - i) 0 ⟨ok,[],rfl,by omega,hnew,by simpa using SeenT.nil,Bt.refl _ _,by simp⟩ ?_
 rintro i vs s again ⟨ok',m,rfl,hi,hm,hse,hbt,hr⟩ hag
 have h0'':hget s 0=.box [cdV b.cards,foV b.formats]:=hbt.past.get h0' (by simp)
 refine Za rfl (Xc (fun h=>?_) (fun h=>?_))
 ·have h:i < l.length:=by simpa using h
  refine Za (Qo _ txC _ _ _ l _ i h) (Za (ldr (txLd _)) (Za (ld h0'' rfl) ?_))
  refine Zd (c224 b hc _) rfl g224_ok.plain rfl ?_
  refine Za rfl (Za rfl (Yb0 rfl ?_))
  refine XbG rfl rfl (QaP hm _) rfl ?_
  refine Ye (Ya3 hm _ _) (Yo _ (Zt hm (by simp))) (Za (Yn ..) ?_)
  rw[Zh (n:=i) (by omega)]
  have hml:=Zt hm (by simp)
  refine hag (i + 1) _ _ (by omega) ⟨_,_,rfl,by omega,Qk _ hml,by rw[Zw _ _ h]; exact hse.put _,hbt.trans ⟨by simp,fun c hc hne=>Ym _ hc hne⟩,?_⟩
  rw[hr,List.drop_eq_getElem_cons h,nmsGo,Zw _ _ h,hse,YbY]
  simp only[Bool.and_assoc]
 ·have h:i=l.length:=by simp at h; omega
  subst h
  rw[List.drop_length,nmsGo,Bool.and_true] at hr
  have:=hK (iv (l.length:Int)) s hbt.past
  rw[hr] at this; exact this
def SeenF(m:List (Tx × Bool))(l:List Fo):Prop:=∀ t,(tlook t m).getD false=l.any fun d=>d.name == t
theorem SeenF.put{m:List (Tx × Bool)}{l:List Fo}(h:SeenF m l)(c:Fo):SeenF (tput c.name true m) (l ++ [c]):=by
 intro t
 rw[QN,List.any_append,← h t]
 by_cases h2:t == c.name
 ·have e:t=c.name:=by simpa using h2
  simp[e]
 ·have h3:(c.name == t)=false:=by
   rw[Bool.eq_false_iff]; intro h; apply h2; simp at h; simp[h]
  rw[if_neg h2]; simp[h3]
theorem c184(b:Bk)(hf:bkFit b=true):PCall prog GL0 184 [bkV b] (.agg [iv (fmtGo b [] b.formats).1,iv (fmtGo b [] b.formats).2]):=by
 simp only[bkFit,ZM,Bool.and_eq_true,decide_eq_true_eq] at hf
 obtain⟨⟨fc,_⟩,fl,fa⟩:=hf
 have fl':=fl
 rw[bigE] at fl'
 refine Zf hP g184_ok rfl rfl ?_
 unfold g184
 refine Ye rfl rfl (Ye rfl rfl (Ye rfl rfl (Za rfl (Za rfl ?_))))
 refine Za (v:=iv b.formats.length) (rd:=[]) (by simp[Zi]) ?_
 refine Xm (ι:=Nat) (fun i vs σ=>∃ m,vs=[iv i]∧i≤b.formats.length∧hget σ 0=.box [cdV b.cards,foV b.formats]∧hget σ 1=.box [iv 0,iv 0]∧hget σ 2=.map (mpE m)∧SeenF m (b.formats.take i)∧fmtGo b [] b.formats=fmtGo b (b.formats.take i) (b.formats.drop i)) (fun i=>b.formats.length - i) 0 ⟨[],rfl,by omega,rfl,rfl,rfl,fun t=>by simp[tlook],by simp⟩ ?_
 rintro i vs σ again ⟨m,rfl,hi,hb0,hb1,hb2,hse,hr⟩ hag
 refine Za rfl (Xc (fun h=>?_) (fun h=>?_))
 rotate_left
 ·have h:i=b.formats.length:=by simp at h; omega
  subst h
  rw[List.drop_length,fmtGo] at hr
  refine Za rfl (Ye (stv hb1 rfl rfl rfl) (Yo _ (Zt hb1 (by simp))) (Yj (ZG (Zt hb1 (by simp)) rfl) ?_))
  rw[hr]
 have h:i < b.formats.length:=by simpa using h
 have hix:=fun (s:List ABlk)=>Qo s foC false false 7 b.formats .i64 i h
 have hfo:=List.all_eq_true.1 fa _ (List.getElem_mem h)
 have htk:=Zw _ _ h
 rw[List.drop_eq_getElem_cons h,fmtGo] at hr
 generalize b.formats[i]=f at hix hfo htk hr
 simp only[foFit,Bool.and_eq_true,decide_eq_true_eq] at hfo
 obtain⟨fo1,fo2,fo3⟩:=hfo
 refine Za (hix _) (Za (ldr (foLd f)) (ZB (row:=foC f) (row':=foC f) rfl rfl rfl ?_))
 have hB:=Xn σ (ABlk.box (foC f))
 have hb0':hget (σ ++ [ABlk.box (foC f)]) 0=.box [cdV b.cards,foV b.formats]:=Zl _ hb0 (by simp)
 have hb1':hget (σ ++ [ABlk.box (foC f)]) 1=.box [iv 0,iv 0]:=Zl _ hb1 (by simp)
 have hb2':hget (σ ++ [ABlk.box (foC f)]) 2=.map (mpE m):=Zl _ hb2 (by simp)
 generalize σ ++ [ABlk.box (foC f)]=τ at hB hb0' hb1' hb2' ⊢
 generalize σ.length=c at hB ⊢
 clear hb0 hb1 hb2
 refine Za (QG ..) ?_
 refine QbF (g:=fun s=>s) (σ:=τ) (d:=nameOk f.name) rfl (ld hB rfl) (fun k hk=>Zd (c223 _ fo1) rfl g223_ok.plain rfl hk) ?_
 refine ZbE rfl rfl (ld hB rfl) (QaP hb2' _) rfl ?_
 refine Y9 rfl (ld hB rfl) (Y1 ..) ?_
 refine QbP rfl (ld hB rfl) rfl (ld hB rfl) (Qb8 ..) ?_
 refine Y9 rfl (ld hB rfl) (Qb8 ..) ?_
 refine Y9 rfl (ld hB rfl) (Y1 ..) ?_
 refine Y9 rfl (ld hB rfl) (Qb8 ..) ?_
 refine Za rfl (Za (ld hB rfl) (Za rfl (Za (ld hB rfl) (Za rfl ?_))))
 refine QA 3 (Qj (Za rfl (Xe (Za rfl (Ye rfl (XL _ _) ?_)))))
 refine Za (v:=iv f.banned.length) (rd:=[]) (by simp[Zi]) ?_
 refine Xck b fc f.banned fo2 _ hb0' (fun w τ2 o2=>?_)
 refine Za rfl (Qj (Za rfl (Xe (Za rfl (Ye rfl (XL _ _) ?_)))))
 refine Za (v:=iv f.single.length) (rd:=[]) (by simp[Zi]) ?_
 refine Xck b fc f.single fo3 _ (o2.get hb0' (by simp)) (fun w τ3 o3=>?_)
 have o:=o2.trans o3
 refine Za rfl (Qj (Za rfl (Yh ?_)))
 have hok:((((((((((decide ((i:Int) < 240) && nameOk f.name) && !(tlook f.name m).getD false) && decide (0≤f.least)) && decide (f.least≤f.most)) && decide (f.most≤60)) && decide (0≤f.copies)) && decide (f.copies≤999)) && nmsGo b.cards [] f.banned) && nmsGo b.cards [] f.single))=fmtOk b (b.formats.take i) f:=by
  have hti:(b.formats.take i).length=i:=by rw[List.length_take]; omega
  have e:decide ((i:Int) < 240)=decide (i < 240):=by congr 1; simp; omega
  rw[fmtOk,hti,hse,e]
  generalize (List.take i b.formats).any (fun g=>g.name == f.name)=x1
  generalize decide (i < 240)=x2
  generalize nameOk f.name=x3
  cases x1 <;> cases x2 <;> cases x3 <;> simp[Bool.and_assoc]
 have hb1'':=o.get hb1' (by simp)
 have hb2'':=o.get hb2' (by simp)
 have hB'':=o.get hB (by simp)
 have hb0'':=o.get hb0' (by simp)
 refine Za (v:=.bool (!fmtOk b (b.formats.take i) f)) (rd:=[]) (by rw[← hok]; rfl) ?_
 refine Xc (fun h2=>?_) (fun h2=>?_)
 ·have h2:fmtOk b (b.formats.take i) f=false:=by simpa using h2
  rw[h2,if_neg (by simp)] at hr
  refine Za rfl (Za (ld hB'' rfl) (Za rfl (Ye (stv hb1'' rfl rfl rfl) (Yo _ (Zt hb1'' (by simp))) (Yj (ZG (Zt hb1'' (by simp)) rfl) ?_))))
  rw[hr]
 ·have h2:fmtOk b (b.formats.take i) f=true:=by simpa using h2
  rw[h2,if_pos rfl] at hr
  refine Za rfl (Za (ld hB'' rfl) (Ye (Ya3 hb2'' _ _) (Yo _ (Zt hb2'' (by simp))) (Za (Yn ..) ?_)))
  rw[Zh (n:=i) (by omega)]
  refine hag (i + 1) _ _ (by omega) ⟨_,rfl,by omega,?_,?_,Qk _ (Zt hb2'' (by simp)),by rw[htk]; exact hse.put f,by rw[htk]; exact hr⟩
  ·exact Xh hb0'' (by simp) (by omega)
  ·exact Xh hb1'' (by simp) (by omega)
def Yt(l:List Cd):Prop:=∀ c∈l,(cdP c).length≤500000000
theorem c180'(cs:List Cd)(hf:ZM cs=true)(hs:Yt cs):PCall prog GL0 180 [cdV cs] (.agg [iv (cdsChk cs).1,iv (cdsChk cs).2]):=by
 refine c180 cs hf (fun m hm c hc=>?_)
 have hfc:cdFit c=true:=by
  simp only[ZM,Bool.and_eq_true] at hf
  exact List.all_eq_true.1 hf.2 c hc
 have hfc':=hfc
 simp only[cdFit,Bool.and_eq_true,decide_eq_true_eq] at hfc'
 obtain⟨q0,q1,q2,q3⟩:=hfc'
 exact c221 m cs hm c hfc (c223 _ q0) (c124 c q1 q2 q3 (hs c hc))
theorem c143(b:Bk)(hf:bkFit b=true)(hs:Yt b.cards):PCall prog GL0 143 [bkV b] (.agg [iv (bkR b).1,iv (bkR b).2]):=by
 have hf':=hf
 simp only[bkFit,Bool.and_eq_true] at hf'
 have hcf:=hf'.1
 have p179:PCall prog GL0 179 [.rptr [cdV b.cards,foV b.formats] 0] (.agg [iv (cdsChk b.cards).1,iv (cdsChk b.cards).2]):=by
  refine Zf hP g179_ok rfl rfl ?_
  unfold g179
  refine Ye rfl rfl (Za rfl (Za rfl ?_))
  refine Zd (c180' _ hcf hs) rfl g180_ok.plain rfl ?_
  exact Ye rfl rfl (Yj rfl rfl)
 have p181:PCall prog GL0 181 [.rptr [cdV b.cards,foV b.formats] 0] (.agg [iv (cdsL b.cards).1,iv (cdsL b.cards).2]):=by
  refine Zf hP g181_ok rfl rfl ?_
  unfold g181
  refine Ye rfl rfl (Za rfl (Za rfl ?_))
  refine Zd (c182 _ hcf) rfl g182_ok.plain rfl ?_
  exact Ye rfl rfl (Yj rfl rfl)
 have p183:PCall prog GL0 183 [.rptr [cdV b.cards,foV b.formats] 0] (.agg [iv (fmtGo b [] b.formats).1,iv (fmtGo b [] b.formats).2]):=by
  refine Zf hP g183_ok rfl rfl ?_
  unfold g183
  refine Ye rfl rfl (Za rfl ?_)
  refine Zd (c184 b hf) rfl g184_ok.plain rfl ?_
  exact Ye rfl rfl (Yj rfl rfl)
 refine Zf hP g143_ok rfl rfl ?_
 unfold g143
 refine Ye rfl rfl (Ye rfl rfl (Za rfl (Za rfl (Za rfl (Za rfl ?_)))))
 refine QA 4 (Qj (Za rfl (Xe (Za rfl ?_))))
 refine Yz p179 rfl g179_ok.plain rfl rfl (Ye rfl rfl (Ye rfl rfl (Za rfl (Za rfl (Za (Xaa ..) (Xc (fun h=>?_) (fun h=>Za rfl ?_)))))))
 ·refine Za rfl (Ye rfl rfl (Yj rfl ?_))
  rw[bkR,if_pos (by simpa using h)]
 refine Qj (Za rfl (Xe (Za rfl ?_)))
 refine Yz p181 rfl g181_ok.plain rfl rfl (Ye rfl rfl (Ye rfl rfl (Za rfl (Za rfl (Za (Xaa ..) (Xc (fun h2=>?_) (fun h2=>Za rfl ?_)))))))
 ·refine Za rfl (Ye rfl rfl (Yj rfl ?_))
  rw[bkR,if_neg (by simpa using h),if_pos (by simpa using h2)]
 refine Qj (Za rfl (Xe (Za rfl ?_)))
 refine Yz p183 rfl g183_ok.plain rfl rfl (Ye rfl rfl (Ye rfl rfl (Za rfl (Za rfl (Za (Xaa ..) (Xc (fun h3=>?_) (fun h3=>Za rfl ?_)))))))
 ·refine Za rfl (Ye rfl rfl (Yj rfl ?_))
  rw[bkR,if_neg (by simpa using h),if_neg (by simpa using h2)]
 refine Qj (Za rfl (Yh (Za rfl (Ye rfl rfl (Yj rfl ?_)))))
 rw[bkR,if_neg (by simpa using h),if_neg (by simpa using h2)]
 have h3:(fmtGo b [] b.formats).1=0:=by simpa using h3
 have key:∀ (l pre:List Fo),(fmtGo b pre l).1=0→(fmtGo b pre l).2=0:=by
  intro l
  induction l with
  | nil=>intro pre _; rfl
  | cons f l ih=>
   intro pre
   rw[fmtGo]
   split
   ·exact ih _
   ·intro h; simp at h
 rw[h3,key _ _ h3]
end Go.Ah.Tz
end
section
namespace Go.Ah.Tz
open Go.Proofs.Tryz (prog)
theorem NCall.case1{P:Program}{GL:Globs}{f:FuncId}{e:Bool}{sz:Nat}{v:AVal}{bs:List ABlk}(h1:NCall P GL f [.nils] v bs)(h2:NCall P GL f [.rsl e true sz []] v bs):NCall P GL f [.rsl e false sz []] v bs:=by
 intro w M vs hM hg hx
 match vs,hx with
 | [u],⟨hu,_⟩=>
  have hu':Den M noOwn (.rsl e false sz []) u:=hu
  cases hu' with
  | rsl _ _ _ _ _ a cap blk off f q1 q2 q3 q4 q5 q6 q7 q8=>
   cases a with
   | none=>
    have:=q4 rfl
    subst this
    exact h1 w M _ hM hg ⟨.nils _,trivial⟩
   | some p=>exact h2 w M _ hM hg ⟨.rsl _ e true sz [] (some p) cap blk off f q1 (fun _=>rfl) q3 q4 q5 q6 q7 q8,trivial⟩
attribute [local irreducible] Ans.rd Ans.pu Ans.wr Ans.dr Ans.gr Ans.gw Ans.gl Ans.gd Ans.opt joinK W
theorem c96(l:List Int)(hl:l.length≤1000000000):NCall prog GL0 96 [rowV l] (.sl 0 0 l.length false) [.rows 1 (l.map cel)]:=by
 cases l with
 | nil=>
  refine NCall.case1 ?_ ?_
  ·refine Qw hP g96_ok rfl ?_
   unfold g96
   exact Za rfl (Xe (Tidy.ghost 1 (.inl rfl)))
  ·refine Qw hP g96_ok rfl ?_
   unfold g96
   exact Za rfl (Yh (Za rfl (Ye rfl rfl (Tidy.refl _ _))))
 | cons x l=>
  refine Qw hP g96_ok rfl ?_
  unfold g96
  refine Za rfl (Yh (Za rfl ?_))
  refine Ye (v:=.sl 0 0 (x :: l).length false) (rd:=[]) (up:=[(0,.rows 1 ((x :: l).map cel))]) ?_ rfl (Tidy.refl _ _)
  show (match ZF 1 [] (rowV (x :: l)) with
   | some (ys,rd)=>bif ZC ys && Nat.ble ((2 * (([]:List (List AVal)).length + ys.length) + 192) * 8) (2 ^ 48) then SRes.ok (.sl 0 0 (([]:List (List AVal)).length + ys.length) false) rd ([] ++ [(0,ABlk.rows 1 ([] ++ ys))]) else SRes.stop
   | none=>.stop)=_
  have h1:ZF 1 [] (rowV (x :: l))=some ((x :: l).map cel,[]):=rfl
  have h2:∀ q:List Int,ZC (q.map cel)=true:=by
   intro q; induction q with
   | nil=>rfl
   | cons y q ih=>simp only[List.map_cons,ZC,ih,Bool.and_true]; rfl
  have h3:Nat.ble ((2 * (([]:List (List AVal)).length + ((x :: l).map cel).length) + 192) * 8) (2 ^ 48)=true:=Nat.ble_eq_true_of_le (by simp only[List.length_map,List.length_nil]; omega)
  simp only[h1,h2,h3,Bool.and_self,cond_true]
  simp
theorem w96{l:List Int}(hl:l.length≤1000000000){σ:List ABlk}{K:AVal→List ABlk→Prop}(hK:K (.sl σ.length 0 l.length false) (σ ++ [.rows 1 (l.map cel)])):(W prog GL0).call (.call 96) [rowV l] σ K:=by
 refine Yaw (c96 l hl) rfl g96_ok.plain rfl ?_
 simp only[Xu,List.map_cons,List.map_nil,Zr,AVal.ren,Qz,Nat.zero_add]
 exact hK
theorem d96{l:List Int}(hl:l.length≤1000000000){σ:List ABlk}{K:AVal→List Nat × List Nat→List ABlk→Prop}(hK:K (.sl σ.length 0 l.length false) ([],[σ.length]) (σ ++ [.rows 1 (l.map cel)])):(W prog GL0).dcall (.call 96) [rowV l] σ K:=by
 refine Yag (c96 l hl) rfl g96_ok.plain rfl ?_
 simp only[Xu,List.map_cons,List.map_nil,Zr,AVal.ren,Qz,Nat.zero_add,QH]
 exact hK
theorem c112(l:List Th)(hl:l.length≤1000000000):NCall prog GL0 112 [thV l] (.sl 0 0 l.length false) [.rows 4 (l.map thC)]:=by
 cases l with
 | nil=>
  refine NCall.case1 ?_ ?_
  ·refine Qw hP g112_ok rfl ?_
   unfold g112
   exact Za rfl (Xe (Tidy.ghost 4 (.inl rfl)))
  ·refine Qw hP g112_ok rfl ?_
   unfold g112
   exact Za rfl (Yh (Za rfl (Ye rfl rfl (Tidy.refl _ _))))
 | cons x l=>
  refine Qw hP g112_ok rfl ?_
  unfold g112
  refine Za rfl (Yh (Za rfl ?_))
  refine Ye (v:=.sl 0 0 (x :: l).length false) (rd:=[]) (up:=[(0,.rows 4 ((x :: l).map thC))]) ?_ rfl (Tidy.refl _ _)
  show (match ZF 4 [] (thV (x :: l)) with
   | some (ys,rd)=>bif ZC ys && Nat.ble ((2 * (([]:List (List AVal)).length + ys.length) + 192) * 32) (2 ^ 48) then SRes.ok (.sl 0 0 (([]:List (List AVal)).length + ys.length) false) rd ([] ++ [(0,ABlk.rows 4 ([] ++ ys))]) else SRes.stop
   | none=>.stop)=_
  have h1:ZF 4 [] (thV (x :: l))=some ((x :: l).map thC,[]):=rfl
  have h2:∀ q:List Th,ZC (q.map thC)=true:=by
   intro q; induction q with
   | nil=>rfl
   | cons y q ih=>simp only[List.map_cons,ZC,ih,Bool.and_true]; rfl
  have h3:Nat.ble ((2 * (([]:List (List AVal)).length + ((x :: l).map thC).length) + 192) * 32) (2 ^ 48)=true:=Nat.ble_eq_true_of_le (by simp only[List.length_map,List.length_nil]; omega)
  simp only[h1,h2,h3,Bool.and_self,cond_true]
  simp
theorem d112{l:List Th}(hl:l.length≤1000000000){σ:List ABlk}{K:AVal→List Nat × List Nat→List ABlk→Prop}(hK:K (.sl σ.length 0 l.length false) ([],[σ.length]) (σ ++ [.rows 4 (l.map thC)])):(W prog GL0).dcall (.call 112) [thV l] σ K:=by
 refine Yag (c112 l hl) rfl g112_ok.plain rfl ?_
 simp only[Xu,List.map_cons,List.map_nil,Qak,AVal.ren,Qz,Nat.zero_add,QH]
 exact hK
theorem c59(s:St)(hs:StLe 1000000000 s):NCall prog GL0 59 [stV s] (.agg (stO s 0)) (stB s):=by
 refine Qw hP g59_ok rfl ?_
 unfold g59
 have w1:IntKind.i64.wrap (0 + 1)=1:=by decide
 have w2:IntKind.i64.wrap (1 + 1)=2:=by decide
 repeat (first | refine Za rfl ?_ | refine Ye rfl rfl ?_ | refine Xf rfl ?_ | refine Qh rfl rfl ?_)
 refine w96 hs.attack ?_
 simp only[List.length_cons,List.length_nil,List.nil_append,List.cons_append,Nat.zero_add,Nat.reduceAdd]
 repeat (first | refine Za rfl ?_ | refine Ye rfl rfl ?_ | refine Xf rfl ?_ | refine Qh rfl rfl ?_)
 refine QA 3 (Qj ?_)
 refine Za rfl (Xe ?_)
 repeat (first | refine Za rfl ?_ | refine Ye rfl rfl ?_ | refine Xf rfl ?_ | refine Qh rfl rfl ?_)
 refine d96 hs.s0.deck ?_
 simp only[List.length_cons,List.length_nil,List.nil_append,List.cons_append,Nat.zero_add,Nat.reduceAdd]
 repeat (first | refine Za rfl ?_ | refine Ye rfl rfl ?_ | refine Xf rfl ?_ | refine Qh rfl rfl ?_)
 refine d96 hs.s0.hand ?_
 simp only[List.length_cons,List.length_nil,List.nil_append,List.cons_append,Nat.zero_add,Nat.reduceAdd]
 repeat (first | refine Za rfl ?_ | refine Ye rfl rfl ?_ | refine Xf rfl ?_ | refine Qh rfl rfl ?_)
 refine d96 hs.s0.grave ?_
 simp only[List.length_cons,List.length_nil,List.nil_append,List.cons_append,Nat.zero_add,Nat.reduceAdd]
 repeat (first | refine Za rfl ?_ | refine Ye rfl rfl ?_ | refine Xf rfl ?_ | refine Qh rfl rfl ?_)
 refine d96 hs.s0.told ?_
 simp only[List.length_cons,List.length_nil,List.nil_append,List.cons_append,Nat.zero_add,Nat.reduceAdd]
 repeat (first | refine Za rfl ?_ | refine Ye rfl rfl ?_ | refine Xf rfl ?_ | refine Qh rfl rfl ?_)
 refine d112 hs.s0.units ?_
 simp only[List.length_cons,List.length_nil,List.nil_append,List.cons_append,Nat.zero_add,Nat.reduceAdd]
 repeat (first | refine Za rfl ?_ | refine Ye rfl rfl ?_ | refine Xf rfl ?_ | refine Qh rfl rfl ?_)
 refine Yy (by kernel_rfl) (Za rfl ?_)
 rw[w1]
 refine Qj ?_
 refine Za rfl (Xe ?_)
 repeat (first | refine Za rfl ?_ | refine Ye rfl rfl ?_ | refine Xf rfl ?_ | refine Qh rfl rfl ?_)
 refine d96 hs.s1.deck ?_
 simp only[List.length_cons,List.length_nil,List.nil_append,List.cons_append,Nat.zero_add,Nat.reduceAdd]
 repeat (first | refine Za rfl ?_ | refine Ye rfl rfl ?_ | refine Xf rfl ?_ | refine Qh rfl rfl ?_)
 refine d96 hs.s1.hand ?_
 simp only[List.length_cons,List.length_nil,List.nil_append,List.cons_append,Nat.zero_add,Nat.reduceAdd]
 repeat (first | refine Za rfl ?_ | refine Ye rfl rfl ?_ | refine Xf rfl ?_ | refine Qh rfl rfl ?_)
 refine d96 hs.s1.grave ?_
 simp only[List.length_cons,List.length_nil,List.nil_append,List.cons_append,Nat.zero_add,Nat.reduceAdd]
 repeat (first | refine Za rfl ?_ | refine Ye rfl rfl ?_ | refine Xf rfl ?_ | refine Qh rfl rfl ?_)
 refine d96 hs.s1.told ?_
 simp only[List.length_cons,List.length_nil,List.nil_append,List.cons_append,Nat.zero_add,Nat.reduceAdd]
 repeat (first | refine Za rfl ?_ | refine Ye rfl rfl ?_ | refine Xf rfl ?_ | refine Qh rfl rfl ?_)
 refine d112 hs.s1.units ?_
 simp only[List.length_cons,List.length_nil,List.nil_append,List.cons_append,Nat.zero_add,Nat.reduceAdd]
 repeat (first | refine Za rfl ?_ | refine Ye rfl rfl ?_ | refine Xf rfl ?_ | refine Qh rfl rfl ?_)
 refine Yy (by kernel_rfl) (Za rfl ?_)
 rw[w2]
 refine Qj ?_
 refine Za rfl (Yh ?_)
 repeat (first | refine Za rfl ?_ | refine Ye rfl rfl ?_ | refine Xf rfl ?_ | refine Qh rfl rfl ?_)
 refine Yj rfl ?_
 refine Tidy.gc [2,3,4,5,7,6,8,9,10,12,11] (by decide) (by simp) ?_ rfl
 simp only[gcH,List.map_cons,List.map_nil,hget,Zr,Qak]
end Go.Ah.Tz
end
section
namespace Go.Ah.Tz
open Go.Proofs.Tryz (prog)
def ilook{α:Type}(t:Int):List (Int × α)→Option α
 | []=>none
 | p :: l=>if t == p.1 then some p.2 else ilook t l
def mpG{α:Type}(f:α→AVal)(l:List (Int × α)):List (AVal × AVal):=l.map fun p=>(iv p.1,f p.2)
theorem Ya7{α:Type}(f:α→AVal)(t:Int):∀ l:List (Int × α),alook (iv t) (mpG f l)=some ((ilook t l).map f)
 | []=>rfl
 | p :: l=>by
  simp only[mpG,List.map_cons,alook,keyEq,ilook,ikEq,cond_true]
  cases h:t == p.1 with
  | true=>rfl
  | false=>exact Ya7 f t l
theorem Qbj{α:Type}(f:α→AVal)(t:Int)(v:α):∀ l:List (Int × α),ilook t l=none→aput (iv t) (f v) (mpG f l)=some (mpG f (l ++ [(t,v)]))
 | [],_=>rfl
 | p :: l,h=>by
  rw[ilook] at h
  split at h
  ·cases h
  ·rename_i h2
   have h2:(t == p.1)=false:=by simpa using h2
   have:=Qbj f t v l h
   simp only[mpG] at this
   simp only[mpG,List.map_cons,List.cons_append,aput,keyEq,ikEq,cond_true,h2,this]
theorem Zao{α:Type}(t:Int):∀ (a b:List (Int × α)),ilook t (a ++ b)=(match ilook t a with
 | some v=>some v
 | none=>ilook t b)
 | [],b=>rfl
 | p :: a,b=>by
  simp only[List.cons_append,ilook]
  split
  ·rfl
  ·exact Zao t a b
theorem Xak{α:Type}(t:Int):∀ l:List (Int × α),(ilook t l).isSome=(l.map (·.1)).contains t
 | []=>rfl
 | p :: l=>by
  simp only[ilook,List.map_cons,List.contains_cons]
  cases h:t == p.1 with
  | true=>simp
  | false=>simp only[Bool.false_eq_true,if_false,Bool.false_or]; exact Xak t l
theorem Ybe{α:Type}(f:α→AVal)(z:AVal)(ok:Bool){σ:List ABlk}{b:Nat}{l:List (Int × α)}(h:hget σ b=.map (mpG f l))(t:Int):Xt false ok z [.map b,iv t] σ=.ok (lookV ok z ((ilook t l).map f)) [b] []:=by
 simp only[Xt,YZ,mapOf,h,Ya7,cond_true]
theorem Xcm{α:Type}(f:α→AVal){σ:List ABlk}{b:Nat}{l:List (Int × α)}(h:hget σ b=.map (mpG f l))(t:Int)(v:α)(hn:ilook t l=none):ZA false [.map b,iv t,f v] σ=.ok .junk [] [(b,.map (mpG f (l ++ [(t,v)])))]:=by
 simp only[ZA,YZ,h,Qbj f t v l hn,cond_true]
structure SdAt (row:List AVal) (j:Nat) (x:Sd):Prop where
 h0:partA false (j + 0) 1 row=some (iv x.life)
 h1:partA false (j + 1) 1 row=some (iv x.mana)
 h2:partA false (j + 2) 1 row=some (iv x.most)
 h3:partA false (j + 3) 1 row=some (rowV x.deck)
 h4:partA false (j + 4) 1 row=some (rowV x.hand)
 h5:partA false (j + 5) 1 row=some (rowV x.grave)
 h6:partA false (j + 6) 1 row=some (thV x.units)
 h7:partA false (j + 7) 1 row=some (rowV x.told)
theorem sdAt0(s:St):SdAt (stC s) 7 s.s0:=⟨rfl,rfl,rfl,rfl,rfl,rfl,rfl,rfl⟩
theorem sdAt1(s:St):SdAt (stC s) 15 s.s1:=⟨rfl,rfl,rfl,rfl,rfl,rfl,rfl,rfl⟩
attribute [local irreducible] Ans.rd Ans.pu Ans.wr Ans.dr Ans.gr Ans.gw Ans.gl Ans.gd Ans.opt joinK W
set_option maxHeartbeats 2000000
theorem c120(l:List Int)(hl:l.length≤big)(id:FuncId)(fs cs:List AVal)(hp:Zk prog id=true)(f:Int→Bool)(hc:∀ x∈l,PCall prog GL0 id (fs ++ [iv x] ++ cs) (.bool (f x)))(hr:∀ x,roL (fs ++ [iv x] ++ cs)=true) :
  PCall prog GL0 120 [rowV l,.func (.func id) fs cs] (iv (idxF f l 0)):=by
 rw[bigE] at hl
 refine Zf hP g120_ok rfl rfl ?_
 unfold g120
 refine Za (v:=iv l.length) (rd:=[]) (by simp[Zi]) ?_
 refine Xm (ι:=Nat) (fun i vs s=>vs=[iv i]∧i≤l.length∧idxF f l 0=idxF f (l.drop i) i) (fun i=>l.length - i) 0 ⟨rfl,by omega,by simp⟩ ?_
 rintro i vs s again ⟨rfl,hi,hr'⟩ hag
 refine Za rfl (Xc (fun h=>?_) (fun h=>?_))
 ·have h:i < l.length:=by simpa using h
  refine Za (Qo _ cel _ _ _ l _ i h) (Za (ldr rfl) ?_)
  refine Zd (hc _ (List.getElem_mem h)) rfl hp (hr _) ?_
  rw[List.drop_eq_getElem_cons h,idxF] at hr'
  refine Xc (fun h2=>?_) (fun h2=>?_)
  ·rw[if_pos h2] at hr'; rw[hr']; rfl
  ·rw[if_neg (by rw[h2]; simp)] at hr'
   refine Za (Yn ..) ?_
   rw[Zh (n:=i) (by omega)]
   exact hag (i + 1) _ _ (by omega) ⟨rfl,by omega,by rw[hr']; push_cast; rfl⟩
 ·have h:i=l.length:=by simp at h; omega
  subst h
  rw[List.drop_length,idxF] at hr'
  rw[hr']
theorem c185(l:List Int)(hl:l.length≤big)(id:FuncId)(fs cs:List AVal)(hp:Zk prog id=true)(f:Int→Bool)(hc:∀ x∈l,PCall prog GL0 id (fs ++ [iv x] ++ cs) (.bool (f x)))(hr:∀ x,roL (fs ++ [iv x] ++ cs)=true)(hr2:roL [rowV l,.func (.func id) fs cs]=true) :
  PCall prog GL0 185 [rowV l,.func (.func id) fs cs] (.bool (l.any f)):=by
 refine Zf hP g185_ok rfl rfl ?_
 unfold g185
 refine Zd (c120 l hl id fs cs hp f hc hr) rfl g120_ok.plain hr2 ?_
 refine Za (Y1 ..) ?_
 rw[XaW f l 0 (by omega)]
theorem c186(b:Bk)(x:Int):PCall prog GL0 186 [iv x,.rptr [.rptr [cdV b.cards,foV b.formats] 0] 0] (.bool (decide (x < 0) || decide ((b.cards.length:Int)≤x))):=by
 refine Zf hP g186_ok rfl rfl ?_
 unfold g186
 refine Za (QG ..) ?_
 refine YaC (fun _=>rfl) (fun _=>ldr rfl) (fun _=>rfl) (fun _=>rfl) (fun _=>ldr rfl) (v6:=iv b.cards.length) (q6:=[]) (fun _=>by simp[Zi]) (fun _=>Y1 ..) rfl
theorem Yby(n:Nat)(l:List Int)(most:Int):(!(decide ((l.length:Int) > most) || l.any fun x=>decide (x < 0) || decide ((n:Int)≤x)))=Qs n l most:=by
 rw[Qs,Bool.not_or,YbY]
 congr 1
 ·rw[Bool.eq_iff_iff]; simp
 ·congr 1; funext x
  rw[Bool.eq_iff_iff]; simp
end Go.Ah.Tz
end
section
namespace Go.Ah.Tz
open Go.Proofs.Tryz (prog)
theorem Qb9(f:Int→AVal)(z:AVal)(o:Option Int):lookV true z (o.map f)=.tup [(o.map f).getD z,.bool o.isSome]:=by cases o <;> rfl
theorem Zb1{σ:List ABlk}{b:Nat}{row:List AVal}(h:hget σ b=.box [.rptr row 0])(l:List Int)(id:FuncId):Qt σ 1000 [rowV l,.func (.func id) [] [.bptr b 0]]=some ([rowV l,.func (.func id) [] [.rptr [.rptr row 0] 0]],[b]):=by
 show Qt σ (997 + 1 + 1 + 1) _=_
 simp[Qt,h,AVal.ro]
attribute [local irreducible] Ans.rd Ans.pu Ans.wr Ans.dr Ans.gr Ans.gw Ans.gl Ans.gd Ans.opt joinK W
set_option maxHeartbeats 4000000
@[reducible] def bkC(b:Bk):List AVal:=[cdV b.cards,foV b.formats]
theorem Ybk(b:Bk)(l:List Int)(hl:l.length≤big)(most:Int){σ:List ABlk}{b4:Nat}(hb:hget σ b4=.box [.rptr (bkC b) 0]){R K:List ABlk→Prop}(hR:Qs b.cards.length l most=false→∀ σ',Old σ σ'→R σ')(hK:Qs b.cards.length l most=true→∀ σ',Old σ σ'→K σ') :
  (W prog GL0).wr (Yf [.nils,(.int .i64 0)] [] σ) σ fun t11_62 σ=>(W prog GL0).wr (Zc 2 [t11_62,.agg [rowV l,iv most]] σ) σ fun _ σ=>
  (W prog GL0).rd (Ya 0 [t11_62] σ) fun t88_63=>(W prog GL0).rd (Ze false 1 [t88_63] σ) fun t89_64=>(W prog GL0).rd (Qg [t89_64] σ) fun t90_65=>
  (W prog GL0).rd (Ya 1 [t11_62] σ) fun t91_66=>(W prog GL0).rd (Ze false 1 [t91_66] σ) fun t92_67=>(W prog GL0).rd (Qb .gtr false [t90_65,t92_67] σ) fun t93_68=>
  (W prog GL0).gr t93_68 false (fun k=>(W prog GL0).rd (Ya 0 [t11_62] σ) k) fun t95_69=>(W prog GL0).gr t93_68 false (fun k=>(W prog GL0).rd (Ze false 1 [t95_69] σ) k) fun t96_70=>
  (W prog GL0).gr t93_68 false (fun k=>(W prog GL0).rd (Zp (.func 186) 0 [.bptr b4 0] σ) k) fun t97_71=>(W prog GL0).gw t93_68 false (fun k=>(W prog GL0).call (.call 185) [t96_70,t97_71] σ k) σ fun t98_72 σ=>
  (W prog GL0).rd (Qc [t93_68,(.bool true),t98_72] σ) fun t99_73=>(W prog GL0).test t99_73 (R σ) (K σ):=by
 refine ZB (row:=[rowV l,iv most]) rfl rfl rfl ?_
 have hB:=Xn σ (ABlk.box [rowV l,iv most])
 have hb':hget (σ ++ [ABlk.box [rowV l,iv most]]) b4=.box [.rptr (bkC b) 0]:=Zl _ hb (by simp)
 have ho:=Old.app σ [ABlk.box [rowV l,iv most]]
 generalize σ ++ [ABlk.box [rowV l,iv most]]=τ at hB hb' ho ⊢
 generalize σ.length=c at hB ⊢
 refine Za rfl (Za (ld hB rfl) (Za (v:=iv l.length) (rd:=[]) (by simp[Zi]) (Za rfl (Za (ld hB rfl) (Za (X1 ..) ?_)))))
 refine Yb3 (d:=l.any fun x=>decide (x < 0) || decide ((b.cards.length:Int)≤x)) (fun _=>rfl) (fun _=>ld hB rfl) (fun _=>rfl) (fun _ k hk=>?_) ?_
 ·exact Yz (c185 l hl 186 [] [.rptr [.rptr (bkC b) 0] 0] g186_ok.plain (fun x=>decide (x < 0) || decide ((b.cards.length:Int)≤x)) (fun x _=>c186 b x) (fun x=>rfl) rfl) rfl g185_ok.plain (Zb1 hb' l 186) rfl hk
 have he:=Yby b.cards.length l most
 refine Xc (fun h=>hR ?_ _ ho) (fun h=>hK ?_ _ ho)
 ·rw[← he,h]; rfl
 ·rw[← he,h]; rfl
theorem Zcr(b:Bk)(next:Int)(u:Th)(met:Bool) :
  (!((((((((met || decide (u.card < 0)) || decide ((b.cards.length:Int)≤u.card)) || !((b.cards[u.card.toNat]?).getD default).unit) || decide (u.harm < 0)) || decide (1000000 < u.harm)) || decide (u.id < 1)) || decide (next≤u.id))))=(Zv b next u && !met):=by
 rw[Zv]
 cases met with
 | true=>simp
 | false=>
  by_cases h1:u.card < 0
  ·have:¬ 0≤u.card:=by omega
   simp[h1,this]
  by_cases h2:(b.cards.length:Int)≤u.card
  ·have:¬ u.card < b.cards.length:=by omega
   simp[h2,this]
  have e1:0≤u.card:=by omega
  have e2:u.card < b.cards.length:=by omega
  have e3:u.card.toNat < b.cards.length:=by omega
  simp only[h1,h2,e1,e2,decide_true,decide_false,Bool.or_false,Bool.true_and,Bool.not_false,Bool.and_true,Bool.false_or]
  rw[List.getElem?_eq_getElem e3]
  simp only[Option.map_some,Option.getD_some]
  generalize b.cards[u.card.toNat].unit=q
  rw[Bool.eq_iff_iff]
  cases q <;> simp <;> omega
theorem c144(b:Bk)(s:St)(side:Int)(j:Nat)(x:Sd)(hx:SdAt (stC s) j x)(hj:∀ σ,Yi 2 8 [.rptr (stC s) (0 + 7),iv side] σ=.ok (.rptr (stC s) j) [] [])(hs:SdLe 1000000000 x)(ids:List (Int × Int)){m:Nat}{σ:List ABlk}(hm:hget σ m=.map (mpG iv ids)){K:AVal→List ABlk→Prop}
 (hF:(Qm b.cards.length x && Qr b s.next (ids.map (·.1)) x.units)=false→∀ σ',K (.bool false) σ')
 (hT:(Qm b.cards.length x && Qr b s.next (ids.map (·.1)) x.units)=true→∀ σ',Bt m σ σ'→hget σ' m=.map (mpG iv (ids ++ x.units.map fun u=>(u.id,side)))→K (.bool true) σ') :
  g144 (W prog GL0) [.rptr (bkC b) 0,.rptr (stC s) 0,iv side,.map m] σ K:=by
 unfold g144
 refine Ye rfl (XL _ _) ?_
 have hB:=Xn σ (ABlk.box [.rptr (bkC b) 0])
 have hm':hget (σ ++ [ABlk.box [.rptr (bkC b) 0]]) m=.map (mpG iv ids):=Zl _ hm (by simp)
 have ho:=Old.app σ [ABlk.box [.rptr (bkC b) 0]]
 have hml:=Zt hm (by simp)
 have hne:m≠σ.length:=by omega
 generalize σ ++ [ABlk.box [.rptr (bkC b) 0]]=τ at hB hm' ho ⊢
 generalize σ.length=c at hB hne ⊢
 refine Za rfl (Za rfl (Za (hj _) (Za rfl (Za rfl (Za (ldr hx.h0) ?_)))))
 refine Zd (c57 _) rfl g57_ok.plain rfl (Za rfl ?_)
 refine Ya2 (fun _=>rfl) (fun _=>rfl) (fun _=>rfl) (fun _=>ldr hx.h1) (fun _=>QG ..) ?_
 refine ZbW (fun _=>rfl) (fun _=>rfl) (fun _=>rfl) (fun _=>ldr hx.h1) (fun _ k hk=>Zd (c57 _) rfl g57_ok.plain rfl hk) (fun _=>rfl) ?_
 refine Ya2 (fun _=>rfl) (fun _=>rfl) (fun _=>rfl) (fun _=>ldr hx.h2) (fun _=>QG ..) ?_
 refine Ya2 (fun _=>rfl) (fun _=>rfl) (fun _=>rfl) (fun _=>ldr hx.h2) (fun _=>X1 ..) ?_
 refine Ycm (fun _=>rfl) (fun _=>rfl) (fun _=>rfl) (fun _=>ldr hx.h6) (v5:=iv x.units.length) (q5:=[]) (fun _=>by simp[Zi]) (fun _=>X1 ..) ?_
 refine Xc (fun h=>hF ?_ _) (fun h=>?_)
 ·have:Qm b.cards.length x=false:=by
   rw[Bool.eq_false_iff]; intro hh
   simp only[Qm,Bool.and_eq_true,decide_eq_true_eq] at hh
   obtain⟨p1,p2,p3,p4,p5,_,_,_,_,p6⟩:=hh
   simp only[p1,p3,Bool.not_true,Bool.false_or,Bool.or_false,Bool.or_eq_true,decide_eq_true_eq] at h
   omega
  rw[this]; rfl
 simp only[Bool.or_eq_false_iff,Bool.not_eq_false',decide_eq_false_iff_not] at h
 obtain⟨⟨⟨⟨⟨p1,p2⟩,p3⟩,p4⟩,p5⟩,p6⟩:=h
 have hh:Qm b.cards.length x=(Qs b.cards.length x.deck 60 && (Qs b.cards.length x.hand 10 && (Qs b.cards.length x.grave 1000000 && Qs b.cards.length x.told 1000000))):=by
  have q2:decide (0≤x.mana)=true:=by simp; omega
  have q4:decide (0≤x.most)=true:=by simp; omega
  have q5:decide (x.most≤10)=true:=by simp; omega
  have q6:decide (x.units.length≤7)=true:=by simp; omega
  rw[Qm,p1,p3,q2,q4,q5,q6]; simp
 rw[hh] at hF hT
 clear hh p1 p2 p3 p4 p5 p6
 refine Za rfl (Za rfl (Za (ldr hx.h3) (Za rfl (Za rfl (Za rfl (Za (ldr hx.h4) (Za rfl (Za rfl (Za rfl (Za (ldr hx.h5) (Za rfl (Za rfl (Za rfl (Za (ldr hx.h7) (Za rfl (Za rfl ?_))))))))))))))))
 have d1:=hs.deck
 have d2:=hs.hand
 have d3:=hs.grave
 have d4:=hs.told
 have d5:=hs.units
 refine QA 5 (Qj (Za rfl (Xe (Za rfl ?_))))
 refine Ybk b x.deck (by rw[bigE]; omega) 60 hB (fun h _ _=>hF (by rw[h]; rfl) _) (fun a1 σ1 o1=>Za rfl (Qj (Za rfl (Xe (Za rfl ?_)))))
 refine Ybk b x.hand (by rw[bigE]; omega) 10 (o1.get hB (by simp)) (fun h _ _=>hF (by rw[a1,h]; rfl) _) (fun a2 σ2 o2=>Za rfl (Qj (Za rfl (Xe (Za rfl ?_)))))
 replace o2:=o1.trans o2
 refine Ybk b x.grave (by rw[bigE]; omega) 1000000 (o2.get hB (by simp)) (fun h _ _=>hF (by rw[a1,a2,h]; rfl) _) (fun a3 σ3 o3=>Za rfl (Qj (Za rfl (Xe (Za rfl ?_)))))
 replace o3:=o2.trans o3
 refine Ybk b x.told (by rw[bigE]; omega) 1000000 (o3.get hB (by simp)) (fun h _ _=>hF (by rw[a1,a2,a3,h]; rfl) _) (fun a4 σ4 o4=>Za rfl (Qj (Za rfl (Yh ?_))))
 replace o4:=o3.trans o4
 rw[a1,a2,a3,a4] at hF hT
 simp only[Bool.and_self,Bool.true_and] at hF hT
 have hB4:=o4.get hB (by simp)
 have hm4:=o4.get hm' (by simp)
 have oo:=ho.trans o4
 clear o1 o2 o3 o4 ho hB hm' hm
 refine Za rfl (Za rfl (Za (ldr hx.h6) (Za (v:=iv x.units.length) (rd:=[]) (by simp[Zi]) ?_)))
 refine Xm (ι:=Nat) (fun i vs τ=>vs=[iv i]∧i≤x.units.length∧hget τ c=.box [.rptr (bkC b) 0]∧hget τ m=.map (mpG iv (ids ++ (x.units.take i).map fun u=>(u.id,side)))∧Bt m σ τ∧Qr b s.next (ids.map (·.1)) x.units=Qr b s.next ((ids ++ (x.units.take i).map fun u=>(u.id,side)).map (·.1)) (x.units.drop i)) (fun i=>x.units.length - i) 0
  ⟨rfl,by omega,hB4,by simpa using hm4,⟨oo.1,fun c hc _=>oo.2 c hc⟩,by simp⟩ ?_
 clear hB4 hm4 oo
 rintro i vs τ1 again ⟨rfl,hi,hB,hm,hbt,hr⟩ hag
 refine Za rfl (Xc (fun h=>?_) (fun h=>?_))
 rotate_left
 ·have h:i=x.units.length:=by simp at h; omega
  subst h
  rw[List.drop_length,Qr] at hr
  rw[List.take_length] at hm
  exact hT hr _ hbt hm
 have h:i < x.units.length:=by simpa using h
 have hix:=fun (s:List ABlk)=>Qo s thC false false 4 x.units .i64 i h
 have htk:=Zw _ _ h
 rw[List.drop_eq_getElem_cons h,Qr] at hr
 generalize x.units[i]=u at hix htk hr
 generalize hq:ids ++ (x.units.take i).map (fun u=>(u.id,side))=cur at hm hr
 have hcur:ids ++ (x.units.take (i + 1)).map (fun u=>(u.id,side))=cur ++ [(u.id,side)]:=by rw[htk,List.map_append,← List.append_assoc,hq]; rfl
 refine Za (hix _) (Za (ldr rfl) (ZB (row:=thC u) (row':=thC u) rfl rfl rfl ?_))
 have hU:=Xn τ1 (ABlk.box (thC u))
 have hB':hget (τ1 ++ [ABlk.box (thC u)]) c=.box [.rptr (bkC b) 0]:=Zl _ hB (by simp)
 have hm':hget (τ1 ++ [ABlk.box (thC u)]) m=.map (mpG iv cur):=Zl _ hm (by simp)
 have hml':=Zt hm' (by simp)
 have hbt':Bt m σ (τ1 ++ [ABlk.box (thC u)]):=hbt.trans (Bt.gr m (Old.app _ _).1 (Old.app _ _).2)
 generalize τ1 ++ [ABlk.box (thC u)]=τ2 at hU hB' hm' hml' hbt' ⊢
 generalize τ1.length=d at hU ⊢
 refine Za rfl (Za (ld hU rfl) (Za (Ybe iv _ _ hm' _) ?_))
 rw[Qb9]
 refine Za rfl (Za rfl ?_)
 refine ZaF (fun _=>rfl) (fun _=>ld hU rfl) (fun _=>QG ..) ?_
 refine XcA (fun _=>rfl) (fun _=>ld hU rfl) (fun _=>ld hB' rfl) (fun _=>rfl) (fun _=>rfl) (fun _=>ldr rfl) (v7:=iv b.cards.length) (q7:=[]) (fun _=>by simp[Zi]) (fun _=>Y1 ..) ?_
 refine Zcq (d:=!((b.cards[u.card.toNat]?).getD default).unit) (fun _=>ld hB' rfl) (fun _=>rfl) (fun _=>rfl) (fun _=>ldr rfl) (fun _=>rfl) (fun _=>ld hU rfl) (v7:=.rptr (cdC ((b.cards[u.card.toNat]?).getD default)) 0) (q7:=[]) (fun hc=>?_) (fun _=>rfl) (fun _=>ldr (cdLd1 _)) (fun _=>rfl) ?_
 ·simp only[Bool.or_eq_false_iff,decide_eq_false_iff_not] at hc
  have e3:u.card.toNat < b.cards.length:=by omega
  rw[List.getElem?_eq_getElem e3]
  exact Zbw _ cdC _ _ _ b.cards _ u.card (by omega) e3
 refine ZaF (fun _=>rfl) (fun _=>ld hU rfl) (fun _=>QG ..) ?_
 refine ZaF (fun _=>rfl) (fun _=>ld hU rfl) (fun _=>X1 ..) ?_
 refine ZaF (fun _=>rfl) (fun _=>ld hU rfl) (fun _=>QG ..) ?_
 refine YaC (fun _=>rfl) (fun _=>ld hU rfl) (fun _=>rfl) (fun _=>rfl) (fun _=>rfl) (v6:=iv s.next) (q6:=[]) (fun _=>ldr rfl) (fun _=>Y1 ..) ?_
 have hue:=Zcr b s.next u (ilook u.id cur).isSome
 have hk:=Xak u.id cur
 refine Xc (fun h2=>hF ?_ _) (fun h2=>?_)
 ·rw[h2] at hue
  rw[hr,← hk]
  have hue:(Zv b s.next u && !(ilook u.id cur).isSome)=false:=hue.symm
  cases h5:Zv b s.next u with
  | false=>rfl
  | true=>
   rw[h5] at hue
   have:(ilook u.id cur).isSome=true:=by simpa using hue
   rw[this]; rfl
 ·rw[h2] at hue
  have hue:(Zv b s.next u && !(ilook u.id cur).isSome)=true:=hue.symm
  simp only[Bool.and_eq_true,Bool.not_eq_true'] at hue
  have hnone:ilook u.id cur=none:=by
   have:=hue.2
   cases h5:ilook u.id cur with
   | none=>rfl
   | some v=>rw[h5] at this; cases this
  rw[hue.1,← hk,hue.2,Bool.not_false,Bool.true_and,Bool.true_and] at hr
  refine Za rfl (Za (ld hU rfl) (Ye (Xcm iv hm' _ side hnone) (Yo _ hml') (Za (Yn ..) ?_)))
  rw[Zh (n:=i) (by omega)]
  refine hag (i + 1) _ _ (by omega) ⟨rfl,by omega,Xh hB' (by simp) (fun e=>hne e),?_,hbt'.trans ⟨by simp,fun c hc hne=>Ym _ hc hne⟩,?_⟩
  ·rw[hcur]; exact Qk _ hml'
  ·rw[hcur,hr,List.map_append]; rfl
end Go.Ah.Tz
end
section
namespace Go.Ah.Tz
open Go.Proofs.Tryz (prog)
theorem QaT(k:Int)(a:Int):∀ l:List Th,ilook a (l.map fun u=>(u.id,k))=(fnd l a).map fun _=>k
 | []=>rfl
 | u :: l=>by
  have:=QaT k a l
  simp only[List.map_cons,ilook,fnd,List.findIdx?_cons]
  by_cases h:u.id=a
  ·have h2:(a == u.id)=true:=by simp[h]
   simp[h]
  ·have h2:(a == u.id)=false:=by simp; exact fun e=>h e.symm
   simp only[h2,Bool.false_eq_true,if_false,decide_eq_false h,this,fnd,Option.map_map]
   rfl
theorem Xb0(s:St)(a:Int):ilook a (s.s0.units.map (fun u=>(u.id,(0:Int))) ++ s.s1.units.map (fun u=>(u.id,(1:Int))))=if (unitR s a).2.2=true then some (unitR s a).1 else none:=by
 rw[Zao,QaT,QaT,unitR]
 cases fnd s.s0.units a with
 | some k=>rfl
 | none=>cases fnd s.s1.units a <;> rfl
attribute [local irreducible] Ans.rd Ans.pu Ans.wr Ans.dr Ans.gr Ans.gw Ans.gl Ans.gd Ans.opt joinK W
set_option maxHeartbeats 4000000
theorem bkLd(b:Bk):partA true 0 2 (bkC b)=some (bkV b):=rfl
theorem Ys{e:Int}{b:Bk}{s:St}{bare:Bool}(h:mayR e b s bare=true):e=0∧1≤s.turn∧s.turn≤4096∧0≤s.mover∧s.mover≤1∧0≤s.phase∧s.phase≤2∧0≤s.result∧s.result≤3∧((s.result == 0) == (s.phase != 2))=true∧1≤s.next∧s.next≤1000000∧s.attack.length≤7:=by
 simp only[mayR,Bool.and_eq_true,decide_eq_true_eq] at h
 obtain⟨h1,h2,h3,h4,h5,h6,h7,h8,h9,h10,h11,h12,h13,h14⟩:=h
 refine⟨h1,h2,h3,h4,h5,h6,h7,h8,h9,h10,h11,h12,?_⟩
 by_cases hp:s.phase≠1
 ·rw[if_pos hp] at h14; simp at h14; simp[h14]
 ·rw[if_neg hp] at h14; simp at h14; exact h14.2.2.1
theorem QbV(o:Option Int):lookV true (iv 0) (o.map iv)=.tup [iv (o.getD 0),.bool o.isSome]:=by cases o <;> rfl
theorem YbQ(o:Option Bool):lookV false (.bool false) (o.map AVal.bool)=.bool (o.getD false):=by cases o <;> rfl
theorem Zbj(t:Int):∀ l:List Int,(ilook t (l.map fun a=>(a,true))).getD false=l.contains t
 | []=>rfl
 | a :: l=>by
  simp only[List.map_cons,ilook,List.contains_cons]
  cases h:t == a with
  | true=>rfl
  | false=>simp only[Bool.false_eq_true,if_false,Bool.false_or]; exact Zbj t l
theorem c111(b:Bk)(hf:bkFit b=true)(hsm:Yt b.cards)(s:St)(hs:StLe 1000000000 s)(bare:Bool):PCall prog GL0 111 [.rptr (bkC b) 0,.rptr (stC s) 0,.bool bare] (.bool (mayR (bkR b).1 b s bare)):=by
 have h143:=c143 b hf hsm
 generalize (bkR b).1=e at h143 ⊢
 generalize (bkR b).2=ep at h143
 have hat:=hs.attack
 refine Zf hP g111_ok rfl rfl ?_
 unfold g111
 refine Za rfl (Za rfl (Za (ldr rfl) (Za (QG ..) ?_)))
 refine Qi fun k4 hk4=>?_
 have kbad:(mayR e b s bare=true→False)→k4 [.bool true] []:=by
  intro h; rw[hk4]; refine Xe ?_
  rw[Bool.eq_false_iff.2 (fun hm=>h hm)]
 apply cutF (R:=k4 [.bool false] []) (1≤s.turn∧s.turn≤4096∧0≤s.mover∧s.mover≤1∧0≤s.phase∧s.phase≤2∧0≤s.result∧s.result≤3∧((s.result == 0) == (s.phase != 2))=true∧1≤s.next∧s.next≤1000000∧s.attack.length≤7∧e=0)
 ·intro hR
  clear hk4
  refine Xc (fun h=>by rw[h]; exact kbad (fun hm=>by have:=Ys hm; simp at h; omega)) (fun b1=>Za rfl (Za rfl (Za (ldr rfl) (Za (X1 ..) ?_))))
  refine Xc (fun h=>by rw[h]; exact kbad (fun hm=>by have:=Ys hm; simp at h; omega)) (fun b2=>Za rfl (Za rfl (Za (ldr rfl) (Za (QG ..) ?_))))
  refine Xc (fun h=>by rw[h]; exact kbad (fun hm=>by have:=Ys hm; simp at h; omega)) (fun b3=>Za rfl (Za rfl (Za (ldr rfl) (Za (X1 ..) ?_))))
  refine Xc (fun h=>by rw[h]; exact kbad (fun hm=>by have:=Ys hm; simp at h; omega)) (fun b4=>Za rfl (Za rfl (Za (ldr rfl) (Za (QG ..) ?_))))
  refine Xc (fun h=>by rw[h]; exact kbad (fun hm=>by have:=Ys hm; simp at h; omega)) (fun b5=>Za rfl (Za rfl (Za (ldr rfl) (Za (X1 ..) ?_))))
  refine Xc (fun h=>by rw[h]; exact kbad (fun hm=>by have:=Ys hm; simp at h; omega)) (fun b6=>Za rfl (Za rfl (Za (ldr rfl) (Za (QG ..) ?_))))
  refine Xc (fun h=>by rw[h]; exact kbad (fun hm=>by have:=Ys hm; simp at h; omega)) (fun b7=>Za rfl (Za rfl (Za (ldr rfl) (Za (X1 ..) ?_))))
  refine Xc (fun h=>by rw[h]; exact kbad (fun hm=>by have:=Ys hm; simp at h; omega)) (fun b8=>Za rfl (Za rfl (Za (ldr rfl) (Za (Zg ..) (Za rfl (Za rfl (Za (ldr rfl) (Za (Xaa ..) (Za (Zcy ..) ?_)))))))))
  have hx:(!(decide (s.result=0) == decide (s.phase≠2))) = !((s.result == 0) == (s.phase != 2)):=by
   congr 1
   have e1:decide (s.result=0)=(s.result == 0):=by rw[Bool.eq_iff_iff]; simp
   have e2:decide (s.phase≠2)=(s.phase != 2):=by rw[Bool.eq_iff_iff]; simp
   rw[e1,e2]
  rw[hx]
  refine Xc (fun h=>by rw[h]; exact kbad (fun hm=>by have:=(Ys hm).2.2.2.2.2.2.2.2.2.1; rw[this] at h; cases h)) (fun b9=>Za rfl (Za rfl (Za (ldr rfl) (Za (QG ..) ?_))))
  refine Xc (fun h=>by rw[h]; exact kbad (fun hm=>by have:=Ys hm; simp at h; omega)) (fun b10=>Za rfl (Za rfl (Za (ldr rfl) (Za (X1 ..) ?_))))
  refine Xc (fun h=>by rw[h]; exact kbad (fun hm=>by have:=Ys hm; simp at h; omega)) (fun b11=>Za rfl (Za rfl (Za (ldr rfl) (Za (v:=iv s.attack.length) (rd:=[]) (by simp[Zi]) (Za (X1 ..) ?_)))))
  refine Xc (fun h=>by rw[h]; exact kbad (fun hm=>by have:=Ys hm; simp at h; omega)) (fun b12=>Za rfl (Za (ldr (bkLd b)) ?_))
  refine Zd h143 rfl g143_ok.plain rfl (Za rfl (Za (Xaa ..) ?_))
  by_cases he:e=0
  ·rw[show decide (e≠0)=false by simp[he]]
   simp at b1 b2 b3 b4 b5 b6 b7 b8 b10 b11 b12
   exact hR ⟨by omega,by omega,by omega,by omega,by omega,by omega,by omega,by omega,by simpa using b9,by omega,by omega,by omega,he⟩
  ·rw[show decide (e≠0)=true by simp[he]]
   exact kbad (fun hm=>he (Ys hm).1)
 rintro⟨p1,p2,p3,p4,p5,p6,p7,p8,p9,p10,p11,p12,p13⟩
 rw[hk4]; clear hk4 kbad k4
 have hmay:mayR e b s bare=(Xr b s && (if s.phase≠1 then decide (s.attack.length=0) else !(decide (s.attack.length=0) && !bare) && (s.struck && attOk s [] s.attack))):=by
  rw[mayR,decide_eq_true p13,decide_eq_true p1,decide_eq_true p2,decide_eq_true p3,decide_eq_true p4,decide_eq_true p5,decide_eq_true p6,decide_eq_true p7,decide_eq_true p8,p9,decide_eq_true p10,decide_eq_true p11,decide_eq_true p12]
  rfl
 rw[hmay]; clear hmay h143 p1 p2 p3 p4 p5 p6 p7 p8 p9 p10 p11 p13
 have w1:IntKind.i64.wrap (0 + 1)=1:=by decide
 have w2:IntKind.i64.wrap (1 + 1)=2:=by decide
 refine Yh (Ye rfl rfl (QA 3 (Qj (Za rfl (Xe ?_)))))
 refine Zu hP rfl g144_ok rfl (c144 b s 0 7 s.s0 (sdAt0 s) (fun _=>rfl) hs.s0 [] (by rfl) (fun h σ1=>?_) (fun h σ1 t1 m1=>?_))
 ·refine Za rfl (Xe ?_)
  have h:(Qm b.cards.length s.s0 && Qr b s.next [] s.s0.units)=false:=h
  have:Xr b s=false:=by
   rw[Xr,← Bool.and_assoc,h]; rfl
  rw[this]; rfl
 refine Za rfl (Yh (Za rfl ?_))
 rw[w1]
 refine Qj (Za rfl (Xe ?_))
 refine Zu hP rfl g144_ok rfl (c144 b s 1 15 s.s1 (sdAt1 s) (fun _=>rfl) hs.s1 _ m1 (fun h2 σ2=>?_) (fun h2 σ2 t2 m2=>?_))
 ·refine Za rfl (Xe ?_)
  have e0:(([] ++ s.s0.units.map fun u=>(u.id,(0:Int))):List (Int × Int)).map (·.1)=s.s0.units.map Th.id:=by simp[Function.comp_def]
  rw[e0] at h2
  have:Xr b s=false:=by
   rw[Xr,h2]; simp
  rw[this]; rfl
 have hso:Xr b s=true:=by
  have e0:(([] ++ s.s0.units.map fun u=>(u.id,(0:Int))):List (Int × Int)).map (·.1)=s.s0.units.map Th.id:=by simp[Function.comp_def]
  rw[e0] at h2
  have h:(Qm b.cards.length s.s0 && Qr b s.next [] s.s0.units)=true:=h
  rw[Xr,← Bool.and_assoc,h,h2]; rfl
 rw[hso,Bool.true_and]
 clear hso h h2 m1 t1 t2
 refine Za rfl (Yh (Za rfl ?_))
 rw[w2]
 refine Qj (Za rfl (Yh (Za rfl (Za rfl (Za (ldr rfl) (Za (Xaa ..) ?_))))))
 refine Xc (fun hp=>?_) (fun hp=>?_)
 ·have hp:s.phase≠1:=by simpa using hp
  rw[if_pos hp]
  refine Za rfl (Za rfl (Za (ldr rfl) (Za (v:=iv s.attack.length) (rd:=[]) (by simp[Zi]) (Za (Zg ..) ?_))))
  congr 1
  rw[Bool.eq_iff_iff]; simp
 have hp:¬ s.phase≠1:=by simpa using hp
 rw[if_neg hp]
 refine Ye rfl (XL _ _) (Za rfl (Za rfl (Za (ldr rfl) (Za (v:=iv s.attack.length) (rd:=[]) (by simp[Zi]) ?_))))
 have hnew:hget (σ2 ++ [ABlk.map []]) σ2.length=.map (mpG AVal.bool (([]:List Int).map fun a=>(a,true))):=Xn _ _
 have hold:=Zl [ABlk.map []] m2 (by simp)
 have hne:σ2.length≠0:=by have:=Zt m2 (by simp); omega
 generalize σ2 ++ [ABlk.map []]=τ at hnew hold ⊢
 generalize σ2.length=mb at hnew hne ⊢
 refine Xm (ι:=Nat) (fun i vs τ=>vs=[iv i]∧i≤s.attack.length∧hget τ 0=.map (mpG iv (([] ++ s.s0.units.map fun u=>(u.id,(0:Int))) ++ s.s1.units.map fun u=>(u.id,(1:Int))))∧hget τ mb=.map (mpG AVal.bool ((s.attack.take i).map fun a=>(a,true)))∧attOk s [] s.attack=attOk s (s.attack.take i) (s.attack.drop i)) (fun i=>s.attack.length - i) 0
  ⟨rfl,by omega,hold,by simpa using hnew,by simp⟩ ?_
 clear hnew hold m2
 rintro i vs τ1 again ⟨rfl,hi,hm0,hmb,hr⟩ hag
 refine Za rfl (Xc (fun h=>?_) (fun h=>?_))
 rotate_left
 ·have h:i=s.attack.length:=by simp at h; omega
  subst h
  rw[List.drop_length,attOk] at hr
  rw[hr,Bool.and_true]
  refine Za rfl (Za rfl (Za (ldr rfl) ?_))
  cases hst:s.struck with
  | false=>
   refine Yb rfl (Yb rfl (Yd rfl (Yd rfl (Yd rfl (Yd rfl (Yd rfl (Yd rfl (Yb rfl (Za rfl ?_)))))))))
   simp
  | true=>
   refine Xa (Za rfl (Xa (Za rfl ?_)))
   cases bare with
   | true=>
    refine Yb rfl (Yb rfl (Yb rfl (Yb rfl (Yb rfl (Yb rfl (Xa (Za rfl (Za rfl ?_))))))))
    simp
   | false=>
    refine Xa (Za rfl (Xa (Za rfl (Xa (Za rfl (Xa (Za (ldr rfl) (Xa (Za (v:=iv s.attack.length) (rd:=[]) (by simp[Zi]) (Xa (Za (X1 ..) (Xa (Za rfl (Za rfl ?_))))))))))))))
    show AVal.bool _=_
    congr 1
    rw[Bool.eq_iff_iff]
    simp[List.length_pos_iff]
 have h:i < s.attack.length:=by simpa using h
 have htk:=Zw _ _ h
 rw[List.drop_eq_getElem_cons h,attOk] at hr
 refine Za (Qo _ cel _ _ _ s.attack _ i h) (Za (ldr rfl) (Za (Ybe iv _ _ hm0 _) ?_))
 rw[QbV,List.nil_append,Xb0]
 generalize s.attack[i]=a at htk hr ⊢
 generalize ho:(if (unitR s a).2.2=true then some (unitR s a).1 else none)=o
 have ho1:o.isSome=(unitR s a).2.2:=by rw[← ho]; cases (unitR s a).2.2 <;> rfl
 have ho2:(unitR s a).2.2=true→o.getD 0=(unitR s a).1:=by intro q; rw[← ho,if_pos q]; rfl
 refine Za rfl (Za rfl (Za rfl ?_))
 refine Ycm (fun _=>rfl) (fun _=>rfl) (fun _=>rfl) (fun _=>rfl) (fun _=>ldr rfl) (fun _=>Xaa ..) ?_
 refine ZaF (d:=(ilook a ((s.attack.take i).map fun a=>(a,true))).getD false) (fun _=>rfl) (fun _=>rfl) (fun _=>by rw[Ybe AVal.bool _ _ hmb,YbQ]) ?_
 have hmet:=Zbj a (s.attack.take i)
 refine Xc (fun h2=>?_) (fun h2=>?_)
 ·have:attOk s [] s.attack=false:=by
   rw[hr,Bool.eq_false_iff]; intro q
   simp only[Bool.and_eq_true,decide_eq_true_eq,Bool.not_eq_true'] at q
   obtain⟨⟨q1,q2⟩,q3,q4⟩:=q
   rw[ho1,ho2 q1,q1,q2,hmet,q3] at h2
   simp at h2
  rw[this]; simp
 ·simp only[Bool.or_eq_false_iff,Bool.not_eq_false',decide_eq_false_iff_not,Decidable.not_not] at h2
  obtain⟨⟨q1,q2⟩,q3⟩:=h2
  rw[ho1] at q1
  rw[ho2 q1] at q2
  have hnone:ilook a ((s.attack.take i).map fun a=>(a,true))=none:=by
   have:=Xak a ((s.attack.take i).map fun a=>(a,true))
   simp only[List.map_map,Function.comp_def,List.map_id'] at this
   rw[← hmet,q3] at this
   cases h5:ilook a ((s.attack.take i).map fun a=>(a,true)) with
   | none=>rfl
   | some v=>rw[h5] at this; cases this
  rw[hmet] at q3
  rw[q1,q2,q3] at hr
  have hml:=Zt hmb (by simp)
  refine Ye (Xcm AVal.bool hmb a true hnone) (Yo _ hml) (Za (Yn ..) ?_)
  rw[Zh (n:=i) (by omega)]
  refine hag (i + 1) _ _ (by omega) ⟨rfl,by omega,Xh hm0 (by simp) (fun e=>hne e),?_,?_⟩
  ·rw[htk,List.map_append]; exact Qk _ hml
  ·rw[htk,hr]; simp
end Go.Ah.Tz
end
section
namespace Go.Ah.Tz
open Go.Proofs.Tryz (prog)
def RI(σ:List ABlk)(rd:List Nat)(v:AVal)(l:List Int):Prop:=Bor (hp σ) rd v (rowV l)
def RT(σ:List ABlk)(rd:List Nat)(v:AVal)(l:List Th):Prop:=Bor (hp σ) rd v (thV l)
theorem Qcl:∀ {l:List Int},∀ r∈l.map cel,roL r=true:=by
 intro l r hr
 obtain⟨x,_,rfl⟩:=List.mem_map.1 hr; rfl
theorem th_ro:∀ {l:List Th},∀ r∈l.map thC,roL r=true:=by
 intro l r hr
 obtain⟨x,_,rfl⟩:=List.mem_map.1 hr; rfl
theorem RI.own{σ:List ABlk}{rd:List Nat}{b:Nat}{ex:Bool}{l:List Int}{n:Nat}(hb:hget σ b=.rows 1 (l.map cel))(hin:b∈rd)(hn:n=l.length):RI σ rd (.sl b 0 n ex) l:=
 Bor.own hb hin (by simp[hn]) (Qba _ _ (by simp[hn])) Qcl
theorem RI.tail{σ:List ABlk}{rd:List Nat}{b:Nat}{ex:Bool}{x:Int}{l:List Int}{n:Nat}(hb:hget σ b=.rows 1 ((x :: l).map cel))(hin:b∈rd)(hn:n=l.length):RI σ rd (.sl b 1 n ex) l:=
 Bor.own hb hin (by simp[hn]; omega) (Xca _ _ _ (by simp[hn])) Qcl
theorem RI.ro{σ:List ABlk}{rd:List Nat}(l:List Int):RI σ rd (rowV l) l:=Bor.ro rfl
theorem RI.nils{σ:List ABlk}{rd:List Nat}:RI σ rd .nils []:=Bor.weak (Bor.ro rfl) (fun M u d=>d.nils_rsl 1)
theorem RT.nils{σ:List ABlk}{rd:List Nat}:RT σ rd .nils []:=Bor.weak (Bor.ro rfl) (fun M u d=>d.nils_rsl 4)
theorem RT.ro{σ:List ABlk}{rd:List Nat}(l:List Th):RT σ rd (thV l) l:=Bor.ro rfl
theorem RT.own{σ:List ABlk}{rd:List Nat}{b:Nat}{ex:Bool}{l:List Th}{n:Nat}(hb:hget σ b=.rows 4 (l.map thC))(hin:b∈rd)(hn:n=l.length):RT σ rd (.sl b 0 n ex) l:=
 Bor.own hb hin (by simp[hn]) (Qba _ _ (by simp[hn])) th_ro
@[reducible] def stQ(s:St)(a d0 h0 g0 u0 t0 d1 h1 g1 u1 t1:AVal):List AVal:=[iv s.turn,iv s.mover,iv8 s.phase,.bool s.struck,iv8 s.result,a,iv s.next,
 iv s.s0.life,iv s.s0.mana,iv s.s0.most,d0,h0,g0,u0,t0,iv s.s1.life,iv s.s1.mana,iv s.s1.most,d1,h1,g1,u1,t1]
def SB(σ:List ABlk)(rd:List Nat)(cs:List AVal)(s:St):Prop:=BorL (hp σ) rd cs (stC s)
theorem SB.mk{σ:List ABlk}{rd:List Nat}{s:St}{a d0 h0 g0 u0 t0 d1 h1 g1 u1 t1:AVal}(x1:RI σ rd a s.attack)(x2:RI σ rd d0 s.s0.deck)(x3:RI σ rd h0 s.s0.hand)(x4:RI σ rd g0 s.s0.grave)(x5:RT σ rd u0 s.s0.units)(x6:RI σ rd t0 s.s0.told)
 (y2:RI σ rd d1 s.s1.deck)(y3:RI σ rd h1 s.s1.hand)(y4:RI σ rd g1 s.s1.grave)(y5:RT σ rd u1 s.s1.units)(y6:RI σ rd t1 s.s1.told):SB σ rd (stQ s a d0 h0 g0 u0 t0 d1 h1 g1 u1 t1) s:=
 .cons (Bor.ro rfl) <| .cons (Bor.ro rfl) <| .cons (Bor.ro rfl) <| .cons (Bor.ro rfl) <| .cons (Bor.ro rfl) <| .cons x1 <| .cons (Bor.ro rfl) <| .cons (Bor.ro rfl) <| .cons (Bor.ro rfl) <| .cons (Bor.ro rfl) <| .cons x2 <| .cons x3 <| .cons x4 <| .cons x5 <| .cons x6 <|
 .cons (Bor.ro rfl) <| .cons (Bor.ro rfl) <| .cons (Bor.ro rfl) <| .cons y2 <| .cons y3 <| .cons y4 <| .cons y5 <| .cons y6 .nil
theorem SB.ro{σ:List ABlk}{rd:List Nat}(s:St):SB σ rd (stC s) s:=BorL.ro rfl
theorem SB.agg{σ:List ABlk}{rd:List Nat}{cs:List AVal}{s:St}(h:SB σ rd cs s):Bor (hp σ) rd (.agg cs) (stV s):=Bor.agg h
def zSd:Sd:=⟨0,0,0,[],[],[],[],[]⟩
def zSt:St:=⟨0,0,0,false,0,[],0,zSd,zSd⟩
theorem SB.zero{σ:List ABlk}{rd:List Nat}:SB σ rd (stQ zSt .nils .nils .nils .nils .nils .nils .nils .nils .nils .nils .nils) zSt:=SB.mk .nils .nils .nils .nils .nils .nils .nils .nils .nils .nils .nils
structure Ev where
 kind:Int
 side:Int
 card:Int
 id:Int
 other:Int
 n:Int
 cards:List Int
 deriving DecidableEq,Inhabited
@[reducible] def evC(e:Ev):List AVal:=[iv8 e.kind,iv e.side,iv e.card,iv e.id,iv e.other,iv e.n,rowV e.cards]
@[reducible] def evV(e:Ev):AVal:=.agg (evC e)
def zEv:Ev:=⟨0,0,0,0,0,0,[]⟩
theorem evB{σ:List ABlk}{rd:List Nat}{e:Ev}{v:AVal}(h:RI σ rd v e.cards):Bor (hp σ) rd (.agg [iv8 e.kind,iv e.side,iv e.card,iv e.id,iv e.other,iv e.n,v]) (evV e):=
 Bor.agg (.cons (Bor.ro rfl) <| .cons (Bor.ro rfl) <| .cons (Bor.ro rfl) <| .cons (Bor.ro rfl) <| .cons (Bor.ro rfl) <| .cons (Bor.ro rfl) <| .cons h .nil)
attribute [local irreducible] Ans.rd Ans.pu Ans.wr Ans.dr Ans.gr Ans.gw Ans.gl Ans.gd Ans.opt joinK W
set_option maxHeartbeats 1000000
theorem c56(b:Bk)(hf:bkFit b=true)(hsm:Yt b.cards)(s:St)(hs:StLe 1000000000 s){σ:List ABlk}{bb sb:Nat}(h1:hget σ bb=.box (bkC b))(h2:hget σ sb=.box (stC s)){K:AVal→List ABlk→Prop}
 (hF:mayR (bkR b).1 b s true=false→K .nilp σ)(hT:mayR (bkR b).1 b s true=true→K (.bptr (σ ++ stB s).length 0) (σ ++ stB s ++ [.box (.bptr bb 0 :: stO s σ.length)])):g56 (W prog GL0) [.bptr bb 0,.bptr sb 0] σ K:=by
 unfold g56
 have hb1:hp σ bb=some (.box (bkC b)):=QZ h1 (by simp)
 have hb2:hp σ sb=some (.box (stC s)):=QZ h2 (by simp)
 refine XC (rd:=[bb,sb]) (c111 b hf hsm s hs true) rfl g111_ok.plain (.cons (Bor.box hb1 (by simp) (BorL.ro rfl)) <| .cons (Bor.box hb2 (by simp) (BorL.ro rfl)) <| .cons (Bor.ro rfl) .nil) rfl ?_
 refine Za rfl (Xc (fun h=>?_) (fun h=>?_))
 ·exact hF (by simpa using h)
 refine Za rfl (Za (ld h2 rfl) ?_)
 refine Yaw (c59 s hs) rfl g59_ok.plain rfl ?_
 have e1:(AVal.agg (stO s 0)).ren (Qz σ.length)=.agg (stO s σ.length):=by
  simp[AVal.ren,renL,Qz,Nat.add_comm]; omega
 have e2:Xu σ.length (stB s)=stB s:=by
  simp only[Xu,stB,sdB,List.map_cons,List.map_append,List.map_nil,Zr,Qak]
 rw[e1,e2]
 refine Za rfl (Ye rfl (XL _ _) ?_)
 exact hT (by simpa using h)
def tailV(b:Nat):List Int→AVal
 | []=>.rsl false false 1 []
 | y :: l=>.sl b 1 (y :: l).length false
theorem Qco{τ:List ABlk}{bf:Nat}{x:Int}{l:List Int}(hbf:hget τ bf=.rows 1 ((x :: l).map cel)):∃ rd,Q9 1 [.sl bf 0 (l.length + 1) false,iv 1] τ=.ok (tailV bf l) rd []:=by
 cases l with
 | nil=>
  refine⟨[],?_⟩
  show (match hget τ bf with
   | .rows s _=>bif Nat.beq s 1 then (bif Nat.blt 1 1 then SRes.ok (.sl bf (0 + 1) (1 - 1) false) [bf] [] else bif Nat.beq 1 1 then .ok (.rsl false false 1 []) [] [] else .stop) else .stop
   | _=>.stop)=_
  rw[hbf]; rfl
 | cons y l=>
  refine⟨[bf],?_⟩
  show (match hget τ bf with
   | .rows s _=>bif Nat.beq s 1 then (bif Nat.blt 1 ((y :: l).length + 1) then SRes.ok (.sl bf (0 + 1) ((y :: l).length + 1 - 1) false) [bf] [] else bif Nat.beq 1 ((y :: l).length + 1) then .ok (.rsl false false 1 []) [] [] else .stop) else .stop
   | _=>.stop)=_
  rw[hbf]
  have:Nat.blt 1 ((y :: l).length + 1)=true:=Nat.ble_eq_true_of_le (by simp)
  simp only[this]
  rfl
theorem RI.tailV{σ:List ABlk}{rd:List Nat}{b:Nat}{x:Int}{l:List Int}(hb:hget σ b=.rows 1 ((x :: l).map cel))(hin:b∈rd):RI σ rd (Tz.tailV b l) l:=by
 cases l with
 | nil=>exact RI.ro []
 | cons y l=>exact RI.tail hb hin rfl
theorem c58{τ:List ABlk}{mb jf jt bf bt n k:Nat}{row row1 row2:List AVal}{x:Int}{l t:List Int}{vf:AVal}(hm:hget τ mb=.box row)(hf:partA false jf 1 row=some (.sl bf 0 n false))(hn:n=l.length + 1)(ht:partA false jt 1 row1=some (.sl bt 0 k false))(hk:k=t.length)(hkl:t.length≤1000000000)
 (hbf:hget τ bf=.rows 1 ((x :: l).map cel))(hbt:hget τ bt=.rows 1 (t.map cel))(hne:mb≠bf)(hne2:mb≠bt)(hvf:vf=tailV bf l)
 (h1:splice jf [vf] row=some row1)(h2:splice jt [.sl (τ.length + 1) 0 (k + 1) false] row1=some row2){K:AVal→List ABlk→Prop}
 (hK:K (iv x) (((((τ.set mb (.box row1)).set bt .dead) ++ [ABlk.rows 1 [cel x]]) ++ [ABlk.rows 1 ((t ++ [x]).map cel)]).set mb (.box row2))):g58 (W prog GL0) [.bptr mb jf,.bptr mb jt] τ K:=by
 subst hn; subst hk
 have hml:=Zt hm (by simp)
 have hbl:=Zt hbt (by simp)
 unfold g58
 refine Za rfl (Za (ld hm hf) ?_)
 have hx:Xd 1 [.sl bf 0 (l.length + 1) false,iv ((0:Nat):Int)] τ=.ok (.ptr bf (0 + 0) 0) [bf] []:=Xa3 τ bf 0 _ false 1 _ .i64 0 (by omega) hbf
 refine Za hx ?_
 refine Za (v:=iv x) (rd:=[bf]) ?_ ?_
 ·show (match hget τ bf with
   | .rows _ rs=>match nth rs 0 with
    | some row=>match partA false 0 1 row with
     | some v=>SRes.ok v [bf] []
     | none=>.stop
    | none=>.stop
   | _=>.stop)=_
  rw[hbf]; rfl
 refine Za rfl (Za (ld hm hf) ?_)
 have hvc:cellsOf vf=some [vf]:=by subst hvf; cases l <;> rfl
 obtain⟨rd,hsl⟩:=Qco hbf
 rw[← hvf] at hsl
 refine Za hsl ?_
 refine Za rfl (Ye (stv hm hvc rfl h1) (Yo _ hml) (Za rfl (Za (ld (Qk _ hml) ht) ?_)))
 have hbt':hget (τ.set mb (.box row1)) bt=.rows 1 (t.map cel):=Xh hbt (by simp) hne2
 rw[XW _ _ _ _ _ (cel x) rfl rfl,YaQ _ 1 8 (τ.set mb (.box row1)) bt t.length false _ (cel x) hbt' (by simp) rfl (by omega)]
 refine Za rfl ?_
 have hz:t.map cel ++ [cel x]=(t ++ [x]).map cel:=by simp
 have hlen:(τ.set mb (ABlk.box row1)).length=τ.length:=by simp
 have hm3:hget ((((τ.set mb (.box row1)).set bt .dead) ++ [ABlk.rows 1 [cel x]]) ++ [ABlk.rows 1 ((t ++ [x]).map cel)]) mb=.box row1:=by
  rw[YM _ (by simp; omega),YM _ (by simp; omega),Ym _ (by simp; omega) hne2,Qk _ hml]
 rw[hz,hlen]
 refine Ye (stv hm3 rfl rfl h2) (Yo _ (by simp; omega)) ?_
 exact hK
end Go.Ah.Tz
end
section
namespace Go.Ah.Tz
open Go.Proofs.Tryz (prog)
theorem QbD(s:St)(n:Nat):(AVal.agg (stO s 0)).ren (Qz n)=.agg (stO s n):=by
 simp[AVal.ren,renL,Qz,Nat.add_comm]; omega
theorem Qb0(s:St)(n:Nat):Xu n (stB s)=stB s:=by
 simp only[Xu,stB,sdB,List.map_cons,List.map_append,List.map_nil,Zr,Qak]
theorem Xbr:∀ l:List Int,ZS (l.map cel)=true
 | []=>rfl
 | x :: l=>by simp only[List.map_cons,ZS,Xbr l,Bool.and_true]; rfl
theorem XbM:∀ l:List Th,ZS (l.map thC)=true
 | []=>rfl
 | x :: l=>by simp only[List.map_cons,ZS,XbM l,Bool.and_true]; rfl
theorem Xb7(s:St):Xap (stB s)=true:=by
 simp only[stB,sdB,List.cons_append,List.nil_append,Xap,ABlk.nosh,Xbr,XbM,Bool.and_self]
theorem d59{s:St}(hs:StLe 1000000000 s){σ:List ABlk}{rd:List Nat}{cs:List AVal}(h:SB σ rd cs s){K:AVal→List Nat × List Nat→List ABlk→Prop}(hK:K (.agg (stO s σ.length)) (rd,QH σ.length (stB s)) (σ ++ stB s)):(W prog GL0).dcall (.call 59) [.agg cs] σ K:=by
 refine Xby (c59 s hs) rfl g59_ok.plain (.cons (SB.agg h) .nil) rfl (Xb7 s) ?_
 rw[QbD,Qb0]; exact hK
theorem SdLe.mono{n m:Nat}{s:Sd}(h:SdLe n s)(k:n≤m):SdLe m s:=⟨Nat.le_trans h.1 k,Nat.le_trans h.2 k,Nat.le_trans h.3 k,Nat.le_trans h.4 k,Nat.le_trans h.5 k⟩
theorem StLe.mono{n m:Nat}{s:St}(h:StLe n s)(k:n≤m):StLe m s:=⟨Nat.le_trans h.1 k,h.2.mono k,h.3.mono k⟩
theorem X6{e:Int}{b:Bk}{s:St}{bare:Bool}(h:mayR e b s bare=true):Xr b s=true:=by
 simp only[mayR,Bool.and_eq_true] at h
 exact h.2.2.2.2.2.2.2.2.2.2.2.2.1
theorem YbR{e:Int}{b:Bk}{s:St}{bare:Bool}(h:mayR e b s bare=true):wIn s.s0.life=true:=by
 have:=X6 h
 simp only[Xr,Qm,Bool.and_eq_true] at this
 exact this.1.1
theorem Yb1{e:Int}{b:Bk}{s:St}{bare:Bool}(h:mayR e b s bare=true):wIn s.s1.life=true:=by
 have:=X6 h
 simp only[Xr,Qm,Bool.and_eq_true] at this
 exact this.2.2.1.1
theorem Zck{n:Int}:wIn n=true↔-1000000≤n∧n≤1000000:=by simp[wIn]
theorem SB.copy{σ:List ABlk}{rd:List Nat}{s:St}{n:Nat}(key:∀ i x,(stB s)[i]?=some x→hget σ (n + i)=x)(hin:∀ i,i < 11→n + i∈rd):SB σ rd (stO s n) s:=
 SB.mk (RI.own (key 0 _ rfl) (hin 0 (by decide)) rfl) (RI.own (key 1 _ rfl) (hin 1 (by decide)) rfl) (RI.own (key 2 _ rfl) (hin 2 (by decide)) rfl) (RI.own (key 3 _ rfl) (hin 3 (by decide)) rfl) (RT.own (key 4 _ rfl) (hin 4 (by decide)) rfl) (RI.own (key 5 _ rfl) (hin 5 (by decide)) rfl)
  (RI.own (key 6 _ rfl) (hin 6 (by decide)) rfl) (RI.own (key 7 _ rfl) (hin 7 (by decide)) rfl) (RI.own (key 8 _ rfl) (hin 8 (by decide)) rfl) (RT.own (key 9 _ rfl) (hin 9 (by decide)) rfl) (RI.own (key 10 _ rfl) (hin 10 (by decide)) rfl)
theorem Qaf{agg:Bool}{σ:List ABlk}{b j n:Nat}{row:List AVal}{v:AVal}(hb:hget σ b=.box row)(hv:partA agg j n row=some v):cellV agg n (.bptr b j) σ=some v:=by
 simp only[cellV,hb,hv]
theorem c56n(b:Bk)(hf:bkFit b=true)(hsm:Yt b.cards)(s:St)(hs:StLe 1000000000 s){σ:List ABlk}{bb sb n0 n:Nat}(hn0:σ.length=n0)(hn:n0 + 11=n)(h1:hget σ bb=.box (bkC b))(h2:hget σ sb=.box (stC s)){K:AVal→List ABlk→Prop}
 (hF:mayR (bkR b).1 b s true=false→K .nilp σ)(hT:mayR (bkR b).1 b s true=true→K (.bptr n 0) (σ ++ stB s ++ [.box (.bptr bb 0 :: stO s n0)])):(W prog GL0).call (.call 56) [.bptr bb 0,.bptr sb 0] σ K:=by
 subst hn0; subst hn
 refine Zu hP rfl g56_ok rfl (c56 b hf hsm s hs h1 h2 hF (fun h=>?_))
 have:(σ ++ stB s).length=σ.length + 11:=by simp[stB,sdB]
 rw[this]; exact hT h
def St.side(s:St)(k:Int):Sd:=if k=0 then s.s0 else s.s1
def St.put(s:St)(k:Int)(d:Sd):St:=if k=0 then { s with s0:=d } else { s with s1:=d }
@[reducible] def resX(s:St)(e:Ev)(x:AVal):AVal:=.tup [stV s,evV e,x]
@[reducible] def resV(r:St × Ev × Int):AVal:=resX r.1 r.2.1 (iv r.2.2)
theorem resXB{σ:List ABlk}{rd:List Nat}{cs ec:List AVal}{s:St}{e:Ev}{x:AVal}(h1:SB σ rd cs s)(h2:Bor (hp σ) rd (.agg ec) (evV e))(hx:x.ro=true):Bor (hp σ) rd (.tup [.agg cs,.agg ec,x]) (resX s e x):=
 Bor.tup (.cons (SB.agg h1) <| .cons h2 <| .cons (Bor.ro hx) .nil)
theorem resB{σ:List ABlk}{rd:List Nat}{cs ec:List AVal}{r:St × Ev × Int}(h1:SB σ rd cs r.1)(h2:Bor (hp σ) rd (.agg ec) (evV r.2.1)):Bor (hp σ) rd (.tup [.agg cs,.agg ec,iv r.2.2]) (resV r):=resXB h1 h2 rfl
@[reducible] def zStC:List AVal:=stQ zSt .nils .nils .nils .nils .nils .nils .nils .nils .nils .nils .nils
@[reducible] def zEvC:List AVal:=[iv8 0,iv 0,iv 0,iv 0,iv 0,iv 0,.nils]
theorem resZ{σ:List ABlk}{rd:List Nat}(e:Int):Bor (hp σ) rd (.tup [.agg zStC,.agg zEvC,iv e]) (resV (zSt,zEv,e)):=
 resB (r:=(zSt,zEv,e)) SB.zero (evB (e:=zEv) RI.nils)
theorem resZX{σ:List ABlk}{rd:List Nat}{x:AVal}(hx:x.ro=true):Bor (hp σ) rd (.tup [.agg zStC,.agg zEvC,x]) (resX zSt zEv x):=
 resXB SB.zero (evB (e:=zEv) RI.nils) hx
end Go.Ah.Tz
end
section
namespace Go.Ah.Tz
open Go.Proofs.Tryz (prog)
theorem Zaj{b:Nat}{l:List Int}{m:Nat→Option Nat}(h:m b=some b):(tailV b l).ren m=tailV b l:=by
 cases l with
 | nil=>rfl
 | cons y l=>simp only[tailV,AVal.ren,h]
abbrev mv4(s:St):List AVal:=[.bptr 0 0,iv s.turn,iv s.mover,iv8 s.phase,.bool s.struck,iv8 s.result,.sl 4 0 s.attack.length false,iv s.next,iv s.s0.life,iv s.s0.mana,iv s.s0.most,.sl 5 0 s.s0.deck.length false,.sl 6 0 s.s0.hand.length false,.sl 7 0 s.s0.grave.length false,.sl 8 0 s.s0.units.length false,.sl 9 0 s.s0.told.length false,iv s.s1.life,iv s.s1.mana,iv s.s1.most,.sl 10 0 s.s1.deck.length false,.sl 11 0 s.s1.hand.length false,.sl 12 0 s.s1.grave.length false,.sl 13 0 s.s1.units.length false,.sl 14 0 s.s1.told.length false]
abbrev st4(s:St):List AVal:=[iv s.turn,iv s.mover,iv8 s.phase,.bool s.struck,iv8 s.result,.sl 4 0 s.attack.length false,iv s.next,iv s.s0.life,iv s.s0.mana,iv s.s0.most,.sl 5 0 s.s0.deck.length false,.sl 6 0 s.s0.hand.length false,.sl 7 0 s.s0.grave.length false,.sl 8 0 s.s0.units.length false,.sl 9 0 s.s0.told.length false,iv s.s1.life,iv s.s1.mana,iv s.s1.most,.sl 10 0 s.s1.deck.length false,.sl 11 0 s.s1.hand.length false,.sl 12 0 s.s1.grave.length false,.sl 13 0 s.s1.units.length false,.sl 14 0 s.s1.told.length false]
abbrev sg4(b:Bk)(s:St):List ABlk:=[.box (bkC b),.box (stC s),.box zStC,.box zEvC,.rows 1 (s.attack.map cel),.rows 1 (s.s0.deck.map cel),.rows 1 (s.s0.hand.map cel),.rows 1 (s.s0.grave.map cel),.rows 4 (s.s0.units.map thC),.rows 1 (s.s0.told.map cel),.rows 1 (s.s1.deck.map cel),.rows 1 (s.s1.hand.map cel),.rows 1 (s.s1.grave.map cel),.rows 4 (s.s1.units.map thC),.rows 1 (s.s1.told.map cel)]
abbrev dd17:List ABlk:=[.dead,.dead,.dead,.dead,.dead,.dead,.dead,.dead,.dead,.dead,.dead,.dead,.dead,.dead,.dead,.dead,.dead]
def drawF(s:St)(k:Int):St × Ev × Int:=
 match (s.side k).deck with
 | []=>if wIn ((s.side k).life - 1) then (s.put k { s.side k with life:=(s.side k).life - 1 },⟨3,k,-1,0,0,0,[]⟩,0) else (zSt,zEv,171)
 | c :: l=>if 10≤(s.side k).hand.length then
   ({ s with s0:={ s.s0 with told:=s.s0.told ++ [c] },s1:={ s.s1 with told:=s.s1.told ++ [c] } } |> fun s'=>s'.put k { s'.side k with deck:=l,grave:=(s.side k).grave ++ [c] },⟨4,k,c,0,0,0,[]⟩,0)
  else (s.put k { s.side k with deck:=l,hand:=(s.side k).hand ++ [c],told:=(s.side k).told ++ [c] },⟨3,k,c,0,0,0,[]⟩,0)
attribute [local irreducible] Ans.rd Ans.pu Ans.wr Ans.dr Ans.gr Ans.gw Ans.gl Ans.gd Ans.opt joinK W
set_option maxHeartbeats 4000000
theorem c18_0(b:Bk)(hf:bkFit b=true)(hsm:Yt b.cards)(s:St)(hs:StLe 2000000 s)(hm:mayR (bkR b).1 b s true=true):PCall prog GL0 18 [bkV b,stV s,iv 0] (resV (drawF s 0)):=by
 have hlf:=Zck.1 (YbR hm)
 have hs9:StLe 1000000000 s:=hs.mono (by decide)
 refine Xw hP g18_ok rfl ?_
 unfold g18
 refine Ye (v:=.bptr 0 0) (rd:=[]) (up:=[(0,.box (bkC b))]) rfl rfl ?_
 refine Ye (v:=.bptr 1 0) (rd:=[]) (up:=[(1,.box (stC s))]) rfl rfl ?_
 refine Ye (v:=.bptr 2 0) (rd:=[]) (up:=[(2,.box zStC)]) rfl rfl ?_
 refine Ye (v:=.bptr 3 0) (rd:=[]) (up:=[(3,.box zEvC)]) rfl rfl ?_
 refine c56n b hf hsm s (hs.mono (by decide)) (n0:=4) (n:=15) rfl rfl rfl rfl (fun h=>by rw[hm] at h; cases h) (fun _=>?_)
 refine Za rfl (Yh ?_)
 refine Za rfl (Xa (Za rfl (Xa (Za rfl (Za rfl (Yh ?_))))))
 refine Za rfl (Za rfl (Za rfl (Za rfl (Za rfl ?_))))
 refine Ye (v:=.bptr 16 0) (rd:=[]) (up:=[(16,.box zEvC)]) rfl rfl ?_
 refine Ye (v:=.junk) (rd:=[]) (up:=[(16,.box [iv8 3,iv 0,iv 0,iv 0,iv 0,iv 0,.nils])]) rfl rfl ?_
 refine Qi fun k24 hk24=>?_
 have kk:∀ (σ:List ABlk) (cs:List AVal) (s':St) (e:Ev) (rd:List Nat) (n:Nat),σ.length=n→17≤n→hget σ 15=.box (.bptr 0 0 :: cs)→hget σ 16=.box [iv8 e.kind,iv e.side,iv e.card,iv e.id,iv e.other,iv e.n,.nils]→hget σ 2=.box zStC→hget σ 3=.box zEvC →
   partA true 1 23 (.bptr 0 0 :: cs)=some (.agg cs)→e.cards=[]→SB σ rd cs s'→StLe 1000000000 s'→drawF s 0=(s',e,0) →
   Xk [[],[0],[0,1],[0,1,2],[0,1,2,3],[],[0,1,2,3,4],[0,1,2,3,4,5,6],[0,1,2,3,4,5,6,7]] [([],[]),([],[]),([],[]),([15],[]),(rd,QH n (stB s')),([16],[]),([],[2]),([],[3]),([],[])]=true→k24 [] σ:=by
  intro σ cs s' e rd n hl hn h15 h16 h2 h3 hld hec hsb hle hr hap
  subst hl
  rw[hk24]
  refine Xf rfl (Xf rfl (Qh (ld h15 hld) (Xi _) (d59 hle hsb ?_)))
  have q15:=Zl (stB s') h16 (by simp)
  have q2:=Zl (stB s') h2 (by simp)
  have q3:=Zl (stB s') h3 (by simp)
  have hln:(σ ++ stB s').length=σ.length + 11:=by simp[stB,sdB]
  refine Qh (ld q15 rfl) (Xi _) ?_
  refine Qh (stv q2 rfl rfl rfl) (Yo _ (by omega)) ?_
  refine Qh (stv (Xh q3 (by simp) (by decide)) rfl rfl rfl) (Yo _ (by simp <;> omega)) ?_
  refine Yy hap ?_
  refine Yj (Qaf (Xh (Qk _ (by omega)) (by simp) (by decide)) rfl) ?_
  refine Yj (Qaf (Qk _ (by simp <;> omega)) rfl) ?_
  refine⟨List.range' σ.length 11,?_⟩
  rw[hr]
  refine resB (r:=(s',e,0)) (SB.copy (fun i x hx=>?_) (fun i hi=>by simp; omega)) ?_
  ·have hi:i < 11:=(List.getElem?_eq_some_iff.1 hx).1
   rw[Ym _ (by simp <;> omega) (by omega),Ym _ (by simp <;> omega) (by omega)]
   exact YG (by rw[List.getElem?_append_right (by omega)]; simpa using hx)
  ·exact evB (by rw[hec]; exact RI.nils)
 refine Za rfl (Za rfl (Za rfl (Za rfl (Za (Zg ..) ?_))))
 refine Xc (fun h=>?_) (fun h=>?_)
 ·have hd:s.s0.deck=[]:=List.length_eq_zero_iff.1 (by have:=of_decide_eq_true h; omega)
  have hw:IntKind.i64.wrap (s.s0.life - 1)=s.s0.life - 1:=IntWalk.i64_in _ (by omega)
  refine Za rfl ?_
  refine Ye (v:=.junk) (rd:=[]) (up:=[(16,.box [iv8 3,iv 0,iv (-1),iv 0,iv 0,iv 0,.nils])]) rfl rfl ?_
  refine Za rfl (Za rfl (Za rfl (Za (Xb9 ..) (Za rfl (Za rfl ?_)))))
  rw[hw]
  refine Ye (v:=.junk) (rd:=[]) (up:=[(15,.box ((mv4 s).set 8 (iv (s.s0.life - 1))))]) rfl rfl ?_
  refine Za rfl (Za rfl (Za rfl (Zd (c57 _) rfl g57_ok.plain rfl ?_)))
  refine Za rfl (Xc (fun h2=>?_) (fun h2=>?_))
  ·have h3:wIn (s.s0.life - 1)=false:=by simpa using h2
   refine Za rfl (Za rfl (Ye rfl rfl (Ye rfl rfl (Yj rfl (Yj rfl ?_)))))
   have hr:drawF s 0=(zSt,zEv,171):=by
    show (match s.s0.deck with | []=>_ | c :: l=>_)=_
    rw[hd]; show (if wIn (s.s0.life - 1)=true then _ else _)=_
    rw[h3]; rfl
   rw[hr]
   exact⟨[],resZ 171⟩
  ·have h3:wIn (s.s0.life - 1)=true:=by simpa using h2
   refine kk _ _ { s with s0:={ s.s0 with life:=s.s0.life - 1 } } ⟨3,0,-1,0,0,0,[]⟩ (List.range 17) 17 rfl (by decide) rfl rfl rfl rfl rfl rfl ?_ ?_ ?_ (by kernel_rfl)
   ·refine SB.mk (rd:=List.range 17) (s:={ s with s0:={ s.s0 with life:=s.s0.life - 1 } }) ?_ ?_ ?_ ?_ ?_ ?_ ?_ ?_ ?_ ?_ ?_ <;> first | exact RI.own rfl (by decide) rfl | exact RT.own rfl (by decide) rfl
   ·exact⟨hs9.1,⟨hs9.2.1,hs9.2.2,hs9.2.3,hs9.2.4,hs9.2.5⟩,⟨hs9.3.1,hs9.3.2,hs9.3.3,hs9.3.4,hs9.3.5⟩⟩
   ·show (match s.s0.deck with | []=>_ | c :: l=>_)=_
    rw[hd]; show (if wIn (s.s0.life - 1)=true then _ else _)=_
    rw[h3]; rfl
 ·obtain⟨c,l,hd⟩:∃ c l,s.s0.deck=c :: l:=by
   cases q:s.s0.deck with
   | nil=>rw[q] at h; cases h
   | cons c l=>exact⟨c,l,rfl⟩
  have hdl:s.s0.deck.length=l.length + 1:=by rw[hd]; rfl
  refine Za rfl (Za rfl (Za rfl (Za rfl (Za (Y1 ..) ?_))))
  refine Xc (fun h2=>?_) (fun h2=>?_)
  ·have h3:10≤s.s0.hand.length:=by have:=of_decide_eq_true h2; omega
   have w1:IntKind.i64.wrap (0 + 1)=1:=by decide
   have w2:IntKind.i64.wrap (1 + 1)=2:=by decide
   refine Za rfl (Ye (v:=.junk) (rd:=[]) (up:=[(16,.box [iv8 4,iv 0,iv 0,iv 0,iv 0,iv 0,.nils])]) rfl rfl ?_)
   refine Xf rfl (Xf rfl (Xf rfl (Xf rfl ?_)))
   refine YF hP rfl g58_ok rfl [15,5,7] [0,4,5,6,7,8,9,10,11,12,13,14,15] (v:=iv c) (m:=2) (σ:=((sg4 b s).append [.box (mv4 s),.box [iv8 4,iv 0,iv 0,iv 0,iv 0,iv 0,.nils]])) (τ:=(((dd17.set 5 (.rows 1 (s.s0.deck.map cel))).set 7 (.rows 1 (s.s0.grave.map cel))).set 15 (.box (mv4 s)))) (τ':=(((dd17.set 5 (.rows 1 (s.s0.deck.map cel))).set 15 (.box (((mv4 s).set 11 (tailV 5 l)).set 13 (.sl 18 0 (s.s0.grave.length + 1) false)))).append [.rows 1 [cel c],.rows 1 ((s.s0.grave ++ [c]).map cel)])) (by decide) (show ∀ b∈[0,4,5,6,7,8,9,10,11,12,13,14,15],b < 17 by decide) rfl ?_ ?_ rfl (u:=iv c) (up:=[(15,.box (((mv4 s).set 11 (tailV 5 l)).set 13 (.sl 18 0 (s.s0.grave.length + 1) false))),(5,.rows 1 (s.s0.deck.map cel)),(7,.dead),(17,.rows 1 [cel c]),(18,.rows 1 ((s.s0.grave ++ [c]).map cel))]) (σ':=(((sg4 b s).set 7 .dead).append [.box (((mv4 s).set 11 (tailV 5 l)).set 13 (.sl 18 0 (s.s0.grave.length + 1) false)),.box [iv8 4,iv 0,iv 0,iv 0,iv 0,iv 0,.nils],.rows 1 [cel c],.rows 1 ((s.s0.grave ++ [c]).map cel)])) rfl ?_ rfl ?_
   ·show (((dd17.set 5 (ABlk.mapV (AVal.ren (ltM 17)) (.rows 1 (s.s0.deck.map cel)))).set 7 (ABlk.mapV (AVal.ren (ltM 17)) (.rows 1 (s.s0.grave.map cel)))).set 15 (.box (mv4 s)))=_
    rw[Zr,Zr]
   ·exact c58 (τ:=(((dd17.set 5 (.rows 1 (s.s0.deck.map cel))).set 7 (.rows 1 (s.s0.grave.map cel))).set 15 (.box (mv4 s)))) (mb:=15) (jf:=11) (jt:=13) (bf:=5) (bt:=7) (row:=(mv4 s)) (row1:=((mv4 s).set 11 (tailV 5 l))) (row2:=(((mv4 s).set 11 (tailV 5 l)).set 13 (.sl 18 0 (s.s0.grave.length + 1) false))) (x:=c) (l:=l) (t:=s.s0.grave) (vf:=tailV 5 l) rfl rfl hdl rfl rfl (Nat.le_trans hs.s0.grave (by decide)) (show ABlk.rows 1 (s.s0.deck.map cel)=_ by rw[hd]) rfl (by decide) (by decide) rfl rfl rfl ⟨rfl,rfl⟩
   ·show [(15,.box (((mv4 s).set 11 ((tailV 5 l).ren (keepM [0,4,5,6,7,8,9,10,11,12,13,14,15] 17 2))).set 13 (.sl 18 0 (s.s0.grave.length + 1) false))),(5,ABlk.mapV (AVal.ren (keepM [0,4,5,6,7,8,9,10,11,12,13,14,15] 17 2)) (.rows 1 (s.s0.deck.map cel))),(7,.dead),(17,.rows 1 [cel c]),(18,ABlk.mapV (AVal.ren (keepM [0,4,5,6,7,8,9,10,11,12,13,14,15] 17 2)) (.rows 1 ((s.s0.grave ++ [c]).map cel)))]=_
    rw[Zaj (b:=5) (l:=l) (m:=keepM [0,4,5,6,7,8,9,10,11,12,13,14,15] 17 2) rfl,Zr,Zr]
   refine Xf rfl (Qh (v:=.junk) (rd:=[]) (up:=[(16,.box [iv8 4,iv 0,iv c,iv 0,iv 0,iv 0,.nils])]) rfl rfl ?_)
   refine Yy (by kernel_rfl) ?_
   refine QA 3 (Qj ?_)
   refine Za rfl (Xe ?_)
   refine Xf rfl (Xf rfl (Xf rfl (Xf rfl (Xf rfl (Qh (ld (row:=(((mv4 s).set 11 (tailV 5 l)).set 13 (.sl 18 0 (s.s0.grave.length + 1) false))) rfl rfl) (Xi _) ?_)))))
   refine Xf rfl (Qh (ld (row:=[iv8 4,iv 0,iv c,iv 0,iv 0,iv 0,.nils]) rfl rfl) (Xi _) ?_)
   refine Qh (v:=.sl 19 0 1 true) (rd:=[]) (up:=[(19,.rows 1 [cel c])]) rfl rfl ?_
   refine Qh (v:=.sl 20 0 (s.s0.told.length + 1) false) (rd:=[19]) (up:=[(9,.dead),(20,.rows 1 ((s.s0.told ++ [c]).map cel))]) ?_ rfl ?_
   ·have:=XJ 1 8 (σ:=(((sg4 b s).set 7 .dead).append [.box (((mv4 s).set 11 (tailV 5 l)).set 13 (.sl 18 0 (s.s0.grave.length + 1) false)),.box [iv8 4,iv 0,iv c,iv 0,iv 0,iv 0,.nils],.rows 1 [cel c],.rows 1 ((s.s0.grave ++ [c]).map cel),.rows 1 [cel c]])) (b:=9) (c:=19) (len:=s.s0.told.length) (ex:=false) (rs:=s.s0.told.map cel) (row:=cel c) rfl rfl (by simp) rfl (by have:=hs.s0.told; omega)
    rw[show (s.s0.told ++ [c]).map cel=s.s0.told.map cel ++ [cel c] by simp]; exact this
   refine Xf rfl (Xf rfl (Xf rfl (Xf rfl (Xf rfl (Qh (v:=.junk) (rd:=[]) (up:=[(15,.box ((((mv4 s).set 11 (tailV 5 l)).set 13 (.sl 18 0 (s.s0.grave.length + 1) false)).set 15 (.sl 20 0 (s.s0.told.length + 1) false)))]) rfl rfl ?_)))))
   refine Yy (by kernel_rfl) (Za rfl ?_)
   rw[w1]
   refine Qj ?_
   refine Za rfl (Xe ?_)
   refine Xf rfl (Xf rfl (Xf rfl (Xf rfl (Xf rfl (Qh (ld (row:=((((mv4 s).set 11 (tailV 5 l)).set 13 (.sl 18 0 (s.s0.grave.length + 1) false)).set 15 (.sl 20 0 (s.s0.told.length + 1) false))) rfl rfl) (Xi _) ?_)))))
   refine Xf rfl (Qh (ld (row:=[iv8 4,iv 0,iv c,iv 0,iv 0,iv 0,.nils]) rfl rfl) (Xi _) ?_)
   refine Qh (v:=.sl 21 0 1 true) (rd:=[]) (up:=[(21,.rows 1 [cel c])]) rfl rfl ?_
   refine Qh (v:=.sl 22 0 (s.s1.told.length + 1) false) (rd:=[21]) (up:=[(14,.dead),(22,.rows 1 ((s.s1.told ++ [c]).map cel))]) ?_ rfl ?_
   ·have:=XJ 1 8 (σ:=((((sg4 b s).set 7 .dead).set 9 .dead).append [.box ((((mv4 s).set 11 (tailV 5 l)).set 13 (.sl 18 0 (s.s0.grave.length + 1) false)).set 15 (.sl 20 0 (s.s0.told.length + 1) false)),.box [iv8 4,iv 0,iv c,iv 0,iv 0,iv 0,.nils],.rows 1 [cel c],.rows 1 ((s.s0.grave ++ [c]).map cel),.rows 1 [cel c],.rows 1 ((s.s0.told ++ [c]).map cel),.rows 1 [cel c]])) (b:=14) (c:=21) (len:=s.s1.told.length) (ex:=false) (rs:=s.s1.told.map cel) (row:=cel c) rfl rfl (by simp) rfl (by have:=hs.s1.told; omega)
    rw[show (s.s1.told ++ [c]).map cel=s.s1.told.map cel ++ [cel c] by simp]; exact this
   refine Xf rfl (Xf rfl (Xf rfl (Xf rfl (Xf rfl (Qh (v:=.junk) (rd:=[]) (up:=[(15,.box (((((mv4 s).set 11 (tailV 5 l)).set 13 (.sl 18 0 (s.s0.grave.length + 1) false)).set 15 (.sl 20 0 (s.s0.told.length + 1) false)).set 23 (.sl 22 0 (s.s1.told.length + 1) false)))]) rfl rfl ?_)))))
   refine Yy (by kernel_rfl) (Za rfl ?_)
   rw[w2]
   refine Qj ?_
   refine Za rfl (Yh ?_)
   refine kk _ _ { s with s0:={ s.s0 with deck:=l,grave:=s.s0.grave ++ [c],told:=s.s0.told ++ [c] },s1:={ s.s1 with told:=s.s1.told ++ [c] } } ⟨4,0,c,0,0,0,[]⟩ (List.range 23) 23 rfl (by decide) rfl rfl rfl rfl rfl rfl ?_ ?_ ?_ (by kernel_rfl)
   ·refine SB.mk (rd:=List.range 23) (s:={ s with s0:={ s.s0 with deck:=l,grave:=s.s0.grave ++ [c],told:=s.s0.told ++ [c] },s1:={ s.s1 with told:=s.s1.told ++ [c] } }) ?_ ?_ ?_ ?_ ?_ ?_ ?_ ?_ ?_ ?_ ?_ <;> first | exact RI.own rfl (by decide) rfl | exact RI.own rfl (by decide) (by simp) | exact RT.own rfl (by decide) rfl | exact RI.tailV (show ABlk.rows 1 (s.s0.deck.map cel)=_ by rw[hd]) (by decide)
   ·have q1:=hs.s0.grave
    have q2:=hs.s0.told
    have q3:=hs.s0.deck
    have q4:=hs.s1.told
    refine⟨hs9.1,⟨by show l.length≤_; omega,hs9.2.2,by show (s.s0.grave ++ [c]).length≤_; simp; omega,hs9.2.4,by show (s.s0.told ++ [c]).length≤_; simp; omega⟩,⟨hs9.3.1,hs9.3.2,hs9.3.3,hs9.3.4,by show (s.s1.told ++ [c]).length≤_; simp; omega⟩⟩
   ·show (match s.s0.deck with | []=>_ | c :: l=>_)=_
    rw[hd]; show (if 10≤s.s0.hand.length then _ else _)=_
    rw[if_pos h3]; rfl
  ·have h3:¬ 10≤s.s0.hand.length:=by have:=of_decide_eq_false h2; omega
   refine Xf rfl (Xf rfl (Xf rfl (Xf rfl ?_)))
   refine YF hP rfl g58_ok rfl [15,5,6] [0,4,5,6,7,8,9,10,11,12,13,14,15] (v:=iv c) (m:=2) (σ:=((sg4 b s).append [.box (mv4 s),.box [iv8 3,iv 0,iv 0,iv 0,iv 0,iv 0,.nils]])) (τ:=(((dd17.set 5 (.rows 1 (s.s0.deck.map cel))).set 6 (.rows 1 (s.s0.hand.map cel))).set 15 (.box (mv4 s)))) (τ':=(((dd17.set 5 (.rows 1 (s.s0.deck.map cel))).set 15 (.box (((mv4 s).set 11 (tailV 5 l)).set 12 (.sl 18 0 (s.s0.hand.length + 1) false)))).append [.rows 1 [cel c],.rows 1 ((s.s0.hand ++ [c]).map cel)])) (by decide) (show ∀ b∈[0,4,5,6,7,8,9,10,11,12,13,14,15],b < 17 by decide) rfl ?_ ?_ rfl (u:=iv c) (up:=[(15,.box (((mv4 s).set 11 (tailV 5 l)).set 12 (.sl 18 0 (s.s0.hand.length + 1) false))),(5,.rows 1 (s.s0.deck.map cel)),(6,.dead),(17,.rows 1 [cel c]),(18,.rows 1 ((s.s0.hand ++ [c]).map cel))]) (σ':=(((sg4 b s).set 6 .dead).append [.box (((mv4 s).set 11 (tailV 5 l)).set 12 (.sl 18 0 (s.s0.hand.length + 1) false)),.box [iv8 3,iv 0,iv 0,iv 0,iv 0,iv 0,.nils],.rows 1 [cel c],.rows 1 ((s.s0.hand ++ [c]).map cel)])) rfl ?_ rfl ?_
   ·show (((dd17.set 5 (ABlk.mapV (AVal.ren (ltM 17)) (.rows 1 (s.s0.deck.map cel)))).set 6 (ABlk.mapV (AVal.ren (ltM 17)) (.rows 1 (s.s0.hand.map cel)))).set 15 (.box (mv4 s)))=_
    rw[Zr,Zr]
   ·exact c58 (τ:=(((dd17.set 5 (.rows 1 (s.s0.deck.map cel))).set 6 (.rows 1 (s.s0.hand.map cel))).set 15 (.box (mv4 s)))) (mb:=15) (jf:=11) (jt:=12) (bf:=5) (bt:=6) (row:=(mv4 s)) (row1:=((mv4 s).set 11 (tailV 5 l))) (row2:=(((mv4 s).set 11 (tailV 5 l)).set 12 (.sl 18 0 (s.s0.hand.length + 1) false))) (x:=c) (l:=l) (t:=s.s0.hand) (vf:=tailV 5 l) rfl rfl hdl rfl rfl (Nat.le_trans hs.s0.hand (by decide)) (show ABlk.rows 1 (s.s0.deck.map cel)=_ by rw[hd]) rfl (by decide) (by decide) rfl rfl rfl ⟨rfl,rfl⟩
   ·show [(15,.box (((mv4 s).set 11 ((tailV 5 l).ren (keepM [0,4,5,6,7,8,9,10,11,12,13,14,15] 17 2))).set 12 (.sl 18 0 (s.s0.hand.length + 1) false))),(5,ABlk.mapV (AVal.ren (keepM [0,4,5,6,7,8,9,10,11,12,13,14,15] 17 2)) (.rows 1 (s.s0.deck.map cel))),(6,.dead),(17,.rows 1 [cel c]),(18,ABlk.mapV (AVal.ren (keepM [0,4,5,6,7,8,9,10,11,12,13,14,15] 17 2)) (.rows 1 ((s.s0.hand ++ [c]).map cel)))]=_
    rw[Zaj (b:=5) (l:=l) (m:=keepM [0,4,5,6,7,8,9,10,11,12,13,14,15] 17 2) rfl,Zr,Zr]
   refine Xf rfl (Qh (v:=.junk) (rd:=[]) (up:=[(16,.box [iv8 3,iv 0,iv c,iv 0,iv 0,iv 0,.nils])]) rfl rfl ?_)
   refine Yy (by kernel_rfl) ?_
   refine Xf rfl (Xf rfl (Qh (ld (row:=(((mv4 s).set 11 (tailV 5 l)).set 12 (.sl 18 0 (s.s0.hand.length + 1) false))) rfl rfl) (Xi _) ?_))
   refine Xf rfl (Qh (ld (row:=[iv8 3,iv 0,iv c,iv 0,iv 0,iv 0,.nils]) rfl rfl) (Xi _) ?_)
   refine Qh (v:=.sl 19 0 1 true) (rd:=[]) (up:=[(19,.rows 1 [cel c])]) rfl rfl ?_
   refine Qh (v:=.sl 20 0 (s.s0.told.length + 1) false) (rd:=[19]) (up:=[(9,.dead),(20,.rows 1 ((s.s0.told ++ [c]).map cel))]) ?_ rfl ?_
   ·have:=XJ 1 8 (σ:=(((sg4 b s).set 6 .dead).append [.box (((mv4 s).set 11 (tailV 5 l)).set 12 (.sl 18 0 (s.s0.hand.length + 1) false)),.box [iv8 3,iv 0,iv c,iv 0,iv 0,iv 0,.nils],.rows 1 [cel c],.rows 1 ((s.s0.hand ++ [c]).map cel),.rows 1 [cel c]])) (b:=9) (c:=19) (len:=s.s0.told.length) (ex:=false) (rs:=s.s0.told.map cel) (row:=cel c) rfl rfl (by simp) rfl (by have:=hs.s0.told; omega)
    rw[show (s.s0.told ++ [c]).map cel=s.s0.told.map cel ++ [cel c] by simp]; exact this
   refine Xf rfl (Xf rfl (Qh (v:=.junk) (rd:=[]) (up:=[(15,.box ((((mv4 s).set 11 (tailV 5 l)).set 12 (.sl 18 0 (s.s0.hand.length + 1) false)).set 15 (.sl 20 0 (s.s0.told.length + 1) false)))]) rfl rfl ?_))
   refine Yy (by kernel_rfl) ?_
   refine kk _ _ { s with s0:={ s.s0 with deck:=l,hand:=s.s0.hand ++ [c],told:=s.s0.told ++ [c] } } ⟨3,0,c,0,0,0,[]⟩ (List.range 21) 21 rfl (by decide) rfl rfl rfl rfl rfl rfl ?_ ?_ ?_ (by kernel_rfl)
   ·refine SB.mk (rd:=List.range 21) (s:={ s with s0:={ s.s0 with deck:=l,hand:=s.s0.hand ++ [c],told:=s.s0.told ++ [c] } }) ?_ ?_ ?_ ?_ ?_ ?_ ?_ ?_ ?_ ?_ ?_ <;> first | exact RI.own rfl (by decide) rfl | exact RI.own rfl (by decide) (by simp) | exact RT.own rfl (by decide) rfl | exact RI.tailV (show ABlk.rows 1 (s.s0.deck.map cel)=_ by rw[hd]) (by decide)
   ·have q1:=hs.s0.hand
    have q2:=hs.s0.told
    have q3:=hs.s0.deck
    refine⟨hs9.1,⟨by show l.length≤_; omega,by show (s.s0.hand ++ [c]).length≤_; simp; omega,hs9.2.3,hs9.2.4,by show (s.s0.told ++ [c]).length≤_; simp; omega⟩,⟨hs9.3.1,hs9.3.2,hs9.3.3,hs9.3.4,hs9.3.5⟩⟩
   ·show (match s.s0.deck with | []=>_ | c :: l=>_)=_
    rw[hd]; show (if 10≤s.s0.hand.length then _ else _)=_
    rw[if_neg h3]; rfl
theorem c18_1(b:Bk)(hf:bkFit b=true)(hsm:Yt b.cards)(s:St)(hs:StLe 2000000 s)(hm:mayR (bkR b).1 b s true=true):PCall prog GL0 18 [bkV b,stV s,iv 1] (resV (drawF s 1)):=by
 have hlf:=Zck.1 (Yb1 hm)
 have hs9:StLe 1000000000 s:=hs.mono (by decide)
 refine Xw hP g18_ok rfl ?_
 unfold g18
 refine Ye (v:=.bptr 0 0) (rd:=[]) (up:=[(0,.box (bkC b))]) rfl rfl ?_
 refine Ye (v:=.bptr 1 0) (rd:=[]) (up:=[(1,.box (stC s))]) rfl rfl ?_
 refine Ye (v:=.bptr 2 0) (rd:=[]) (up:=[(2,.box zStC)]) rfl rfl ?_
 refine Ye (v:=.bptr 3 0) (rd:=[]) (up:=[(3,.box zEvC)]) rfl rfl ?_
 refine c56n b hf hsm s (hs.mono (by decide)) (n0:=4) (n:=15) rfl rfl rfl rfl (fun h=>by rw[hm] at h; cases h) (fun _=>?_)
 refine Za rfl (Yh ?_)
 refine Za rfl (Xa (Za rfl (Xa (Za rfl (Za rfl (Yh ?_))))))
 refine Za rfl (Za rfl (Za rfl (Za rfl (Za rfl ?_))))
 refine Ye (v:=.bptr 16 0) (rd:=[]) (up:=[(16,.box zEvC)]) rfl rfl ?_
 refine Ye (v:=.junk) (rd:=[]) (up:=[(16,.box [iv8 3,iv 1,iv 0,iv 0,iv 0,iv 0,.nils])]) rfl rfl ?_
 refine Qi fun k24 hk24=>?_
 have kk:∀ (σ:List ABlk) (cs:List AVal) (s':St) (e:Ev) (rd:List Nat) (n:Nat),σ.length=n→17≤n→hget σ 15=.box (.bptr 0 0 :: cs)→hget σ 16=.box [iv8 e.kind,iv e.side,iv e.card,iv e.id,iv e.other,iv e.n,.nils]→hget σ 2=.box zStC→hget σ 3=.box zEvC →
   partA true 1 23 (.bptr 0 0 :: cs)=some (.agg cs)→e.cards=[]→SB σ rd cs s'→StLe 1000000000 s'→drawF s 1=(s',e,0) →
   Xk [[],[0],[0,1],[0,1,2],[0,1,2,3],[],[0,1,2,3,4],[0,1,2,3,4,5,6],[0,1,2,3,4,5,6,7]] [([],[]),([],[]),([],[]),([15],[]),(rd,QH n (stB s')),([16],[]),([],[2]),([],[3]),([],[])]=true→k24 [] σ:=by
  intro σ cs s' e rd n hl hn h15 h16 h2 h3 hld hec hsb hle hr hap
  subst hl
  rw[hk24]
  refine Xf rfl (Xf rfl (Qh (ld h15 hld) (Xi _) (d59 hle hsb ?_)))
  have q15:=Zl (stB s') h16 (by simp)
  have q2:=Zl (stB s') h2 (by simp)
  have q3:=Zl (stB s') h3 (by simp)
  have hln:(σ ++ stB s').length=σ.length + 11:=by simp[stB,sdB]
  refine Qh (ld q15 rfl) (Xi _) ?_
  refine Qh (stv q2 rfl rfl rfl) (Yo _ (by omega)) ?_
  refine Qh (stv (Xh q3 (by simp) (by decide)) rfl rfl rfl) (Yo _ (by simp <;> omega)) ?_
  refine Yy hap ?_
  refine Yj (Qaf (Xh (Qk _ (by omega)) (by simp) (by decide)) rfl) ?_
  refine Yj (Qaf (Qk _ (by simp <;> omega)) rfl) ?_
  refine⟨List.range' σ.length 11,?_⟩
  rw[hr]
  refine resB (r:=(s',e,0)) (SB.copy (fun i x hx=>?_) (fun i hi=>by simp; omega)) ?_
  ·have hi:i < 11:=(List.getElem?_eq_some_iff.1 hx).1
   rw[Ym _ (by simp <;> omega) (by omega),Ym _ (by simp <;> omega) (by omega)]
   exact YG (by rw[List.getElem?_append_right (by omega)]; simpa using hx)
  ·exact evB (by rw[hec]; exact RI.nils)
 refine Za rfl (Za rfl (Za rfl (Za rfl (Za (Zg ..) ?_))))
 refine Xc (fun h=>?_) (fun h=>?_)
 ·have hd:s.s1.deck=[]:=List.length_eq_zero_iff.1 (by have:=of_decide_eq_true h; omega)
  have hw:IntKind.i64.wrap (s.s1.life - 1)=s.s1.life - 1:=IntWalk.i64_in _ (by omega)
  refine Za rfl ?_
  refine Ye (v:=.junk) (rd:=[]) (up:=[(16,.box [iv8 3,iv 1,iv (-1),iv 0,iv 0,iv 0,.nils])]) rfl rfl ?_
  refine Za rfl (Za rfl (Za rfl (Za (Xb9 ..) (Za rfl (Za rfl ?_)))))
  rw[hw]
  refine Ye (v:=.junk) (rd:=[]) (up:=[(15,.box ((mv4 s).set 16 (iv (s.s1.life - 1))))]) rfl rfl ?_
  refine Za rfl (Za rfl (Za rfl (Zd (c57 _) rfl g57_ok.plain rfl ?_)))
  refine Za rfl (Xc (fun h2=>?_) (fun h2=>?_))
  ·have h3:wIn (s.s1.life - 1)=false:=by simpa using h2
   refine Za rfl (Za rfl (Ye rfl rfl (Ye rfl rfl (Yj rfl (Yj rfl ?_)))))
   have hr:drawF s 1=(zSt,zEv,171):=by
    show (match s.s1.deck with | []=>_ | c :: l=>_)=_
    rw[hd]; show (if wIn (s.s1.life - 1)=true then _ else _)=_
    rw[h3]; rfl
   rw[hr]
   exact⟨[],resZ 171⟩
  ·have h3:wIn (s.s1.life - 1)=true:=by simpa using h2
   refine kk _ _ { s with s1:={ s.s1 with life:=s.s1.life - 1 } } ⟨3,1,-1,0,0,0,[]⟩ (List.range 17) 17 rfl (by decide) rfl rfl rfl rfl rfl rfl ?_ ?_ ?_ (by kernel_rfl)
   ·refine SB.mk (rd:=List.range 17) (s:={ s with s1:={ s.s1 with life:=s.s1.life - 1 } }) ?_ ?_ ?_ ?_ ?_ ?_ ?_ ?_ ?_ ?_ ?_ <;> first | exact RI.own rfl (by decide) rfl | exact RT.own rfl (by decide) rfl
   ·exact⟨hs9.1,⟨hs9.2.1,hs9.2.2,hs9.2.3,hs9.2.4,hs9.2.5⟩,⟨hs9.3.1,hs9.3.2,hs9.3.3,hs9.3.4,hs9.3.5⟩⟩
   ·show (match s.s1.deck with | []=>_ | c :: l=>_)=_
    rw[hd]; show (if wIn (s.s1.life - 1)=true then _ else _)=_
    rw[h3]; rfl
 ·obtain⟨c,l,hd⟩:∃ c l,s.s1.deck=c :: l:=by
   cases q:s.s1.deck with
   | nil=>rw[q] at h; cases h
   | cons c l=>exact⟨c,l,rfl⟩
  have hdl:s.s1.deck.length=l.length + 1:=by rw[hd]; rfl
  refine Za rfl (Za rfl (Za rfl (Za rfl (Za (Y1 ..) ?_))))
  refine Xc (fun h2=>?_) (fun h2=>?_)
  ·have h3:10≤s.s1.hand.length:=by have:=of_decide_eq_true h2; omega
   have w1:IntKind.i64.wrap (0 + 1)=1:=by decide
   have w2:IntKind.i64.wrap (1 + 1)=2:=by decide
   refine Za rfl (Ye (v:=.junk) (rd:=[]) (up:=[(16,.box [iv8 4,iv 1,iv 0,iv 0,iv 0,iv 0,.nils])]) rfl rfl ?_)
   refine Xf rfl (Xf rfl (Xf rfl (Xf rfl ?_)))
   refine YF hP rfl g58_ok rfl [15,10,12] [0,4,5,6,7,8,9,10,11,12,13,14,15] (v:=iv c) (m:=2) (σ:=((sg4 b s).append [.box (mv4 s),.box [iv8 4,iv 1,iv 0,iv 0,iv 0,iv 0,.nils]])) (τ:=(((dd17.set 10 (.rows 1 (s.s1.deck.map cel))).set 12 (.rows 1 (s.s1.grave.map cel))).set 15 (.box (mv4 s)))) (τ':=(((dd17.set 10 (.rows 1 (s.s1.deck.map cel))).set 15 (.box (((mv4 s).set 19 (tailV 10 l)).set 21 (.sl 18 0 (s.s1.grave.length + 1) false)))).append [.rows 1 [cel c],.rows 1 ((s.s1.grave ++ [c]).map cel)])) (by decide) (show ∀ b∈[0,4,5,6,7,8,9,10,11,12,13,14,15],b < 17 by decide) rfl ?_ ?_ rfl (u:=iv c) (up:=[(15,.box (((mv4 s).set 19 (tailV 10 l)).set 21 (.sl 18 0 (s.s1.grave.length + 1) false))),(10,.rows 1 (s.s1.deck.map cel)),(12,.dead),(17,.rows 1 [cel c]),(18,.rows 1 ((s.s1.grave ++ [c]).map cel))]) (σ':=(((sg4 b s).set 12 .dead).append [.box (((mv4 s).set 19 (tailV 10 l)).set 21 (.sl 18 0 (s.s1.grave.length + 1) false)),.box [iv8 4,iv 1,iv 0,iv 0,iv 0,iv 0,.nils],.rows 1 [cel c],.rows 1 ((s.s1.grave ++ [c]).map cel)])) rfl ?_ rfl ?_
   ·show (((dd17.set 10 (ABlk.mapV (AVal.ren (ltM 17)) (.rows 1 (s.s1.deck.map cel)))).set 12 (ABlk.mapV (AVal.ren (ltM 17)) (.rows 1 (s.s1.grave.map cel)))).set 15 (.box (mv4 s)))=_
    rw[Zr,Zr]
   ·exact c58 (τ:=(((dd17.set 10 (.rows 1 (s.s1.deck.map cel))).set 12 (.rows 1 (s.s1.grave.map cel))).set 15 (.box (mv4 s)))) (mb:=15) (jf:=19) (jt:=21) (bf:=10) (bt:=12) (row:=(mv4 s)) (row1:=((mv4 s).set 19 (tailV 10 l))) (row2:=(((mv4 s).set 19 (tailV 10 l)).set 21 (.sl 18 0 (s.s1.grave.length + 1) false))) (x:=c) (l:=l) (t:=s.s1.grave) (vf:=tailV 10 l) rfl rfl hdl rfl rfl (Nat.le_trans hs.s1.grave (by decide)) (show ABlk.rows 1 (s.s1.deck.map cel)=_ by rw[hd]) rfl (by decide) (by decide) rfl rfl rfl ⟨rfl,rfl⟩
   ·show [(15,.box (((mv4 s).set 19 ((tailV 10 l).ren (keepM [0,4,5,6,7,8,9,10,11,12,13,14,15] 17 2))).set 21 (.sl 18 0 (s.s1.grave.length + 1) false))),(10,ABlk.mapV (AVal.ren (keepM [0,4,5,6,7,8,9,10,11,12,13,14,15] 17 2)) (.rows 1 (s.s1.deck.map cel))),(12,.dead),(17,.rows 1 [cel c]),(18,ABlk.mapV (AVal.ren (keepM [0,4,5,6,7,8,9,10,11,12,13,14,15] 17 2)) (.rows 1 ((s.s1.grave ++ [c]).map cel)))]=_
    rw[Zaj (b:=10) (l:=l) (m:=keepM [0,4,5,6,7,8,9,10,11,12,13,14,15] 17 2) rfl,Zr,Zr]
   refine Xf rfl (Qh (v:=.junk) (rd:=[]) (up:=[(16,.box [iv8 4,iv 1,iv c,iv 0,iv 0,iv 0,.nils])]) rfl rfl ?_)
   refine Yy (by kernel_rfl) ?_
   refine QA 3 (Qj ?_)
   refine Za rfl (Xe ?_)
   refine Xf rfl (Xf rfl (Xf rfl (Xf rfl (Xf rfl (Qh (ld (row:=(((mv4 s).set 19 (tailV 10 l)).set 21 (.sl 18 0 (s.s1.grave.length + 1) false))) rfl rfl) (Xi _) ?_)))))
   refine Xf rfl (Qh (ld (row:=[iv8 4,iv 1,iv c,iv 0,iv 0,iv 0,.nils]) rfl rfl) (Xi _) ?_)
   refine Qh (v:=.sl 19 0 1 true) (rd:=[]) (up:=[(19,.rows 1 [cel c])]) rfl rfl ?_
   refine Qh (v:=.sl 20 0 (s.s0.told.length + 1) false) (rd:=[19]) (up:=[(9,.dead),(20,.rows 1 ((s.s0.told ++ [c]).map cel))]) ?_ rfl ?_
   ·have:=XJ 1 8 (σ:=(((sg4 b s).set 12 .dead).append [.box (((mv4 s).set 19 (tailV 10 l)).set 21 (.sl 18 0 (s.s1.grave.length + 1) false)),.box [iv8 4,iv 1,iv c,iv 0,iv 0,iv 0,.nils],.rows 1 [cel c],.rows 1 ((s.s1.grave ++ [c]).map cel),.rows 1 [cel c]])) (b:=9) (c:=19) (len:=s.s0.told.length) (ex:=false) (rs:=s.s0.told.map cel) (row:=cel c) rfl rfl (by simp) rfl (by have:=hs.s0.told; omega)
    rw[show (s.s0.told ++ [c]).map cel=s.s0.told.map cel ++ [cel c] by simp]; exact this
   refine Xf rfl (Xf rfl (Xf rfl (Xf rfl (Xf rfl (Qh (v:=.junk) (rd:=[]) (up:=[(15,.box ((((mv4 s).set 15 (.sl 20 0 (s.s0.told.length + 1) false)).set 19 (tailV 10 l)).set 21 (.sl 18 0 (s.s1.grave.length + 1) false)))]) rfl rfl ?_)))))
   refine Yy (by kernel_rfl) (Za rfl ?_)
   rw[w1]
   refine Qj ?_
   refine Za rfl (Xe ?_)
   refine Xf rfl (Xf rfl (Xf rfl (Xf rfl (Xf rfl (Qh (ld (row:=((((mv4 s).set 15 (.sl 20 0 (s.s0.told.length + 1) false)).set 19 (tailV 10 l)).set 21 (.sl 18 0 (s.s1.grave.length + 1) false))) rfl rfl) (Xi _) ?_)))))
   refine Xf rfl (Qh (ld (row:=[iv8 4,iv 1,iv c,iv 0,iv 0,iv 0,.nils]) rfl rfl) (Xi _) ?_)
   refine Qh (v:=.sl 21 0 1 true) (rd:=[]) (up:=[(21,.rows 1 [cel c])]) rfl rfl ?_
   refine Qh (v:=.sl 22 0 (s.s1.told.length + 1) false) (rd:=[21]) (up:=[(14,.dead),(22,.rows 1 ((s.s1.told ++ [c]).map cel))]) ?_ rfl ?_
   ·have:=XJ 1 8 (σ:=((((sg4 b s).set 9 .dead).set 12 .dead).append [.box ((((mv4 s).set 15 (.sl 20 0 (s.s0.told.length + 1) false)).set 19 (tailV 10 l)).set 21 (.sl 18 0 (s.s1.grave.length + 1) false)),.box [iv8 4,iv 1,iv c,iv 0,iv 0,iv 0,.nils],.rows 1 [cel c],.rows 1 ((s.s1.grave ++ [c]).map cel),.rows 1 [cel c],.rows 1 ((s.s0.told ++ [c]).map cel),.rows 1 [cel c]])) (b:=14) (c:=21) (len:=s.s1.told.length) (ex:=false) (rs:=s.s1.told.map cel) (row:=cel c) rfl rfl (by simp) rfl (by have:=hs.s1.told; omega)
    rw[show (s.s1.told ++ [c]).map cel=s.s1.told.map cel ++ [cel c] by simp]; exact this
   refine Xf rfl (Xf rfl (Xf rfl (Xf rfl (Xf rfl (Qh (v:=.junk) (rd:=[]) (up:=[(15,.box (((((mv4 s).set 15 (.sl 20 0 (s.s0.told.length + 1) false)).set 19 (tailV 10 l)).set 21 (.sl 18 0 (s.s1.grave.length + 1) false)).set 23 (.sl 22 0 (s.s1.told.length + 1) false)))]) rfl rfl ?_)))))
   refine Yy (by kernel_rfl) (Za rfl ?_)
   rw[w2]
   refine Qj ?_
   refine Za rfl (Yh ?_)
   refine kk _ _ { s with s1:={ s.s1 with deck:=l,grave:=s.s1.grave ++ [c],told:=s.s1.told ++ [c] },s0:={ s.s0 with told:=s.s0.told ++ [c] } } ⟨4,1,c,0,0,0,[]⟩ (List.range 23) 23 rfl (by decide) rfl rfl rfl rfl rfl rfl ?_ ?_ ?_ (by kernel_rfl)
   ·refine SB.mk (rd:=List.range 23) (s:={ s with s1:={ s.s1 with deck:=l,grave:=s.s1.grave ++ [c],told:=s.s1.told ++ [c] },s0:={ s.s0 with told:=s.s0.told ++ [c] } }) ?_ ?_ ?_ ?_ ?_ ?_ ?_ ?_ ?_ ?_ ?_ <;> first | exact RI.own rfl (by decide) rfl | exact RI.own rfl (by decide) (by simp) | exact RT.own rfl (by decide) rfl | exact RI.tailV (show ABlk.rows 1 (s.s1.deck.map cel)=_ by rw[hd]) (by decide)
   ·have q1:=hs.s1.grave
    have q2:=hs.s1.told
    have q3:=hs.s1.deck
    have q4:=hs.s0.told
    refine⟨hs9.1,⟨hs9.2.1,hs9.2.2,hs9.2.3,hs9.2.4,by show (s.s0.told ++ [c]).length≤_; simp; omega⟩,⟨by show l.length≤_; omega,hs9.3.2,by show (s.s1.grave ++ [c]).length≤_; simp; omega,hs9.3.4,by show (s.s1.told ++ [c]).length≤_; simp; omega⟩⟩
   ·show (match s.s1.deck with | []=>_ | c :: l=>_)=_
    rw[hd]; show (if 10≤s.s1.hand.length then _ else _)=_
    rw[if_pos h3]; rfl
  ·have h3:¬ 10≤s.s1.hand.length:=by have:=of_decide_eq_false h2; omega
   refine Xf rfl (Xf rfl (Xf rfl (Xf rfl ?_)))
   refine YF hP rfl g58_ok rfl [15,10,11] [0,4,5,6,7,8,9,10,11,12,13,14,15] (v:=iv c) (m:=2) (σ:=((sg4 b s).append [.box (mv4 s),.box [iv8 3,iv 1,iv 0,iv 0,iv 0,iv 0,.nils]])) (τ:=(((dd17.set 10 (.rows 1 (s.s1.deck.map cel))).set 11 (.rows 1 (s.s1.hand.map cel))).set 15 (.box (mv4 s)))) (τ':=(((dd17.set 10 (.rows 1 (s.s1.deck.map cel))).set 15 (.box (((mv4 s).set 19 (tailV 10 l)).set 20 (.sl 18 0 (s.s1.hand.length + 1) false)))).append [.rows 1 [cel c],.rows 1 ((s.s1.hand ++ [c]).map cel)])) (by decide) (show ∀ b∈[0,4,5,6,7,8,9,10,11,12,13,14,15],b < 17 by decide) rfl ?_ ?_ rfl (u:=iv c) (up:=[(15,.box (((mv4 s).set 19 (tailV 10 l)).set 20 (.sl 18 0 (s.s1.hand.length + 1) false))),(10,.rows 1 (s.s1.deck.map cel)),(11,.dead),(17,.rows 1 [cel c]),(18,.rows 1 ((s.s1.hand ++ [c]).map cel))]) (σ':=(((sg4 b s).set 11 .dead).append [.box (((mv4 s).set 19 (tailV 10 l)).set 20 (.sl 18 0 (s.s1.hand.length + 1) false)),.box [iv8 3,iv 1,iv 0,iv 0,iv 0,iv 0,.nils],.rows 1 [cel c],.rows 1 ((s.s1.hand ++ [c]).map cel)])) rfl ?_ rfl ?_
   ·show (((dd17.set 10 (ABlk.mapV (AVal.ren (ltM 17)) (.rows 1 (s.s1.deck.map cel)))).set 11 (ABlk.mapV (AVal.ren (ltM 17)) (.rows 1 (s.s1.hand.map cel)))).set 15 (.box (mv4 s)))=_
    rw[Zr,Zr]
   ·exact c58 (τ:=(((dd17.set 10 (.rows 1 (s.s1.deck.map cel))).set 11 (.rows 1 (s.s1.hand.map cel))).set 15 (.box (mv4 s)))) (mb:=15) (jf:=19) (jt:=20) (bf:=10) (bt:=11) (row:=(mv4 s)) (row1:=((mv4 s).set 19 (tailV 10 l))) (row2:=(((mv4 s).set 19 (tailV 10 l)).set 20 (.sl 18 0 (s.s1.hand.length + 1) false))) (x:=c) (l:=l) (t:=s.s1.hand) (vf:=tailV 10 l) rfl rfl hdl rfl rfl (Nat.le_trans hs.s1.hand (by decide)) (show ABlk.rows 1 (s.s1.deck.map cel)=_ by rw[hd]) rfl (by decide) (by decide) rfl rfl rfl ⟨rfl,rfl⟩
   ·show [(15,.box (((mv4 s).set 19 ((tailV 10 l).ren (keepM [0,4,5,6,7,8,9,10,11,12,13,14,15] 17 2))).set 20 (.sl 18 0 (s.s1.hand.length + 1) false))),(10,ABlk.mapV (AVal.ren (keepM [0,4,5,6,7,8,9,10,11,12,13,14,15] 17 2)) (.rows 1 (s.s1.deck.map cel))),(11,.dead),(17,.rows 1 [cel c]),(18,ABlk.mapV (AVal.ren (keepM [0,4,5,6,7,8,9,10,11,12,13,14,15] 17 2)) (.rows 1 ((s.s1.hand ++ [c]).map cel)))]=_
    rw[Zaj (b:=10) (l:=l) (m:=keepM [0,4,5,6,7,8,9,10,11,12,13,14,15] 17 2) rfl,Zr,Zr]
   refine Xf rfl (Qh (v:=.junk) (rd:=[]) (up:=[(16,.box [iv8 3,iv 1,iv c,iv 0,iv 0,iv 0,.nils])]) rfl rfl ?_)
   refine Yy (by kernel_rfl) ?_
   refine Xf rfl (Xf rfl (Qh (ld (row:=(((mv4 s).set 19 (tailV 10 l)).set 20 (.sl 18 0 (s.s1.hand.length + 1) false))) rfl rfl) (Xi _) ?_))
   refine Xf rfl (Qh (ld (row:=[iv8 3,iv 1,iv c,iv 0,iv 0,iv 0,.nils]) rfl rfl) (Xi _) ?_)
   refine Qh (v:=.sl 19 0 1 true) (rd:=[]) (up:=[(19,.rows 1 [cel c])]) rfl rfl ?_
   refine Qh (v:=.sl 20 0 (s.s1.told.length + 1) false) (rd:=[19]) (up:=[(14,.dead),(20,.rows 1 ((s.s1.told ++ [c]).map cel))]) ?_ rfl ?_
   ·have:=XJ 1 8 (σ:=(((sg4 b s).set 11 .dead).append [.box (((mv4 s).set 19 (tailV 10 l)).set 20 (.sl 18 0 (s.s1.hand.length + 1) false)),.box [iv8 3,iv 1,iv c,iv 0,iv 0,iv 0,.nils],.rows 1 [cel c],.rows 1 ((s.s1.hand ++ [c]).map cel),.rows 1 [cel c]])) (b:=14) (c:=19) (len:=s.s1.told.length) (ex:=false) (rs:=s.s1.told.map cel) (row:=cel c) rfl rfl (by simp) rfl (by have:=hs.s1.told; omega)
    rw[show (s.s1.told ++ [c]).map cel=s.s1.told.map cel ++ [cel c] by simp]; exact this
   refine Xf rfl (Xf rfl (Qh (v:=.junk) (rd:=[]) (up:=[(15,.box ((((mv4 s).set 19 (tailV 10 l)).set 20 (.sl 18 0 (s.s1.hand.length + 1) false)).set 23 (.sl 20 0 (s.s1.told.length + 1) false)))]) rfl rfl ?_))
   refine Yy (by kernel_rfl) ?_
   refine kk _ _ { s with s1:={ s.s1 with deck:=l,hand:=s.s1.hand ++ [c],told:=s.s1.told ++ [c] } } ⟨3,1,c,0,0,0,[]⟩ (List.range 21) 21 rfl (by decide) rfl rfl rfl rfl rfl rfl ?_ ?_ ?_ (by kernel_rfl)
   ·refine SB.mk (rd:=List.range 21) (s:={ s with s1:={ s.s1 with deck:=l,hand:=s.s1.hand ++ [c],told:=s.s1.told ++ [c] } }) ?_ ?_ ?_ ?_ ?_ ?_ ?_ ?_ ?_ ?_ ?_ <;> first | exact RI.own rfl (by decide) rfl | exact RI.own rfl (by decide) (by simp) | exact RT.own rfl (by decide) rfl | exact RI.tailV (show ABlk.rows 1 (s.s1.deck.map cel)=_ by rw[hd]) (by decide)
   ·have q1:=hs.s1.hand
    have q2:=hs.s1.told
    have q3:=hs.s1.deck
    refine⟨hs9.1,⟨hs9.2.1,hs9.2.2,hs9.2.3,hs9.2.4,hs9.2.5⟩,⟨by show l.length≤_; omega,by show (s.s1.hand ++ [c]).length≤_; simp; omega,hs9.3.3,hs9.3.4,by show (s.s1.told ++ [c]).length≤_; simp; omega⟩⟩
   ·show (match s.s1.deck with | []=>_ | c :: l=>_)=_
    rw[hd]; show (if 10≤s.s1.hand.length then _ else _)=_
    rw[if_neg h3]; rfl
end Go.Ah.Tz
end
section
namespace Go.Ah.Tz
open Go.Proofs.Tryz (prog)
def Yam(b:Bk)(s:St)(k c:Int):Bool:=((((decide (c < 0) || decide ((b.cards.length:Int)≤c)) || !((b.cards[c.toNat]?).getD default).unit) || decide (7≤((s.side k).units.length:Int))) || decide (1000000≤s.next))
def ZH(s:St)(k c:Int):St:={ s.put k { s.side k with units:=(s.side k).units ++ [⟨s.next,c,0,true⟩] } with next:=s.next + 1 }
def Xaq(b:Bk)(s:St)(k c:Int):AVal:=
 if Yam b s k c then resX zSt zEv (.bool false) else resX (ZH s k c) ⟨2,k,c,s.next,0,0,[]⟩ (.bool true)
attribute [local irreducible] Ans.rd Ans.pu Ans.wr Ans.dr Ans.gr Ans.gw Ans.gl Ans.gd Ans.opt joinK W
set_option maxHeartbeats 4000000
theorem c21_0(b:Bk)(hf:bkFit b=true)(hsm:Yt b.cards)(s:St)(hs:StLe 2000000 s)(hm:mayR (bkR b).1 b s true=true)(c:Int):PCall prog GL0 21 [bkV b,stV s,iv 0,iv c] (Xaq b s 0 c):=by
 have hfac:=Ys hm
 have hw:IntKind.i64.wrap (s.next + 1)=s.next + 1:=IntWalk.i64_in _ (by omega)
 refine Xw hP g21_ok rfl ?_
 unfold g21
 refine Ye (v:=.bptr 0 0) (rd:=[]) (up:=[(0,.box (bkC b))]) rfl rfl ?_
 refine Ye (v:=.bptr 1 0) (rd:=[]) (up:=[(1,.box (stC s))]) rfl rfl ?_
 refine Ye (v:=.bptr 2 0) (rd:=[]) (up:=[(2,.box zStC)]) rfl rfl ?_
 refine Ye (v:=.bptr 3 0) (rd:=[]) (up:=[(3,.box zEvC)]) rfl rfl ?_
 refine c56n b hf hsm s (hs.mono (by decide)) (n0:=4) (n:=15) rfl rfl rfl rfl (fun h=>by rw[hm] at h; cases h) (fun _=>?_)
 refine Za rfl ?_
 refine XH (c:=false) (d:=false) (fun _=>rfl) (fun _=>rfl) ?_
 refine XH (c:=false) (d:=false) (fun _=>rfl) (fun _=>rfl) ?_
 refine XH (c:=false) (fun _=>rfl) (fun _=>QG ..) ?_
 refine Ya2 (c:=decide (c < 0)) (fun _=>rfl) (fun _=>rfl) (fun _=>rfl) (v4:=iv b.cards.length) (q4:=[]) (fun _=>by simp[Zi]) (fun _=>Y1 ..) ?_
 refine YaC (d:=!((b.cards[c.toNat]?).getD default).unit) (fun _=>rfl) (fun _=>rfl) (fun _=>rfl) (v4:=.rptr (cdC ((b.cards[c.toNat]?).getD default)) 0) (q4:=[]) (fun hc=>?_) (fun _=>rfl) (fun _=>ldr (cdLd1 _)) (fun _=>rfl) ?_
 ·have h0:0≤c∧c.toNat < b.cards.length:=by
   have:¬ c < 0∧¬ (b.cards.length:Int)≤c:=by simpa using hc
   omega
  have:=Zbw (((sg4 b s).append [.box (mv4 s)])) cdC false false 12 b.cards .i64 c h0.1 h0.2
  rw[List.getElem?_eq_getElem h0.2]; exact this
 refine YaC (fun _=>rfl) (fun _=>rfl) (fun _=>rfl) (fun _=>rfl) (fun _=>rfl) (v6:=iv s.s0.units.length) (q6:=[]) (fun _=>by simp[Zi]) (fun _=>Y1 ..) ?_
 refine ZaF (fun _=>rfl) (fun _=>rfl) (fun _=>Y1 ..) ?_
 refine Xc (fun h=>?_) (fun h=>?_)
 ·refine Za rfl (Za rfl (Ye rfl rfl (Ye rfl rfl (Yj rfl (Yj rfl ?_)))))
  have hr:Xaq b s 0 c=resX zSt zEv (.bool false):=if_pos h
  rw[hr]
  exact⟨[],resZX rfl⟩
 have hr:Xaq b s 0 c=resX (ZH s 0 c) ⟨2,0,c,s.next,0,0,[]⟩ (.bool true):=if_neg (by rw[Bool.not_eq_true]; exact h)
 have hu:¬ 7≤(s.s0.units.length:Int):=by
  have h':Yam b s 0 c=false:=h
  simp only[Yam,Bool.or_eq_false_iff,decide_eq_false_iff_not] at h'
  exact h'.1.2
 refine Za rfl (Za rfl (Za rfl (Za rfl ?_)))
 refine Xf rfl (Xf rfl (Qh (ld (row:=(mv4 s)) rfl rfl) (Xi _) ?_))
 refine Xf rfl (Qh (ld (row:=stC s) rfl rfl) (Xi _) (Xf rfl ?_))
 refine Qh (v:=.sl 16 0 1 true) (rd:=[]) (up:=[(16,.rows 4 [thC (⟨s.next,c,0,true⟩:Th)])]) rfl rfl ?_
 refine Qh (v:=.sl 17 0 (s.s0.units.length + 1) false) (rd:=[16]) (up:=[(8,.dead),(17,.rows 4 ((s.s0.units ++ [(⟨s.next,c,0,true⟩:Th)]).map thC))]) ?_ rfl ?_
 ·have:=XJ 4 32 (σ:=((sg4 b s).append [.box (mv4 s),.rows 4 [thC (⟨s.next,c,0,true⟩:Th)]])) (b:=8) (c:=16) (len:=s.s0.units.length) (ex:=false) (rs:=s.s0.units.map thC) (row:=thC (⟨s.next,c,0,true⟩:Th)) rfl rfl (by simp) rfl (by omega)
  rw[show (s.s0.units ++ [(⟨s.next,c,0,true⟩:Th)]).map thC=s.s0.units.map thC ++ [thC (⟨s.next,c,0,true⟩:Th)] by simp]; exact this
 refine Xf rfl (Xf rfl (Qh (v:=.junk) (rd:=[]) (up:=[(15,.box ((mv4 s).set 14 (.sl 17 0 (s.s0.units.length + 1) false)))]) rfl rfl ?_))
 refine Yy (by kernel_rfl) ?_
 refine Za rfl (Za rfl (Za rfl (Za (ld (row:=((mv4 s).set 14 (.sl 17 0 (s.s0.units.length + 1) false))) rfl rfl) (Za (Yn ..) ?_))))
 rw[hw]
 refine Za rfl (Za rfl (Za rfl (Ye (v:=.junk) (rd:=[]) (up:=[(15,.box (((mv4 s).set 7 (iv (s.next + 1))).set 14 (.sl 17 0 (s.s0.units.length + 1) false)))]) rfl rfl ?_)))
 refine Xf rfl (Xf rfl (Qh (ld (row:=(((mv4 s).set 7 (iv (s.next + 1))).set 14 (.sl 17 0 (s.s0.units.length + 1) false))) rfl rfl) (Xi _) ?_))
 refine Xf rfl (Qh (ld (row:=stC s) rfl rfl) (Xi _) (Xf rfl ?_))
 refine Qh (v:=.junk) (rd:=[]) (up:=[(2,.box (((st4 s).set 6 (iv (s.next + 1))).set 13 (.sl 17 0 (s.s0.units.length + 1) false)))]) rfl rfl ?_
 refine Qh (v:=.junk) (rd:=[]) (up:=[(3,.box [iv8 2,iv 0,iv c,iv s.next,iv 0,iv 0,.nils])]) rfl rfl ?_
 refine Yy (by kernel_rfl) (Yj rfl (Yj rfl ?_))
 refine⟨List.range 18,?_⟩
 rw[hr]
 refine resXB (cs:=(((st4 s).set 6 (iv (s.next + 1))).set 13 (.sl 17 0 (s.s0.units.length + 1) false))) (s:=ZH s 0 c) ?_ (evB (e:=⟨2,0,c,s.next,0,0,[]⟩) RI.nils) rfl
 refine SB.mk (rd:=List.range 18) (s:=ZH s 0 c) ?_ ?_ ?_ ?_ ?_ ?_ ?_ ?_ ?_ ?_ ?_ <;> first | exact RI.own rfl (by decide) rfl | exact RT.own rfl (by decide) rfl | exact RT.own (l:=s.s0.units ++ [(⟨s.next,c,0,true⟩:Th)]) rfl (by decide) (by simp)
theorem c21_1(b:Bk)(hf:bkFit b=true)(hsm:Yt b.cards)(s:St)(hs:StLe 2000000 s)(hm:mayR (bkR b).1 b s true=true)(c:Int):PCall prog GL0 21 [bkV b,stV s,iv 1,iv c] (Xaq b s 1 c):=by
 have hfac:=Ys hm
 have hw:IntKind.i64.wrap (s.next + 1)=s.next + 1:=IntWalk.i64_in _ (by omega)
 refine Xw hP g21_ok rfl ?_
 unfold g21
 refine Ye (v:=.bptr 0 0) (rd:=[]) (up:=[(0,.box (bkC b))]) rfl rfl ?_
 refine Ye (v:=.bptr 1 0) (rd:=[]) (up:=[(1,.box (stC s))]) rfl rfl ?_
 refine Ye (v:=.bptr 2 0) (rd:=[]) (up:=[(2,.box zStC)]) rfl rfl ?_
 refine Ye (v:=.bptr 3 0) (rd:=[]) (up:=[(3,.box zEvC)]) rfl rfl ?_
 refine c56n b hf hsm s (hs.mono (by decide)) (n0:=4) (n:=15) rfl rfl rfl rfl (fun h=>by rw[hm] at h; cases h) (fun _=>?_)
 refine Za rfl ?_
 refine XH (c:=false) (d:=false) (fun _=>rfl) (fun _=>rfl) ?_
 refine XH (c:=false) (d:=false) (fun _=>rfl) (fun _=>rfl) ?_
 refine XH (c:=false) (fun _=>rfl) (fun _=>QG ..) ?_
 refine Ya2 (c:=decide (c < 0)) (fun _=>rfl) (fun _=>rfl) (fun _=>rfl) (v4:=iv b.cards.length) (q4:=[]) (fun _=>by simp[Zi]) (fun _=>Y1 ..) ?_
 refine YaC (d:=!((b.cards[c.toNat]?).getD default).unit) (fun _=>rfl) (fun _=>rfl) (fun _=>rfl) (v4:=.rptr (cdC ((b.cards[c.toNat]?).getD default)) 0) (q4:=[]) (fun hc=>?_) (fun _=>rfl) (fun _=>ldr (cdLd1 _)) (fun _=>rfl) ?_
 ·have h0:0≤c∧c.toNat < b.cards.length:=by
   have:¬ c < 0∧¬ (b.cards.length:Int)≤c:=by simpa using hc
   omega
  have:=Zbw (((sg4 b s).append [.box (mv4 s)])) cdC false false 12 b.cards .i64 c h0.1 h0.2
  rw[List.getElem?_eq_getElem h0.2]; exact this
 refine YaC (fun _=>rfl) (fun _=>rfl) (fun _=>rfl) (fun _=>rfl) (fun _=>rfl) (v6:=iv s.s1.units.length) (q6:=[]) (fun _=>by simp[Zi]) (fun _=>Y1 ..) ?_
 refine ZaF (fun _=>rfl) (fun _=>rfl) (fun _=>Y1 ..) ?_
 refine Xc (fun h=>?_) (fun h=>?_)
 ·refine Za rfl (Za rfl (Ye rfl rfl (Ye rfl rfl (Yj rfl (Yj rfl ?_)))))
  have hr:Xaq b s 1 c=resX zSt zEv (.bool false):=if_pos h
  rw[hr]
  exact⟨[],resZX rfl⟩
 have hr:Xaq b s 1 c=resX (ZH s 1 c) ⟨2,1,c,s.next,0,0,[]⟩ (.bool true):=if_neg (by rw[Bool.not_eq_true]; exact h)
 have hu:¬ 7≤(s.s1.units.length:Int):=by
  have h':Yam b s 1 c=false:=h
  simp only[Yam,Bool.or_eq_false_iff,decide_eq_false_iff_not] at h'
  exact h'.1.2
 refine Za rfl (Za rfl (Za rfl (Za rfl ?_)))
 refine Xf rfl (Xf rfl (Qh (ld (row:=(mv4 s)) rfl rfl) (Xi _) ?_))
 refine Xf rfl (Qh (ld (row:=stC s) rfl rfl) (Xi _) (Xf rfl ?_))
 refine Qh (v:=.sl 16 0 1 true) (rd:=[]) (up:=[(16,.rows 4 [thC (⟨s.next,c,0,true⟩:Th)])]) rfl rfl ?_
 refine Qh (v:=.sl 17 0 (s.s1.units.length + 1) false) (rd:=[16]) (up:=[(13,.dead),(17,.rows 4 ((s.s1.units ++ [(⟨s.next,c,0,true⟩:Th)]).map thC))]) ?_ rfl ?_
 ·have:=XJ 4 32 (σ:=((sg4 b s).append [.box (mv4 s),.rows 4 [thC (⟨s.next,c,0,true⟩:Th)]])) (b:=13) (c:=16) (len:=s.s1.units.length) (ex:=false) (rs:=s.s1.units.map thC) (row:=thC (⟨s.next,c,0,true⟩:Th)) rfl rfl (by simp) rfl (by omega)
  rw[show (s.s1.units ++ [(⟨s.next,c,0,true⟩:Th)]).map thC=s.s1.units.map thC ++ [thC (⟨s.next,c,0,true⟩:Th)] by simp]; exact this
 refine Xf rfl (Xf rfl (Qh (v:=.junk) (rd:=[]) (up:=[(15,.box ((mv4 s).set 22 (.sl 17 0 (s.s1.units.length + 1) false)))]) rfl rfl ?_))
 refine Yy (by kernel_rfl) ?_
 refine Za rfl (Za rfl (Za rfl (Za (ld (row:=((mv4 s).set 22 (.sl 17 0 (s.s1.units.length + 1) false))) rfl rfl) (Za (Yn ..) ?_))))
 rw[hw]
 refine Za rfl (Za rfl (Za rfl (Ye (v:=.junk) (rd:=[]) (up:=[(15,.box (((mv4 s).set 7 (iv (s.next + 1))).set 22 (.sl 17 0 (s.s1.units.length + 1) false)))]) rfl rfl ?_)))
 refine Xf rfl (Xf rfl (Qh (ld (row:=(((mv4 s).set 7 (iv (s.next + 1))).set 22 (.sl 17 0 (s.s1.units.length + 1) false))) rfl rfl) (Xi _) ?_))
 refine Xf rfl (Qh (ld (row:=stC s) rfl rfl) (Xi _) (Xf rfl ?_))
 refine Qh (v:=.junk) (rd:=[]) (up:=[(2,.box (((st4 s).set 6 (iv (s.next + 1))).set 21 (.sl 17 0 (s.s1.units.length + 1) false)))]) rfl rfl ?_
 refine Qh (v:=.junk) (rd:=[]) (up:=[(3,.box [iv8 2,iv 1,iv c,iv s.next,iv 0,iv 0,.nils])]) rfl rfl ?_
 refine Yy (by kernel_rfl) (Yj rfl (Yj rfl ?_))
 refine⟨List.range 18,?_⟩
 rw[hr]
 refine resXB (cs:=(((st4 s).set 6 (iv (s.next + 1))).set 21 (.sl 17 0 (s.s1.units.length + 1) false))) (s:=ZH s 1 c) ?_ (evB (e:=⟨2,1,c,s.next,0,0,[]⟩) RI.nils) rfl
 refine SB.mk (rd:=List.range 18) (s:=ZH s 1 c) ?_ ?_ ?_ ?_ ?_ ?_ ?_ ?_ ?_ ?_ ?_ <;> first | exact RI.own rfl (by decide) rfl | exact RT.own rfl (by decide) rfl | exact RT.own (l:=s.s1.units ++ [(⟨s.next,c,0,true⟩:Th)]) rfl (by decide) (by simp)
end Go.Ah.Tz
end
section
namespace Go.Ah.Tz
open Go.Proofs.Tryz (prog)
attribute [local irreducible] Ans.rd Ans.pu Ans.wr Ans.dr Ans.gr Ans.gw Ans.gl Ans.gd Ans.opt joinK W
set_option maxHeartbeats 4000000
theorem c118(l:List Th)(hl:l.length≤1000000000)(id:FuncId)(fs cs:List AVal)(hp:Zk prog id=true)(f:Th→Bool)(hc:∀ x∈l,PCall prog GL0 id (fs ++ [.agg (thC x)] ++ cs) (.bool (f x)))(hr:∀ x,roL (fs ++ [.agg (thC x)] ++ cs)=true) :
  PCall prog GL0 118 [thV l,.func (.func id) fs cs] (iv (idxF f l 0)):=by
 refine Zf hP g118_ok rfl rfl ?_
 unfold g118
 refine Za (v:=iv l.length) (rd:=[]) (by simp[Zi]) ?_
 refine Xm (ι:=Nat) (fun i vs s=>vs=[iv i]∧i≤l.length∧idxF f l 0=idxF f (l.drop i) i) (fun i=>l.length - i) 0 ⟨rfl,by omega,by simp⟩ ?_
 rintro i vs s again ⟨rfl,hi,hr'⟩ hag
 refine Za rfl (Xc (fun h=>?_) (fun h=>?_))
 ·have h:i < l.length:=by simpa using h
  refine Za (Qo _ thC _ _ _ l _ i h) (Za (ldr rfl) ?_)
  refine Zd (hc _ (List.getElem_mem h)) rfl hp (hr _) ?_
  rw[List.drop_eq_getElem_cons h,idxF] at hr'
  refine Xc (fun h2=>?_) (fun h2=>?_)
  ·rw[if_pos h2] at hr'; rw[hr']; rfl
  ·rw[if_neg (by rw[h2]; simp)] at hr'
   refine Za (Yn ..) ?_
   rw[Zh (n:=i) (by omega)]
   exact hag (i + 1) _ _ (by omega) ⟨rfl,by omega,by rw[hr']; push_cast; rfl⟩
 ·have h:i=l.length:=by simp at h; omega
  subst h
  rw[List.drop_length,idxF] at hr'
  rw[hr']
theorem c119(u:Th)(id:Int):PCall prog GL0 119 [.agg (thC u),.rptr [iv id] 0] (.bool (decide (u.id=id))):=by
 refine Zf hP g119_ok rfl rfl ?_
 unfold g119
 exact Ye rfl rfl (Za rfl (Za (ld rfl rfl) (Za rfl (Za (Zg ..) rfl))))
theorem Qbp(id:Int):∀ (l:List Th) (n:Int),idxF (fun u:Th=>decide (u.id=id)) l n=match fnd l id with
  | some k=>n + k
  | none=>-1
 | [],n=>rfl
 | u :: l,n=>by
  have ih:=Qbp id l (n + 1)
  simp only[idxF,fnd,List.findIdx?_cons] at ih ⊢
  by_cases h:u.id=id
  ·simp[h]
  ·simp only[decide_eq_false h,Bool.false_eq_true,if_false,ih]
   cases List.findIdx? (fun u=>decide (u.id=id)) l with
   | none=>rfl
   | some k=>show n + 1 + (k:Int)=n + ((k + 1:Nat):Int); omega
theorem c71(s:St)(hs:StLe 1000000000 s)(id:Int):PCall prog GL0 71 [stV s,iv id] (unitV s id):=by
 have h0:=c118 s.s0.units hs.s0.units 119 [] [.rptr [iv id] 0] g119_ok.plain (fun u=>decide (u.id=id)) (fun x _=>c119 x id) (fun x=>rfl)
 have h1:=c118 s.s1.units hs.s1.units 119 [] [.rptr [iv id] 0] g119_ok.plain (fun u=>decide (u.id=id)) (fun x _=>c119 x id) (fun x=>rfl)
 have w1:IntKind.i64.wrap (0 + 1)=1:=by decide
 have w2:IntKind.i64.wrap (1 + 1)=2:=by decide
 rw[Qbp] at h0 h1
 refine Zf hP g71_ok rfl rfl ?_
 unfold g71
 refine Ye rfl rfl (Ye rfl rfl ?_)
 refine QA 3 (Qj ?_)
 refine Za rfl (Xe (Za rfl (Za rfl (Za rfl (Za rfl (Za rfl ?_))))))
 refine Yz h0 rfl g118_ok.plain rfl rfl ?_
 simp only[unitV,unitR]
 cases q0:fnd s.s0.units id with
 | some k=>
  simp only[q0]
  refine Za (Y1 ..) ?_
  rw[decide_eq_true (by omega)]
  exact Xe (by simp)
 | none=>
  simp only[q0]
  refine Za rfl (Yh (Za rfl ?_))
  rw[w1]
  refine Qj ?_
  refine Za rfl (Xe (Za rfl (Za rfl (Za rfl (Za rfl (Za rfl ?_))))))
  refine Yz h1 rfl g118_ok.plain rfl rfl ?_
  cases q1:fnd s.s1.units id with
  | some k=>
   simp only[q1]
   refine Za (Y1 ..) ?_
   rw[decide_eq_true (by omega)]
   exact Xe (by simp)
  | none=>
   simp only[q1]
   refine Za rfl (Yh (Za rfl ?_))
   rw[w2]
   refine Qj ?_
   exact Za rfl (Yh (by simp))
def YaS(b:Bk)(c:Int):Int:=((b.cards[c.toNat]?).getD default).shield
def hurt(b:Bk)(u:Th)(n:Int):Int:=max (IntKind.i64.wrap (n - YaS b u.card)) 0
theorem cdLd5(x:Cd):partA false 5 1 (cdC x)=some (iv x.shield):=rfl
theorem c66n(m:List AVal)(life n:Int):PCall prog GL0 66 [.rptr m 0,.nilp,iv life,iv n] (.tup [iv (IntKind.i64.wrap (life - n)),iv n]):=by
 refine Zf hP g66_ok rfl rfl ?_
 unfold g66
 exact Za rfl (Yh (Za (Xb9 ..) rfl))
theorem c66u(b:Bk)(m:List AVal)(u:Th)(life n:Int)(h0:0≤u.card)(h1:u.card.toNat < b.cards.length):PCall prog GL0 66 [.rptr (.rptr (bkC b) 0 :: m) 0,.rptr (thC u) 0,iv life,iv n] (.tup [iv (IntKind.i64.wrap (u.harm + hurt b u n)),iv (hurt b u n)]):=by
 refine Zf hP g66_ok rfl rfl ?_
 unfold g66
 refine Za rfl (Xe (Za rfl (Za rfl (Za (ldr rfl) (Za rfl (Za rfl (Za (ldr rfl) (Za rfl (Za rfl (Za (ldr rfl) ?_))))))))))
 have hx:=Zbw [] cdC false false 12 b.cards .i64 u.card h0 h1
 refine Za hx (Za rfl (Za (ldr (cdLd5 _)) (Za (Xb9 ..) (Za (ZaN ..) ?_))))
 refine Za rfl (Za rfl (Za (ldr rfl) (Za (Yn ..) ?_)))
 have:YaS b u.card=(b.cards[u.card.toNat]).shield:=by simp[YaS,List.getElem?_eq_getElem h1]
 rw[hurt,this]
end Go.Ah.Tz
end
