/- Part of the proof that GameBegins holds of the program for arguments that together hold at most 1048576 values and letters; no other condition. -/
import Derived.Test.YtndbfoldjmppfaaGreatDoorZ3
import Derived.Sort.OwnSortedInts
import Derived.Recover
set_option linter.all false
section
namespace Go.Ah.Tz
open Go.Proofs.Tryz (prog)
def zeroB(x:Ef):Bool:=((cntOp x.op||noNum x.n)&&(decide (x.op=7)||x.name==[]))&&(decide (x.op=8)||(decide (x.c.op=0)&&(decide (x.c.who=0)&&(x.c.name==[]&&decide (x.c.nums.length+x.c.kids.length+x.thn.length+x.els.length=0)))))
attribute [local irreducible] Ans.rd Ans.pu Ans.wr Ans.dr Ans.gr Ans.gw Ans.gl Ans.gd Ans.opt joinK W
set_option maxHeartbeats 2000000
theorem c209(x:Ef)(hf:efFit x=true):PC 178 [.rptr (efC x) 0] (.bool (zeroB x)):=by
 have l1:=YM (X0 hf);have l2:=ZM (X0 hf);have l3:=Xz (YJ hf);have l4:=Xz (ZJ hf);rw[bigE] at l1 l2 l3 l4;rw[ZI];refine Yc hP g178.ok rfl rfl ?_;rw[H1.e]; unfold g178; dsimp only;repeat first|refine Za (Yd ..) ?_|refine Za (Xd ..) ?_|refine Za (ldr (row:=[iv8 x.op,iv8 x.who,iv8 x.n.op,iv x.n.n,iv8 x.n.who,.rsl false false 4 (x.n.kids.map nmC),.str x.name,iv8 x.c.op,iv8 x.c.who,.str x.c.name,.rsl false false 4 (x.c.nums.map nmC),.rsl false false 5 (x.c.kids.map cnC),.rsl false false 14 (x.thn.map efC),.rsl false false 14 (x.els.map efC)]) rfl) ?_|refine Za rfl ?_
 refine Xb (c210 _) rfl g179.ok.plain rfl ?_;have r1:∀K:AVal→Prop,K (.bool (cntOp x.op||noNum x.n))→VV.gr (AVal.bool (cntOp x.op)) false (λk=>VV.rd (Qab [(AVal.rptr [iv8 x.op,iv8 x.who,iv8 x.n.op,iv x.n.n,iv8 x.n.who,.rsl false false 4 (x.n.kids.map nmC),.str x.name,iv8 x.c.op,iv8 x.c.who,.str x.c.name,.rsl false false 4 (x.c.nums.map nmC),.rsl false false 5 (x.c.kids.map cnC),.rsl false false 14 (x.thn.map efC),.rsl false false 14 (x.els.map efC)] 0)] ([]:List ABlk)) k) λt13_4=>VV.gr (AVal.bool (cntOp x.op)) false (λk=>VV.rd (Zi [t13_4] ([]:List ABlk)) k) λt14_5=>VV.gr (AVal.bool (cntOp x.op)) false (λk=>VV.rd (Ye 2 [t14_5] ([]:List ABlk)) k) λt15_6=>VV.gr (AVal.bool (cntOp x.op)) false (λk=>VV.rd (Ye 0 [t15_6] ([]:List ABlk)) k) λt16_7=>VV.gr (AVal.bool (cntOp x.op)) false (λk=>VV.rd (Qk false 1 [t16_7] ([]:List ABlk)) k) λt17_8=>VV.gr (AVal.bool (cntOp x.op)) false (λk=>VV.rd (Yn .eql false [t17_8,(.int .i8 0)] ([]:List ABlk)) k) λt18_9=>VV.gr (AVal.bool (cntOp x.op)) false (λk=>VV.rd (Qab [t18_9] ([]:List ABlk)) k) λt19_10=>VV.gr t19_10 true (λk=>VV.rd (Qab [(AVal.rptr [iv8 x.op,iv8 x.who,iv8 x.n.op,iv x.n.n,iv8 x.n.who,.rsl false false 4 (x.n.kids.map nmC),.str x.name,iv8 x.c.op,iv8 x.c.who,.str x.c.name,.rsl false false 4 (x.c.nums.map nmC),.rsl false false 5 (x.c.kids.map cnC),.rsl false false 14 (x.thn.map efC),.rsl false false 14 (x.els.map efC)] 0)] ([]:List ABlk)) k) λt20_11=>VV.gr t19_10 true (λk=>VV.rd (Zi [t20_11] ([]:List ABlk)) k) λt21_12=>VV.gr t19_10 true (λk=>VV.rd (Ye 2 [t21_12] ([]:List ABlk)) k) λt22_13=>VV.gr t19_10 true (λk=>VV.rd (Ye 1 [t22_13] ([]:List ABlk)) k) λt23_14=>VV.gr t19_10 true (λk=>VV.rd (Qk false 1 [t23_14] ([]:List ABlk)) k) λt24_15=>VV.gr t19_10 true (λk=>VV.rd (Yn .eql false [t24_15,(.int .i64 0)] ([]:List ABlk)) k) λt25_16=>VV.gr (AVal.bool (cntOp x.op)) false (λk=>VV.rd (Zk [t19_10,t25_16,(.bool false)] ([]:List ABlk)) k) λt26_17=>VV.gr (AVal.bool (cntOp x.op)) false (λk=>VV.rd (Qab [t26_17] ([]:List ABlk)) k) λt27_18=>VV.gr t27_18 true (λk=>VV.rd (Qab [(AVal.rptr [iv8 x.op,iv8 x.who,iv8 x.n.op,iv x.n.n,iv8 x.n.who,.rsl false false 4 (x.n.kids.map nmC),.str x.name,iv8 x.c.op,iv8 x.c.who,.str x.c.name,.rsl false false 4 (x.c.nums.map nmC),.rsl false false 5 (x.c.kids.map cnC),.rsl false false 14 (x.thn.map efC),.rsl false false 14 (x.els.map efC)] 0)] ([]:List ABlk)) k) λt28_19=>VV.gr t27_18 true (λk=>VV.rd (Zi [t28_19] ([]:List ABlk)) k) λt29_20=>VV.gr t27_18 true (λk=>VV.rd (Ye 2 [t29_20] ([]:List ABlk)) k) λt30_21=>VV.gr t27_18 true (λk=>VV.rd (Ye 2 [t30_21] ([]:List ABlk)) k) λt31_22=>VV.gr t27_18 true (λk=>VV.rd (Qk false 1 [t31_22] ([]:List ABlk)) k) λt32_23=>VV.gr t27_18 true (λk=>VV.rd (Yn .eql false [t32_23,(.int .i8 0)] ([]:List ABlk)) k) λt33_24=>VV.gr (AVal.bool (cntOp x.op)) false (λk=>VV.rd (Zk [t27_18,t33_24,(.bool false)] ([]:List ABlk)) k) λt34_25=>VV.gr (AVal.bool (cntOp x.op)) false (λk=>VV.rd (Qab [t34_25] ([]:List ABlk)) k) λt35_26=>VV.gr t35_26 true (λk=>VV.rd (Qab [(AVal.rptr [iv8 x.op,iv8 x.who,iv8 x.n.op,iv x.n.n,iv8 x.n.who,.rsl false false 4 (x.n.kids.map nmC),.str x.name,iv8 x.c.op,iv8 x.c.who,.str x.c.name,.rsl false false 4 (x.c.nums.map nmC),.rsl false false 5 (x.c.kids.map cnC),.rsl false false 14 (x.thn.map efC),.rsl false false 14 (x.els.map efC)] 0)] ([]:List ABlk)) k) λt36_27=>VV.gr t35_26 true (λk=>VV.rd (Zi [t36_27] ([]:List ABlk)) k) λt37_28=>VV.gr t35_26 true (λk=>VV.rd (Ye 2 [t37_28] ([]:List ABlk)) k) λt38_29=>VV.gr t35_26 true (λk=>VV.rd (Ye 3 [t38_29] ([]:List ABlk)) k) λt39_30=>VV.gr t35_26 true (λk=>VV.rd (Qk false 1 [t39_30] ([]:List ABlk)) k) λt40_31=>VV.gr t35_26 true (λk=>VV.rd (Xo [t40_31] ([]:List ABlk)) k) λt41_32=>VV.gr t35_26 true (λk=>VV.rd (Yn .eql false [t41_32,(.int .i64 0)] ([]:List ABlk)) k) λt42_33=>VV.gr (AVal.bool (cntOp x.op)) false (λk=>VV.rd (Zk [t35_26,t42_33,(.bool false)] ([]:List ABlk)) k) λt43_34=>VV.rd (Zk [(AVal.bool (cntOp x.op)),(.bool true),t43_34] ([]:List ABlk)) K:=by
  intro K hK;rcases YBE (cntOp x.op) with h0|h0
  ·rw[h0] at hK ⊢;repeat first|refine Ya ?_|refine Xa ?_|refine Qa rfl ?_|refine Yb rfl ?_|refine Qb rfl ?_|refine Zc rfl ?_|refine Za (Yd ..) ?_|refine Za (Xd ..) ?_|refine Za (ldr (row:=[iv8 x.op,iv8 x.who,iv8 x.n.op,iv x.n.n,iv8 x.n.who,.rsl false false 4 (x.n.kids.map nmC),.str x.name,iv8 x.c.op,iv8 x.c.who,.str x.c.name,.rsl false false 4 (x.c.nums.map nmC),.rsl false false 5 (x.c.kids.map cnC),.rsl false false 14 (x.thn.map efC),.rsl false false 14 (x.els.map efC)]) rfl) ?_|refine Za rfl ?_
   exact hK
  rw[h0,Bool.false_or] at hK;rw[h0];repeat first|refine Ya ?_|refine Xa ?_|refine Za (Yd ..) ?_|refine Za (Xd ..) ?_|refine Za (ldr (row:=[iv8 x.op,iv8 x.who,iv8 x.n.op,iv x.n.n,iv8 x.n.who,.rsl false false 4 (x.n.kids.map nmC),.str x.name,iv8 x.c.op,iv8 x.c.who,.str x.c.name,.rsl false false 4 (x.c.nums.map nmC),.rsl false false 5 (x.c.kids.map cnC),.rsl false false 14 (x.thn.map efC),.rsl false false 14 (x.els.map efC)]) rfl) ?_|refine Za rfl ?_
  rcases YBE (decide (x.n.op=0)) with h1|h1
  rotate_left
  ·rw[h1];repeat first|refine Ya ?_|refine Xa ?_|refine Qa rfl ?_|refine Yb rfl ?_|refine Qb rfl ?_|refine Zc rfl ?_|refine Za (Yd ..) ?_|refine Za (Xd ..) ?_|refine Za (ldr (row:=[iv8 x.op,iv8 x.who,iv8 x.n.op,iv x.n.n,iv8 x.n.who,.rsl false false 4 (x.n.kids.map nmC),.str x.name,iv8 x.c.op,iv8 x.c.who,.str x.c.name,.rsl false false 4 (x.c.nums.map nmC),.rsl false false 5 (x.c.kids.map cnC),.rsl false false 14 (x.thn.map efC),.rsl false false 14 (x.els.map efC)]) rfl) ?_|refine Za rfl ?_
   simp_all [noNum]
  rw[h1];repeat first|refine Ya ?_|refine Xa ?_|refine Za (Yd ..) ?_|refine Za (Xd ..) ?_|refine Za (ldr (row:=[iv8 x.op,iv8 x.who,iv8 x.n.op,iv x.n.n,iv8 x.n.who,.rsl false false 4 (x.n.kids.map nmC),.str x.name,iv8 x.c.op,iv8 x.c.who,.str x.c.name,.rsl false false 4 (x.c.nums.map nmC),.rsl false false 5 (x.c.kids.map cnC),.rsl false false 14 (x.thn.map efC),.rsl false false 14 (x.els.map efC)]) rfl) ?_|refine Za rfl ?_
  rcases YBE (decide (x.n.n=0)) with h2|h2
  rotate_left
  ·rw[h2];repeat first|refine Ya ?_|refine Xa ?_|refine Qa rfl ?_|refine Yb rfl ?_|refine Qb rfl ?_|refine Zc rfl ?_|refine Za (Yd ..) ?_|refine Za (Xd ..) ?_|refine Za (ldr (row:=[iv8 x.op,iv8 x.who,iv8 x.n.op,iv x.n.n,iv8 x.n.who,.rsl false false 4 (x.n.kids.map nmC),.str x.name,iv8 x.c.op,iv8 x.c.who,.str x.c.name,.rsl false false 4 (x.c.nums.map nmC),.rsl false false 5 (x.c.kids.map cnC),.rsl false false 14 (x.thn.map efC),.rsl false false 14 (x.els.map efC)]) rfl) ?_|refine Za rfl ?_
   simp_all [noNum]
  rw[h2];repeat first|refine Ya ?_|refine Xa ?_|refine Za (Yd ..) ?_|refine Za (Xd ..) ?_|refine Za (ldr (row:=[iv8 x.op,iv8 x.who,iv8 x.n.op,iv x.n.n,iv8 x.n.who,.rsl false false 4 (x.n.kids.map nmC),.str x.name,iv8 x.c.op,iv8 x.c.who,.str x.c.name,.rsl false false 4 (x.c.nums.map nmC),.rsl false false 5 (x.c.kids.map cnC),.rsl false false 14 (x.thn.map efC),.rsl false false 14 (x.els.map efC)]) rfl) ?_|refine Za rfl ?_
  rcases YBE (decide (x.n.who=0)) with h3|h3
  rotate_left
  ·rw[h3];repeat first|refine Ya ?_|refine Xa ?_|refine Qa rfl ?_|refine Yb rfl ?_|refine Qb rfl ?_|refine Zc rfl ?_|refine Za (Yd ..) ?_|refine Za (Xd ..) ?_|refine Za (ldr (row:=[iv8 x.op,iv8 x.who,iv8 x.n.op,iv x.n.n,iv8 x.n.who,.rsl false false 4 (x.n.kids.map nmC),.str x.name,iv8 x.c.op,iv8 x.c.who,.str x.c.name,.rsl false false 4 (x.c.nums.map nmC),.rsl false false 5 (x.c.kids.map cnC),.rsl false false 14 (x.thn.map efC),.rsl false false 14 (x.els.map efC)]) rfl) ?_|refine Za rfl ?_
   simp_all [noNum]
  rw[h3];repeat first|refine Ya ?_|refine Xa ?_|refine Za (Yd ..) ?_|refine Za (Xd ..) ?_|refine Za (ldr (row:=[iv8 x.op,iv8 x.who,iv8 x.n.op,iv x.n.n,iv8 x.n.who,.rsl false false 4 (x.n.kids.map nmC),.str x.name,iv8 x.c.op,iv8 x.c.who,.str x.c.name,.rsl false false 4 (x.c.nums.map nmC),.rsl false false 5 (x.c.kids.map cnC),.rsl false false 14 (x.thn.map efC),.rsl false false 14 (x.els.map efC)]) rfl) ?_|refine Za rfl ?_
  have e:noNum x.n=decide (((x.n.kids.map nmC).length:Int)=0):=by
   simp[h1,h2,h3,noNum]
  rw[e] at hK;exact hK
 refine r1 _ ?_;clear r1;repeat first|refine Za (Yd ..) ?_|refine Za (Xd ..) ?_|refine Za (ldr (row:=[iv8 x.op,iv8 x.who,iv8 x.n.op,iv x.n.n,iv8 x.n.who,.rsl false false 4 (x.n.kids.map nmC),.str x.name,iv8 x.c.op,iv8 x.c.who,.str x.c.name,.rsl false false 4 (x.c.nums.map nmC),.rsl false false 5 (x.c.kids.map cnC),.rsl false false 14 (x.thn.map efC),.rsl false false 14 (x.els.map efC)]) rfl) ?_|refine Za rfl ?_
 have r2:∀K:AVal→Prop,K (.bool (decide (x.op=7)||x.name==[]))→VV.gr (AVal.bool (decide (x.op=7))) false (λk=>VV.rd (Qab [(AVal.rptr [iv8 x.op,iv8 x.who,iv8 x.n.op,iv x.n.n,iv8 x.n.who,.rsl false false 4 (x.n.kids.map nmC),.str x.name,iv8 x.c.op,iv8 x.c.who,.str x.c.name,.rsl false false 4 (x.c.nums.map nmC),.rsl false false 5 (x.c.kids.map cnC),.rsl false false 14 (x.thn.map efC),.rsl false false 14 (x.els.map efC)] 0)] ([]:List ABlk)) k) λt51_40=>VV.gr (AVal.bool (decide (x.op=7))) false (λk=>VV.rd (Zi [t51_40] ([]:List ABlk)) k) λt52_41=>VV.gr (AVal.bool (decide (x.op=7))) false (λk=>VV.rd (Ye 6 [t52_41] ([]:List ABlk)) k) λt53_42=>VV.gr (AVal.bool (decide (x.op=7))) false (λk=>VV.rd (Qk false 1 [t53_42] ([]:List ABlk)) k) λt54_43=>VV.gr (AVal.bool (decide (x.op=7))) false (λk=>VV.rd (Yn .eql false [t54_43,(.str [])] ([]:List ABlk)) k) λt55_44=>VV.rd (Zk [(AVal.bool (decide (x.op=7))),(.bool true),t55_44] ([]:List ABlk)) K:=by
  intro K hK;rcases YBE (decide (x.op=7)) with h0|h0
  ·rw[h0] at hK ⊢;repeat first|refine Ya ?_|refine Xa ?_|refine Qa rfl ?_|refine Yb rfl ?_|refine Qb rfl ?_|refine Zc rfl ?_|refine Za (Yd ..) ?_|refine Za (Xd ..) ?_|refine Za (ldr (row:=[iv8 x.op,iv8 x.who,iv8 x.n.op,iv x.n.n,iv8 x.n.who,.rsl false false 4 (x.n.kids.map nmC),.str x.name,iv8 x.c.op,iv8 x.c.who,.str x.c.name,.rsl false false 4 (x.c.nums.map nmC),.rsl false false 5 (x.c.kids.map cnC),.rsl false false 14 (x.thn.map efC),.rsl false false 14 (x.els.map efC)]) rfl) ?_|refine Za rfl ?_
   exact hK
  rw[h0,Bool.false_or] at hK;rw[h0];repeat first|refine Ya ?_|refine Xa ?_|refine Za (Yd ..) ?_|refine Za (Xd ..) ?_|refine Za (ldr (row:=[iv8 x.op,iv8 x.who,iv8 x.n.op,iv x.n.n,iv8 x.n.who,.rsl false false 4 (x.n.kids.map nmC),.str x.name,iv8 x.c.op,iv8 x.c.who,.str x.c.name,.rsl false false 4 (x.c.nums.map nmC),.rsl false false 5 (x.c.kids.map cnC),.rsl false false 14 (x.thn.map efC),.rsl false false 14 (x.els.map efC)]) rfl) ?_|refine Za rfl ?_
  exact hK
 refine r2 _ ?_;clear r2;repeat first|refine Za (Yd ..) ?_|refine Za (Xd ..) ?_|refine Za (ldr (row:=[iv8 x.op,iv8 x.who,iv8 x.n.op,iv x.n.n,iv8 x.n.who,.rsl false false 4 (x.n.kids.map nmC),.str x.name,iv8 x.c.op,iv8 x.c.who,.str x.c.name,.rsl false false 4 (x.c.nums.map nmC),.rsl false false 5 (x.c.kids.map cnC),.rsl false false 14 (x.thn.map efC),.rsl false false 14 (x.els.map efC)]) rfl) ?_|refine Za rfl ?_
 have r3:∀K:AVal→Prop,K (.bool (decide (x.op=8)||(decide (x.c.op=0)&&(decide (x.c.who=0)&&(x.c.name==[]&&decide (x.c.nums.length+x.c.kids.length+x.thn.length+x.els.length=0))))))→VV.gr (AVal.bool (decide (x.op=8))) false (λk=>VV.rd (Qab [(AVal.rptr [iv8 x.op,iv8 x.who,iv8 x.n.op,iv x.n.n,iv8 x.n.who,.rsl false false 4 (x.n.kids.map nmC),.str x.name,iv8 x.c.op,iv8 x.c.who,.str x.c.name,.rsl false false 4 (x.c.nums.map nmC),.rsl false false 5 (x.c.kids.map cnC),.rsl false false 14 (x.thn.map efC),.rsl false false 14 (x.els.map efC)] 7)] ([]:List ABlk)) k) λt66_52=>VV.gr (AVal.bool (decide (x.op=8))) false (λk=>VV.rd (Zi [t66_52] ([]:List ABlk)) k) λt67_53=>VV.gr (AVal.bool (decide (x.op=8))) false (λk=>VV.rd (Ye 0 [t67_53] ([]:List ABlk)) k) λt68_54=>VV.gr (AVal.bool (decide (x.op=8))) false (λk=>VV.rd (Qk false 1 [t68_54] ([]:List ABlk)) k) λt69_55=>VV.gr (AVal.bool (decide (x.op=8))) false (λk=>VV.rd (Yn .eql false [t69_55,(.int .i8 0)] ([]:List ABlk)) k) λt70_56=>VV.gr (AVal.bool (decide (x.op=8))) false (λk=>VV.rd (Qab [t70_56] ([]:List ABlk)) k) λt71_57=>VV.gr t71_57 true (λk=>VV.rd (Qab [(AVal.rptr [iv8 x.op,iv8 x.who,iv8 x.n.op,iv x.n.n,iv8 x.n.who,.rsl false false 4 (x.n.kids.map nmC),.str x.name,iv8 x.c.op,iv8 x.c.who,.str x.c.name,.rsl false false 4 (x.c.nums.map nmC),.rsl false false 5 (x.c.kids.map cnC),.rsl false false 14 (x.thn.map efC),.rsl false false 14 (x.els.map efC)] 7)] ([]:List ABlk)) k) λt72_58=>VV.gr t71_57 true (λk=>VV.rd (Zi [t72_58] ([]:List ABlk)) k) λt73_59=>VV.gr t71_57 true (λk=>VV.rd (Ye 1 [t73_59] ([]:List ABlk)) k) λt74_60=>VV.gr t71_57 true (λk=>VV.rd (Qk false 1 [t74_60] ([]:List ABlk)) k) λt75_61=>VV.gr t71_57 true (λk=>VV.rd (Yn .eql false [t75_61,(.int .i8 0)] ([]:List ABlk)) k) λt76_62=>VV.gr (AVal.bool (decide (x.op=8))) false (λk=>VV.rd (Zk [t71_57,t76_62,(.bool false)] ([]:List ABlk)) k) λt77_63=>VV.gr (AVal.bool (decide (x.op=8))) false (λk=>VV.rd (Qab [t77_63] ([]:List ABlk)) k) λt78_64=>VV.gr t78_64 true (λk=>VV.rd (Qab [(AVal.rptr [iv8 x.op,iv8 x.who,iv8 x.n.op,iv x.n.n,iv8 x.n.who,.rsl false false 4 (x.n.kids.map nmC),.str x.name,iv8 x.c.op,iv8 x.c.who,.str x.c.name,.rsl false false 4 (x.c.nums.map nmC),.rsl false false 5 (x.c.kids.map cnC),.rsl false false 14 (x.thn.map efC),.rsl false false 14 (x.els.map efC)] 7)] ([]:List ABlk)) k) λt79_65=>VV.gr t78_64 true (λk=>VV.rd (Zi [t79_65] ([]:List ABlk)) k) λt80_66=>VV.gr t78_64 true (λk=>VV.rd (Ye 2 [t80_66] ([]:List ABlk)) k) λt81_67=>VV.gr t78_64 true (λk=>VV.rd (Qk false 1 [t81_67] ([]:List ABlk)) k) λt82_68=>VV.gr t78_64 true (λk=>VV.rd (Yn .eql false [t82_68,(.str [])] ([]:List ABlk)) k) λt83_69=>VV.gr (AVal.bool (decide (x.op=8))) false (λk=>VV.rd (Zk [t78_64,t83_69,(.bool false)] ([]:List ABlk)) k) λt84_70=>VV.gr (AVal.bool (decide (x.op=8))) false (λk=>VV.rd (Qab [t84_70] ([]:List ABlk)) k) λt85_71=>VV.gr t85_71 true (λk=>VV.rd (Qab [(AVal.rptr [iv8 x.op,iv8 x.who,iv8 x.n.op,iv x.n.n,iv8 x.n.who,.rsl false false 4 (x.n.kids.map nmC),.str x.name,iv8 x.c.op,iv8 x.c.who,.str x.c.name,.rsl false false 4 (x.c.nums.map nmC),.rsl false false 5 (x.c.kids.map cnC),.rsl false false 14 (x.thn.map efC),.rsl false false 14 (x.els.map efC)] 7)] ([]:List ABlk)) k) λt86_72=>VV.gr t85_71 true (λk=>VV.rd (Zi [t86_72] ([]:List ABlk)) k) λt87_73=>VV.gr t85_71 true (λk=>VV.rd (Ye 3 [t87_73] ([]:List ABlk)) k) λt88_74=>VV.gr t85_71 true (λk=>VV.rd (Qk false 1 [t88_74] ([]:List ABlk)) k) λt89_75=>VV.gr t85_71 true (λk=>VV.rd (Xo [t89_75] ([]:List ABlk)) k) λt90_76=>VV.gr t85_71 true (λk=>VV.rd (Qab [(AVal.rptr [iv8 x.op,iv8 x.who,iv8 x.n.op,iv x.n.n,iv8 x.n.who,.rsl false false 4 (x.n.kids.map nmC),.str x.name,iv8 x.c.op,iv8 x.c.who,.str x.c.name,.rsl false false 4 (x.c.nums.map nmC),.rsl false false 5 (x.c.kids.map cnC),.rsl false false 14 (x.thn.map efC),.rsl false false 14 (x.els.map efC)] 7)] ([]:List ABlk)) k) λt91_77=>VV.gr t85_71 true (λk=>VV.rd (Zi [t91_77] ([]:List ABlk)) k) λt92_78=>VV.gr t85_71 true (λk=>VV.rd (Ye 4 [t92_78] ([]:List ABlk)) k) λt93_79=>VV.gr t85_71 true (λk=>VV.rd (Qk false 1 [t93_79] ([]:List ABlk)) k) λt94_80=>VV.gr t85_71 true (λk=>VV.rd (Xo [t94_80] ([]:List ABlk)) k) λt95_81=>VV.gr t85_71 true (λk=>VV.rd (Yn .add false [t90_76,t95_81] ([]:List ABlk)) k) λt96_82=>VV.gr t85_71 true (λk=>VV.rd (Qab [(AVal.rptr [iv8 x.op,iv8 x.who,iv8 x.n.op,iv x.n.n,iv8 x.n.who,.rsl false false 4 (x.n.kids.map nmC),.str x.name,iv8 x.c.op,iv8 x.c.who,.str x.c.name,.rsl false false 4 (x.c.nums.map nmC),.rsl false false 5 (x.c.kids.map cnC),.rsl false false 14 (x.thn.map efC),.rsl false false 14 (x.els.map efC)] 0)] ([]:List ABlk)) k) λt97_83=>VV.gr t85_71 true (λk=>VV.rd (Zi [t97_83] ([]:List ABlk)) k) λt98_84=>VV.gr t85_71 true (λk=>VV.rd (Ye 12 [t98_84] ([]:List ABlk)) k) λt99_85=>VV.gr t85_71 true (λk=>VV.rd (Qk false 1 [t99_85] ([]:List ABlk)) k) λt100_86=>VV.gr t85_71 true (λk=>VV.rd (Xo [t100_86] ([]:List ABlk)) k) λt101_87=>VV.gr t85_71 true (λk=>VV.rd (Yn .add false [t96_82,t101_87] ([]:List ABlk)) k) λt102_88=>VV.gr t85_71 true (λk=>VV.rd (Qab [(AVal.rptr [iv8 x.op,iv8 x.who,iv8 x.n.op,iv x.n.n,iv8 x.n.who,.rsl false false 4 (x.n.kids.map nmC),.str x.name,iv8 x.c.op,iv8 x.c.who,.str x.c.name,.rsl false false 4 (x.c.nums.map nmC),.rsl false false 5 (x.c.kids.map cnC),.rsl false false 14 (x.thn.map efC),.rsl false false 14 (x.els.map efC)] 0)] ([]:List ABlk)) k) λt103_89=>VV.gr t85_71 true (λk=>VV.rd (Zi [t103_89] ([]:List ABlk)) k) λt104_90=>VV.gr t85_71 true (λk=>VV.rd (Ye 13 [t104_90] ([]:List ABlk)) k) λt105_91=>VV.gr t85_71 true (λk=>VV.rd (Qk false 1 [t105_91] ([]:List ABlk)) k) λt106_92=>VV.gr t85_71 true (λk=>VV.rd (Xo [t106_92] ([]:List ABlk)) k) λt107_93=>VV.gr t85_71 true (λk=>VV.rd (Yn .add false [t102_88,t107_93] ([]:List ABlk)) k) λt108_94=>VV.gr t85_71 true (λk=>VV.rd (Yn .eql false [t108_94,(.int .i64 0)] ([]:List ABlk)) k) λt109_95=>VV.gr (AVal.bool (decide (x.op=8))) false (λk=>VV.rd (Zk [t85_71,t109_95,(.bool false)] ([]:List ABlk)) k) λt110_96=>VV.rd (Zk [(AVal.bool (decide (x.op=8))),(.bool true),t110_96] ([]:List ABlk)) K:=by
  intro K hK;rcases YBE (decide (x.op=8)) with h0|h0
  ·rw[h0] at hK ⊢;repeat first|refine Ya ?_|refine Xa ?_|refine Qa rfl ?_|refine Yb rfl ?_|refine Qb rfl ?_|refine Zc rfl ?_|refine Za (Yd ..) ?_|refine Za (Xd ..) ?_|refine Za (ldr (row:=[iv8 x.op,iv8 x.who,iv8 x.n.op,iv x.n.n,iv8 x.n.who,.rsl false false 4 (x.n.kids.map nmC),.str x.name,iv8 x.c.op,iv8 x.c.who,.str x.c.name,.rsl false false 4 (x.c.nums.map nmC),.rsl false false 5 (x.c.kids.map cnC),.rsl false false 14 (x.thn.map efC),.rsl false false 14 (x.els.map efC)]) rfl) ?_|refine Za rfl ?_
   exact hK
  rw[h0,Bool.false_or] at hK;rw[h0];repeat first|refine Ya ?_|refine Xa ?_|refine Za (Yd ..) ?_|refine Za (Xd ..) ?_|refine Za (ldr (row:=[iv8 x.op,iv8 x.who,iv8 x.n.op,iv x.n.n,iv8 x.n.who,.rsl false false 4 (x.n.kids.map nmC),.str x.name,iv8 x.c.op,iv8 x.c.who,.str x.c.name,.rsl false false 4 (x.c.nums.map nmC),.rsl false false 5 (x.c.kids.map cnC),.rsl false false 14 (x.thn.map efC),.rsl false false 14 (x.els.map efC)]) rfl) ?_|refine Za rfl ?_
  rcases YBE (decide (x.c.op=0)) with h1|h1
  rotate_left
  ·rw[h1];repeat first|refine Ya ?_|refine Xa ?_|refine Qa rfl ?_|refine Yb rfl ?_|refine Qb rfl ?_|refine Zc rfl ?_|refine Za (Yd ..) ?_|refine Za (Xd ..) ?_|refine Za (ldr (row:=[iv8 x.op,iv8 x.who,iv8 x.n.op,iv x.n.n,iv8 x.n.who,.rsl false false 4 (x.n.kids.map nmC),.str x.name,iv8 x.c.op,iv8 x.c.who,.str x.c.name,.rsl false false 4 (x.c.nums.map nmC),.rsl false false 5 (x.c.kids.map cnC),.rsl false false 14 (x.thn.map efC),.rsl false false 14 (x.els.map efC)]) rfl) ?_|refine Za rfl ?_
   rw[h1] at hK;exact hK
  rw[h1];repeat first|refine Ya ?_|refine Xa ?_|refine Za (Yd ..) ?_|refine Za (Xd ..) ?_|refine Za (ldr (row:=[iv8 x.op,iv8 x.who,iv8 x.n.op,iv x.n.n,iv8 x.n.who,.rsl false false 4 (x.n.kids.map nmC),.str x.name,iv8 x.c.op,iv8 x.c.who,.str x.c.name,.rsl false false 4 (x.c.nums.map nmC),.rsl false false 5 (x.c.kids.map cnC),.rsl false false 14 (x.thn.map efC),.rsl false false 14 (x.els.map efC)]) rfl) ?_|refine Za rfl ?_
  rcases YBE (decide (x.c.who=0)) with h2|h2
  rotate_left
  ·rw[h2];repeat first|refine Ya ?_|refine Xa ?_|refine Qa rfl ?_|refine Yb rfl ?_|refine Qb rfl ?_|refine Zc rfl ?_|refine Za (Yd ..) ?_|refine Za (Xd ..) ?_|refine Za (ldr (row:=[iv8 x.op,iv8 x.who,iv8 x.n.op,iv x.n.n,iv8 x.n.who,.rsl false false 4 (x.n.kids.map nmC),.str x.name,iv8 x.c.op,iv8 x.c.who,.str x.c.name,.rsl false false 4 (x.c.nums.map nmC),.rsl false false 5 (x.c.kids.map cnC),.rsl false false 14 (x.thn.map efC),.rsl false false 14 (x.els.map efC)]) rfl) ?_|refine Za rfl ?_
   rw[h1,h2] at hK;exact hK
  rw[h2];repeat first|refine Ya ?_|refine Xa ?_|refine Za (Yd ..) ?_|refine Za (Xd ..) ?_|refine Za (ldr (row:=[iv8 x.op,iv8 x.who,iv8 x.n.op,iv x.n.n,iv8 x.n.who,.rsl false false 4 (x.n.kids.map nmC),.str x.name,iv8 x.c.op,iv8 x.c.who,.str x.c.name,.rsl false false 4 (x.c.nums.map nmC),.rsl false false 5 (x.c.kids.map cnC),.rsl false false 14 (x.thn.map efC),.rsl false false 14 (x.els.map efC)]) rfl) ?_|refine Za rfl ?_
  rcases YBE (x.c.name==[]) with h3|h3
  rotate_left
  ·rw[h3];repeat first|refine Ya ?_|refine Xa ?_|refine Qa rfl ?_|refine Yb rfl ?_|refine Qb rfl ?_|refine Zc rfl ?_|refine Za (Yd ..) ?_|refine Za (Xd ..) ?_|refine Za (ldr (row:=[iv8 x.op,iv8 x.who,iv8 x.n.op,iv x.n.n,iv8 x.n.who,.rsl false false 4 (x.n.kids.map nmC),.str x.name,iv8 x.c.op,iv8 x.c.who,.str x.c.name,.rsl false false 4 (x.c.nums.map nmC),.rsl false false 5 (x.c.kids.map cnC),.rsl false false 14 (x.thn.map efC),.rsl false false 14 (x.els.map efC)]) rfl) ?_|refine Za rfl ?_
   rw[h1,h2,h3] at hK;exact hK
  rw[h3];repeat first|refine Ya ?_|refine Xa ?_|refine Za (Yd ..) ?_|refine Za (Xd ..) ?_|refine Za (ldr (row:=[iv8 x.op,iv8 x.who,iv8 x.n.op,iv x.n.n,iv8 x.n.who,.rsl false false 4 (x.n.kids.map nmC),.str x.name,iv8 x.c.op,iv8 x.c.who,.str x.c.name,.rsl false false 4 (x.c.nums.map nmC),.rsl false false 5 (x.c.kids.map cnC),.rsl false false 14 (x.thn.map efC),.rsl false false 14 (x.els.map efC)]) rfl) ?_|refine Za rfl ?_
  rw[h1,h2,h3,Bool.true_and,Bool.true_and,Bool.true_and] at hK;rw[List.length_map,List.length_map,List.length_map,List.length_map,wrapI (n:=(x.c.nums.length:Int)+x.c.kids.length) (by omega) (by omega),wrapI (n:=(x.c.nums.length:Int)+x.c.kids.length+x.thn.length) (by omega) (by omega),wrapI (n:=(x.c.nums.length:Int)+x.c.kids.length+x.thn.length+x.els.length) (by omega) (by omega)]
  grind [decide]
 refine r3 _ ?_;clear r3;unfold zeroB;generalize (cntOp x.op||noNum x.n)=b1;generalize (decide (x.op=7)||x.name==[])=b2;generalize (decide (x.op=8)||(decide (x.c.op=0)&&(decide (x.c.who=0)&&(x.c.name==[]&&decide (x.c.nums.length+x.c.kids.length+x.thn.length+x.els.length=0)))))=b3;cases b1<;>cases b2
 all_goals (repeat (first|refine Ya ?_|refine Xa ?_|refine Qa rfl ?_|refine Yb rfl ?_|refine Qb rfl ?_|refine Zc rfl ?_|refine Za (Yd ..) ?_|refine Za (Xd ..) ?_|refine Za (ldr (row:=[iv8 x.op,iv8 x.who,iv8 x.n.op,iv x.n.n,iv8 x.n.who,.rsl false false 4 (x.n.kids.map nmC),.str x.name,iv8 x.c.op,iv8 x.c.who,.str x.c.name,.rsl false false 4 (x.c.nums.map nmC),.rsl false false 5 (x.c.kids.map cnC),.rsl false false 14 (x.thn.map efC),.rsl false false 14 (x.els.map efC)]) rfl) ?_|refine Za rfl ?_))
 all_goals rfl
end Go.Ah.Tz
end
section
namespace Go.Ah.Tz
open Go.Proofs.Tryz (prog)
def efArm(cs:List Cd)(t:Bool)(d:Int)(x:Ef):Bool:=
 if x.op=0∨x.op=1 then sdOp x.who||(decide (x.who=2)&&t)
 else if x.op=2∨x.op=4∨x.op=6 then sdOp x.who
 else if x.op=3∨x.op=5 then decide (x.who=0)
 else if x.op=7 then decide (x.who=0)&&findC cs x.name true
 else if x.op=8 then decide (x.who=0)&&(cnOk cs t x.c&&(lstOk cs t (d+1) x.thn&&lstOk cs t (d+1) x.els))
 else false
theorem Zcs(x:Ef):(decide (x.c.op=0)&&(decide (x.c.who=0)&&(x.c.name==[]&&decide (x.c.nums.length+x.c.kids.length+x.thn.length+x.els.length=0))))=(noCond x.c&&(decide (x.thn.length=0)&&decide (x.els.length=0))):=by
 grind [noCond]
theorem Xdb(cs:List Cd)(t:Bool)(d:Int)(x:Ef):efOk cs t d x=((zeroB x&&(!cntOp x.op||nmOk t x.n))&&efArm cs t d x):=by
 rw[Xcl,zeroB,Zcs];by_cases hr:0≤x.op∧x.op≤8;rotate_left
 ·grind [efArm]
 obtain⟨r1,r2⟩:=hr;rw[decide_eq_true r1,decide_eq_true r2,Bool.true_and,Bool.true_and];generalize noCond x.c=b1;generalize decide (x.thn.length=0)=b2;generalize decide (x.els.length=0)=b3;generalize noNum x.n=b4;generalize nmOk t x.n=b5;generalize (x.name==[])=b6;unfold efArm efEnd efMid
 grind [cntOp]
attribute [local irreducible] Ans.rd Ans.pu Ans.wr Ans.dr Ans.gr Ans.gw Ans.gl Ans.gd Ans.opt joinK W
set_option maxHeartbeats 4000000
theorem Ydb(x:Ef):NmAt (efC x) (0+2) x.n:=nmAt2 x
theorem Zdb(x:Ef):CnAt (efC x) (0+7) x.c:=cnAt7 x
theorem c157'(m:List (Tx×Bool))(cs:List Cd)(hU:Units m cs)(t:Bool):∀(k:Nat) (l:List Ef) (d:Int),SizeOf.sizeOf l≤k→lsFit l=true→0≤d→PC 118 [.rptr (chkM m t) 0,efV l,iv d] (.bool (lstOk cs t d l))
 |0,l,_,h,_,_=>by cases l<;>simp at h
 |k+1,l,d,hk,hf,hd=>by
  refine Yc hP g118.ok rfl rfl ?_;rw[H3.e]; unfold g118; dsimp only;have hlen:=Xz hf;rw[bigE] at hlen;refine Za rfl (Za rfl ?_);refine ZD rfl rfl ?_;refine Zb (λh=>?_) (λh=>?_)
  ·grind [lstOk]
  have h:l.length≤16∧d≤8:=by simp at h; omega
  have hl:lstOk cs t d l=efsOk cs t d l:=by simp[lstOk,h]
  rw[hl];clear hl;refine Za rfl ?_;refine Zg (ι:=Nat) (λi vs σ=>vs=[iv i]∧σ=[]∧i≤l.length∧efsOk cs t d l=efsOk cs t d (l.drop i)) (λi=>l.length-i) 0 ⟨rfl,rfl,by omega,by simp⟩ ?_;rintro i vs σ again ⟨rfl,rfl,hi,hu⟩ hag;refine Za rfl ?_;refine Zb (λh=>?_) (λh=>?_);rotate_left
  ·grind [efsOk]
  have hil:i<l.length:=by simpa using h
  have hdr:l.drop i=l[i]::l.drop (i+1):=by rw[YLD hil]
  rw[hdr,efsOk] at hu;have hm:l[i]∈l:=List.getElem_mem hil;have hsz:=List.sizeOf_lt_of_mem hm;have hfx:=YP hf hm;have ix:=λ(s:List ABlk)=>Yk s efC false false 14 l .i64 i hil;generalize l[i]=x at hu hsz hfx ix;have hs2:=XY x;rename_i hd8;obtain⟨h16,h8⟩:=hd8;have go:∀c,c=efOk cs t d x→VV.rd (Ybu .not [.bool c] []) λt152=>VV.test t152 (AVal.bool false=AVal.bool (efsOk cs t d l)) (VV.rd (Yn .add false [iv i,(.int .i64 1)] []) λt153=>again [t153] []):=by
   rintro c hc;refine Za rfl ?_;rw[←hc] at hu;refine Zb (λh=>?_) (λh=>?_)
   ·simp_all
   ·have h:c=true:=by simpa using h
    rw[h,Bool.true_and] at hu;refine Za (Yf ..) ?_;rw[Qc (n:=i) (by omega)]
    grind
  have stop:efOk cs t d x=false→AVal.bool false=AVal.bool (efsOk cs t d l):=by
   intro he; rw[hu,he]; rfl
  clear hag hu;rw[Xdb] at stop go;refine Za (ix _) ?_;refine Xb (c209 x hfx) rfl g178.ok.plain rfl ?_;have r1:∀K:AVal→List ABlk→Prop,K (.bool (zeroB x&&(!cntOp x.op||nmOk t x.n))) []→VV.gr (AVal.bool (zeroB x)) true (λk=>VV.rd (Qab [(AVal.rptr (efC x) 0)] []) k) λt28_11=>VV.gr (AVal.bool (zeroB x)) true (λk=>VV.rd (Zi [t28_11] []) k) λt29_12=>VV.gr (AVal.bool (zeroB x)) true (λk=>VV.rd (Ye 0 [t29_12] []) k) λt30_13=>VV.gr (AVal.bool (zeroB x)) true (λk=>VV.rd (Qk false 1 [t30_13] []) k) λt31_14=>VV.gw (AVal.bool (zeroB x)) true (λk=>VV.call (.call 179) [t31_14] [] k) ([]:List ABlk) λt32_15 σ=>VV.gr (AVal.bool (zeroB x)) true (λk=>VV.rd (Ybu .not [t32_15] σ) k) λt33_16=>VV.gr (AVal.bool (zeroB x)) true (λk=>VV.rd (Qab [t33_16] σ) k) λt34_17=>VV.gr t34_17 false (λk=>VV.rd (Qab [(AVal.rptr (chkM m t) 0)] σ) k) λt35_18=>VV.gr t34_17 false (λk=>VV.rd (Qab [(AVal.rptr (efC x) 0)] σ) k) λt36_19=>VV.gr t34_17 false (λk=>VV.rd (Zi [t36_19] σ) k) λt37_20=>VV.gr t34_17 false (λk=>VV.rd (Ye 2 [t37_20] σ) k) λt38_21=>VV.gw t34_17 false (λk=>VV.call (.call 180) [t35_18,t38_21] σ k) σ λt39_22 σ=>VV.gr (AVal.bool (zeroB x)) true (λk=>VV.rd (Zk [t34_17,(.bool true),t39_22] σ) k) λt40_23=>VV.rd (Zk [(AVal.bool (zeroB x)),t40_23,(.bool false)] σ) (λv=>K v σ):=by
   intro K hK;rcases YBE (zeroB x) with h|h
   rotate_left
   ·rw[h] at hK ⊢;repeat first|refine Ya ?_|refine Xa ?_|refine Qa rfl ?_|refine Yb rfl ?_|refine Qb rfl ?_|refine Zc rfl ?_|refine Za (ldr (efLd0 x)) ?_|refine Za (ldr (efLd1 x)) ?_|refine Za (ldr (efLd6 x)) ?_|refine Za (ldr (Ql x)) ?_|refine Za (ldr (Zm x)) ?_|refine Za (Yd ..) ?_|refine Za (Xd ..) ?_|refine Za (ldr (row:=chkM m t) rfl) ?_|refine Za (Xh ..) ?_|refine Za rfl ?_
    exact hK
   rw[h,Bool.true_and] at hK;rw[h];repeat first|refine Ya ?_|refine Xa ?_|refine Za (ldr (efLd0 x)) ?_|refine Za (ldr (efLd1 x)) ?_|refine Za (ldr (efLd6 x)) ?_|refine Za (ldr (Ql x)) ?_|refine Za (ldr (Zm x)) ?_|refine Za (Yd ..) ?_|refine Za (Xd ..) ?_|refine Za (ldr (row:=chkM m t) rfl) ?_|refine Za (Xh ..) ?_|refine Za rfl ?_
   refine Xb (c210 _) rfl g179.ok.plain rfl ?_;repeat first|refine Ya ?_|refine Xa ?_|refine Za (ldr (efLd0 x)) ?_|refine Za (ldr (efLd1 x)) ?_|refine Za (ldr (efLd6 x)) ?_|refine Za (ldr (Ql x)) ?_|refine Za (ldr (Zm x)) ?_|refine Za (Yd ..) ?_|refine Za (Xd ..) ?_|refine Za (ldr (row:=chkM m t) rfl) ?_|refine Za (Xh ..) ?_|refine Za rfl ?_
   rcases YBE (!cntOp x.op) with h2|h2
   ·rw[h2] at hK ⊢;repeat first|refine Ya ?_|refine Xa ?_|refine Qa rfl ?_|refine Yb rfl ?_|refine Qb rfl ?_|refine Zc rfl ?_|refine Za (ldr (efLd0 x)) ?_|refine Za (ldr (efLd1 x)) ?_|refine Za (ldr (efLd6 x)) ?_|refine Za (ldr (Ql x)) ?_|refine Za (ldr (Zm x)) ?_|refine Za (Yd ..) ?_|refine Za (Xd ..) ?_|refine Za (ldr (row:=chkM m t) rfl) ?_|refine Za (Xh ..) ?_|refine Za rfl ?_
    exact hK
   rw[h2,Bool.false_or] at hK;rw[h2];repeat first|refine Ya ?_|refine Xa ?_|refine Za (ldr (efLd0 x)) ?_|refine Za (ldr (efLd1 x)) ?_|refine Za (ldr (efLd6 x)) ?_|refine Za (ldr (Ql x)) ?_|refine Za (ldr (Zm x)) ?_|refine Za (Yd ..) ?_|refine Za (Xd ..) ?_|refine Za (ldr (row:=chkM m t) rfl) ?_|refine Za (Xh ..) ?_|refine Za rfl ?_
   refine Xb (c211 _ t x.n _ _ (Ydb x) (Z8 hfx)) rfl g180.ok.plain rfl ?_;repeat first|refine Ya ?_|refine Xa ?_|refine Za (ldr (efLd0 x)) ?_|refine Za (ldr (efLd1 x)) ?_|refine Za (ldr (efLd6 x)) ?_|refine Za (ldr (Ql x)) ?_|refine Za (ldr (Zm x)) ?_|refine Za (Yd ..) ?_|refine Za (Xd ..) ?_|refine Za (ldr (row:=chkM m t) rfl) ?_|refine Za (Xh ..) ?_|refine Za rfl ?_
   exact hK
  refine r1 _ ?_;clear r1;generalize (zeroB x&&(!cntOp x.op||nmOk t x.n))=z at go stop ⊢;repeat first|refine Za (ldr (efLd0 x)) ?_|refine Za (ldr (efLd1 x)) ?_|refine Za (ldr (efLd6 x)) ?_|refine Za (ldr (Ql x)) ?_|refine Za (ldr (Zm x)) ?_|refine Za (Yd ..) ?_|refine Za (Xd ..) ?_|refine Za (ldr (row:=chkM m t) rfl) ?_|refine Za (Xh ..) ?_|refine Za rfl ?_
  refine Yh λk28 hk28=>?_;have kk:∀c,c=(z&&efArm cs t d x)→k28 [.bool c] []:=by
   simp_all
  clear hk28 go;repeat first|refine Za (ldr (efLd0 x)) ?_|refine Za (ldr (efLd1 x)) ?_|refine Za (ldr (efLd6 x)) ?_|refine Za (ldr (Ql x)) ?_|refine Za (ldr (Zm x)) ?_|refine Za (Yd ..) ?_|refine Za (Xd ..) ?_|refine Za (ldr (row:=chkM m t) rfl) ?_|refine Za (Xh ..) ?_|refine Za rfl ?_
  refine Yh λk1 hk1=>?_;have m1:∀c,c=decide (x.op=0∨x.op=1)→k1 [.bool c] []:=by
   rintro c hc;rw[hk1]; clear hk1 k1;refine Zb (λh=>?_) (λh=>?_)
   ·rw[h] at hc;have a1:x.op=0∨x.op=1:=by simpa using hc.symm
    have e:efArm cs t d x=(sdOp x.who||(decide (x.who=2)&&t)):=by rw[efArm,if_pos a1]
    rw[e] at kk;cases z with
    |false=>
     repeat first|refine Ya ?_|refine Xa ?_|refine Qa rfl ?_|refine Yb rfl ?_|refine Qb rfl ?_|refine Zc rfl ?_|refine Za (ldr (efLd0 x)) ?_|refine Za (ldr (efLd1 x)) ?_|refine Za (ldr (efLd6 x)) ?_|refine Za (ldr (Ql x)) ?_|refine Za (ldr (Zm x)) ?_|refine Za (Yd ..) ?_|refine Za (Xd ..) ?_|refine Za (ldr (row:=chkM m t) rfl) ?_|refine Za (Xh ..) ?_|refine Za rfl ?_
     exact kk _ rfl
    |true=>
     repeat first|refine Ya ?_|refine Xa ?_|refine Za (ldr (efLd0 x)) ?_|refine Za (ldr (efLd1 x)) ?_|refine Za (ldr (efLd6 x)) ?_|refine Za (ldr (Ql x)) ?_|refine Za (ldr (Zm x)) ?_|refine Za (Yd ..) ?_|refine Za (Xd ..) ?_|refine Za (ldr (row:=chkM m t) rfl) ?_|refine Za (Xh ..) ?_|refine Za rfl ?_
     refine Xb (c212 _) rfl g181.ok.plain rfl ?_;repeat first|refine Ya ?_|refine Xa ?_|refine Za (ldr (efLd0 x)) ?_|refine Za (ldr (efLd1 x)) ?_|refine Za (ldr (efLd6 x)) ?_|refine Za (ldr (Ql x)) ?_|refine Za (ldr (Zm x)) ?_|refine Za (Yd ..) ?_|refine Za (Xd ..) ?_|refine Za (ldr (row:=chkM m t) rfl) ?_|refine Za (Xh ..) ?_|refine Za rfl ?_
     rcases YBE (sdOp x.who) with h2|h2
     ·rw[h2] at kk ⊢;repeat first|refine Ya ?_|refine Xa ?_|refine Qa rfl ?_|refine Yb rfl ?_|refine Qb rfl ?_|refine Zc rfl ?_|refine Za (ldr (efLd0 x)) ?_|refine Za (ldr (efLd1 x)) ?_|refine Za (ldr (efLd6 x)) ?_|refine Za (ldr (Ql x)) ?_|refine Za (ldr (Zm x)) ?_|refine Za (Yd ..) ?_|refine Za (Xd ..) ?_|refine Za (ldr (row:=chkM m t) rfl) ?_|refine Za (Xh ..) ?_|refine Za rfl ?_
      exact kk _ rfl
     rw[h2] at kk ⊢;repeat first|refine Ya ?_|refine Xa ?_|refine Za (ldr (efLd0 x)) ?_|refine Za (ldr (efLd1 x)) ?_|refine Za (ldr (efLd6 x)) ?_|refine Za (ldr (Ql x)) ?_|refine Za (ldr (Zm x)) ?_|refine Za (Yd ..) ?_|refine Za (Xd ..) ?_|refine Za (ldr (row:=chkM m t) rfl) ?_|refine Za (Xh ..) ?_|refine Za rfl ?_
     rcases YBE (decide (x.who=2)) with h3|h3
     ·rw[h3] at kk ⊢;repeat first|refine Ya ?_|refine Xa ?_|refine Za (ldr (efLd0 x)) ?_|refine Za (ldr (efLd1 x)) ?_|refine Za (ldr (efLd6 x)) ?_|refine Za (ldr (Ql x)) ?_|refine Za (ldr (Zm x)) ?_|refine Za (Yd ..) ?_|refine Za (Xd ..) ?_|refine Za (ldr (row:=chkM m t) rfl) ?_|refine Za (Xh ..) ?_|refine Za rfl ?_
      exact kk _ (by simp)
     rw[h3] at kk ⊢;repeat first|refine Ya ?_|refine Xa ?_|refine Qa rfl ?_|refine Yb rfl ?_|refine Qb rfl ?_|refine Zc rfl ?_|refine Za (ldr (efLd0 x)) ?_|refine Za (ldr (efLd1 x)) ?_|refine Za (ldr (efLd6 x)) ?_|refine Za (ldr (Ql x)) ?_|refine Za (ldr (Zm x)) ?_|refine Za (Yd ..) ?_|refine Za (Xd ..) ?_|refine Za (ldr (row:=chkM m t) rfl) ?_|refine Za (Xh ..) ?_|refine Za rfl ?_
     exact kk _ (by simp)
   rw[h] at hc;have a1:¬(x.op=0∨x.op=1):=by simpa using hc.symm
   repeat first|refine Za (ldr (efLd0 x)) ?_|refine Za (ldr (efLd1 x)) ?_|refine Za (ldr (efLd6 x)) ?_|refine Za (ldr (Ql x)) ?_|refine Za (ldr (Zm x)) ?_|refine Za (Yd ..) ?_|refine Za (Xd ..) ?_|refine Za (ldr (row:=chkM m t) rfl) ?_|refine Za (Xh ..) ?_|refine Za rfl ?_
   refine Yh λk1 hk1=>?_;have m2:∀c,c=decide (x.op=2∨x.op=4∨x.op=6)→k1 [.bool c] []:=by
    rintro c hc;rw[hk1]; clear hk1 k1;refine Zb (λh=>?_) (λh=>?_)
    ·rw[h] at hc;have a2:x.op=2∨x.op=4∨x.op=6:=by simpa using hc.symm
     have e:efArm cs t d x=sdOp x.who:=by rw[efArm,if_neg a1,if_pos a2]
     rw[e] at kk;cases z with
     |false=>
      repeat first|refine Ya ?_|refine Xa ?_|refine Qa rfl ?_|refine Yb rfl ?_|refine Qb rfl ?_|refine Zc rfl ?_|refine Za (ldr (efLd0 x)) ?_|refine Za (ldr (efLd1 x)) ?_|refine Za (ldr (efLd6 x)) ?_|refine Za (ldr (Ql x)) ?_|refine Za (ldr (Zm x)) ?_|refine Za (Yd ..) ?_|refine Za (Xd ..) ?_|refine Za (ldr (row:=chkM m t) rfl) ?_|refine Za (Xh ..) ?_|refine Za rfl ?_
      exact kk _ rfl
     |true=>
      repeat first|refine Ya ?_|refine Xa ?_|refine Za (ldr (efLd0 x)) ?_|refine Za (ldr (efLd1 x)) ?_|refine Za (ldr (efLd6 x)) ?_|refine Za (ldr (Ql x)) ?_|refine Za (ldr (Zm x)) ?_|refine Za (Yd ..) ?_|refine Za (Xd ..) ?_|refine Za (ldr (row:=chkM m t) rfl) ?_|refine Za (Xh ..) ?_|refine Za rfl ?_
      refine Xb (c212 _) rfl g181.ok.plain rfl ?_;repeat first|refine Ya ?_|refine Xa ?_|refine Za (ldr (efLd0 x)) ?_|refine Za (ldr (efLd1 x)) ?_|refine Za (ldr (efLd6 x)) ?_|refine Za (ldr (Ql x)) ?_|refine Za (ldr (Zm x)) ?_|refine Za (Yd ..) ?_|refine Za (Xd ..) ?_|refine Za (ldr (row:=chkM m t) rfl) ?_|refine Za (Xh ..) ?_|refine Za rfl ?_
      exact kk _ (by simp)
    rw[h] at hc;have a2:¬(x.op=2∨x.op=4∨x.op=6):=by simpa using hc.symm
    repeat first|refine Za (ldr (efLd0 x)) ?_|refine Za (ldr (efLd1 x)) ?_|refine Za (ldr (efLd6 x)) ?_|refine Za (ldr (Ql x)) ?_|refine Za (ldr (Zm x)) ?_|refine Za (Yd ..) ?_|refine Za (Xd ..) ?_|refine Za (ldr (row:=chkM m t) rfl) ?_|refine Za (Xh ..) ?_|refine Za rfl ?_
    refine Yh λk1 hk1=>?_;have m3:∀c,c=decide (x.op=3∨x.op=5)→k1 [.bool c] []:=by
     rintro c hc;rw[hk1]; clear hk1 k1;refine Zb (λh=>?_) (λh=>?_)
     ·rw[h] at hc;have a3:x.op=3∨x.op=5:=by simpa using hc.symm
      have e:efArm cs t d x=decide (x.who=0):=by grind [efArm]
      rw[e] at kk;cases z with
      |false=>
       repeat first|refine Ya ?_|refine Xa ?_|refine Qa rfl ?_|refine Yb rfl ?_|refine Qb rfl ?_|refine Zc rfl ?_|refine Za (ldr (efLd0 x)) ?_|refine Za (ldr (efLd1 x)) ?_|refine Za (ldr (efLd6 x)) ?_|refine Za (ldr (Ql x)) ?_|refine Za (ldr (Zm x)) ?_|refine Za (Yd ..) ?_|refine Za (Xd ..) ?_|refine Za (ldr (row:=chkM m t) rfl) ?_|refine Za (Xh ..) ?_|refine Za rfl ?_
       exact kk _ rfl
      |true=>
       repeat first|refine Ya ?_|refine Xa ?_|refine Za (ldr (efLd0 x)) ?_|refine Za (ldr (efLd1 x)) ?_|refine Za (ldr (efLd6 x)) ?_|refine Za (ldr (Ql x)) ?_|refine Za (ldr (Zm x)) ?_|refine Za (Yd ..) ?_|refine Za (Xd ..) ?_|refine Za (ldr (row:=chkM m t) rfl) ?_|refine Za (Xh ..) ?_|refine Za rfl ?_
       exact kk _ (by simp)
     rw[h] at hc;have a3:¬(x.op=3∨x.op=5):=by simpa using hc.symm
     repeat first|refine Za (ldr (efLd0 x)) ?_|refine Za (ldr (efLd1 x)) ?_|refine Za (ldr (efLd6 x)) ?_|refine Za (ldr (Ql x)) ?_|refine Za (ldr (Zm x)) ?_|refine Za (Yd ..) ?_|refine Za (Xd ..) ?_|refine Za (ldr (row:=chkM m t) rfl) ?_|refine Za (Xh ..) ?_|refine Za rfl ?_
     refine Zb (λa7=>?_) (λa7=>?_)
     ·have a7:x.op=7:=by simpa using a7
      have e:efArm cs t d x=(decide (x.who=0)&&(tlook x.name m).getD false):=by
       rw[efArm,if_neg a1,if_neg a2,if_neg a3,if_pos a7,hU];cases tlook x.name m<;>simp
      rw[e] at kk;cases z with
      |false=>
       repeat first|refine Ya ?_|refine Xa ?_|refine Qa rfl ?_|refine Yb rfl ?_|refine Qb rfl ?_|refine Zc rfl ?_|refine Za (ldr (efLd0 x)) ?_|refine Za (ldr (efLd1 x)) ?_|refine Za (ldr (efLd6 x)) ?_|refine Za (ldr (Ql x)) ?_|refine Za (ldr (Zm x)) ?_|refine Za (Yd ..) ?_|refine Za (Xd ..) ?_|refine Za (ldr (row:=chkM m t) rfl) ?_|refine Za (Xh ..) ?_|refine Za rfl ?_
       exact kk _ rfl
      |true=>
       repeat first|refine Ya ?_|refine Xa ?_|refine Za (ldr (efLd0 x)) ?_|refine Za (ldr (efLd1 x)) ?_|refine Za (ldr (efLd6 x)) ?_|refine Za (ldr (Ql x)) ?_|refine Za (ldr (Zm x)) ?_|refine Za (Yd ..) ?_|refine Za (Xd ..) ?_|refine Za (ldr (row:=chkM m t) rfl) ?_|refine Za (Xh ..) ?_|refine Za rfl ?_
       rcases YBE (decide (x.who=0)) with h3|h3
       ·rw[h3] at kk ⊢;repeat first|refine Ya ?_|refine Xa ?_|refine Za (ldr (efLd0 x)) ?_|refine Za (ldr (efLd1 x)) ?_|refine Za (ldr (efLd6 x)) ?_|refine Za (ldr (Ql x)) ?_|refine Za (ldr (Zm x)) ?_|refine Za (Yd ..) ?_|refine Za (Xd ..) ?_|refine Za (ldr (row:=chkM m t) rfl) ?_|refine Za (Xh ..) ?_|refine Za rfl ?_
        exact kk _ (by simp)
       rw[h3] at kk ⊢;repeat first|refine Ya ?_|refine Xa ?_|refine Qa rfl ?_|refine Yb rfl ?_|refine Qb rfl ?_|refine Zc rfl ?_|refine Za (ldr (efLd0 x)) ?_|refine Za (ldr (efLd1 x)) ?_|refine Za (ldr (efLd6 x)) ?_|refine Za (ldr (Ql x)) ?_|refine Za (ldr (Zm x)) ?_|refine Za (Yd ..) ?_|refine Za (Xd ..) ?_|refine Za (ldr (row:=chkM m t) rfl) ?_|refine Za (Xh ..) ?_|refine Za rfl ?_
       exact kk _ (by simp)
     have a7:x.op≠7:=by simpa using a7
     repeat first|refine Za (ldr (efLd0 x)) ?_|refine Za (ldr (efLd1 x)) ?_|refine Za (ldr (efLd6 x)) ?_|refine Za (ldr (Ql x)) ?_|refine Za (ldr (Zm x)) ?_|refine Za (Yd ..) ?_|refine Za (Xd ..) ?_|refine Za (ldr (row:=chkM m t) rfl) ?_|refine Za (Xh ..) ?_|refine Za rfl ?_
     refine Zb (λa8=>?_) (λa8=>?_);rotate_left
     ·grind [efArm]
     have a8:x.op=8:=by simpa using a8
     have e:efArm cs t d x=(decide (x.who=0)&&(cnOk cs t x.c&&(lstOk cs t (d+1) x.thn&&lstOk cs t (d+1) x.els))):=by
      grind [efArm]
     rw[e] at kk;have hw:IntKind.i64.wrap (d+1)=d+1:=wrapI (by omega) (by omega);cases z with
     |false=>
      repeat first|refine Ya ?_|refine Xa ?_|refine Qa rfl ?_|refine Yb rfl ?_|refine Qb rfl ?_|refine Zc rfl ?_|refine Za (ldr (efLd0 x)) ?_|refine Za (ldr (efLd1 x)) ?_|refine Za (ldr (efLd6 x)) ?_|refine Za (ldr (Ql x)) ?_|refine Za (ldr (Zm x)) ?_|refine Za (Yd ..) ?_|refine Za (Xd ..) ?_|refine Za (ldr (row:=chkM m t) rfl) ?_|refine Za (Xh ..) ?_|refine Za rfl ?_
      exact kk _ rfl
     |true=>
      repeat first|refine Ya ?_|refine Xa ?_|refine Za (ldr (efLd0 x)) ?_|refine Za (ldr (efLd1 x)) ?_|refine Za (ldr (efLd6 x)) ?_|refine Za (ldr (Ql x)) ?_|refine Za (ldr (Zm x)) ?_|refine Za (Yd ..) ?_|refine Za (Xd ..) ?_|refine Za (ldr (row:=chkM m t) rfl) ?_|refine Za (Xh ..) ?_|refine Za rfl ?_
      rcases YBE (decide (x.who=0)) with h3|h3
      rotate_left
      ·rw[h3] at kk ⊢;repeat first|refine Ya ?_|refine Xa ?_|refine Qa rfl ?_|refine Yb rfl ?_|refine Qb rfl ?_|refine Zc rfl ?_|refine Za (ldr (efLd0 x)) ?_|refine Za (ldr (efLd1 x)) ?_|refine Za (ldr (efLd6 x)) ?_|refine Za (ldr (Ql x)) ?_|refine Za (ldr (Zm x)) ?_|refine Za (Yd ..) ?_|refine Za (Xd ..) ?_|refine Za (ldr (row:=chkM m t) rfl) ?_|refine Za (Xh ..) ?_|refine Za rfl ?_
       exact kk _ (by simp)
      rw[h3] at kk ⊢;repeat first|refine Ya ?_|refine Xa ?_|refine Za (ldr (efLd0 x)) ?_|refine Za (ldr (efLd1 x)) ?_|refine Za (ldr (efLd6 x)) ?_|refine Za (ldr (Ql x)) ?_|refine Za (ldr (Zm x)) ?_|refine Za (Yd ..) ?_|refine Za (Xd ..) ?_|refine Za (ldr (row:=chkM m t) rfl) ?_|refine Za (Xh ..) ?_|refine Za rfl ?_
      refine Xb (c213 m cs hU t x.c _ _ (Zdb x) (X0 hfx)) rfl g182.ok.plain rfl ?_;repeat first|refine Ya ?_|refine Xa ?_|refine Za (ldr (efLd0 x)) ?_|refine Za (ldr (efLd1 x)) ?_|refine Za (ldr (efLd6 x)) ?_|refine Za (ldr (Ql x)) ?_|refine Za (ldr (Zm x)) ?_|refine Za (Yd ..) ?_|refine Za (Xd ..) ?_|refine Za (ldr (row:=chkM m t) rfl) ?_|refine Za (Xh ..) ?_|refine Za rfl ?_
      rcases YBE (cnOk cs t x.c) with h4|h4
      rotate_left
      ·rw[h4] at kk ⊢;repeat first|refine Ya ?_|refine Xa ?_|refine Qa rfl ?_|refine Yb rfl ?_|refine Qb rfl ?_|refine Zc rfl ?_|refine Za (ldr (efLd0 x)) ?_|refine Za (ldr (efLd1 x)) ?_|refine Za (ldr (efLd6 x)) ?_|refine Za (ldr (Ql x)) ?_|refine Za (ldr (Zm x)) ?_|refine Za (Yd ..) ?_|refine Za (Xd ..) ?_|refine Za (ldr (row:=chkM m t) rfl) ?_|refine Za (Xh ..) ?_|refine Za rfl ?_
       exact kk _ (by simp)
      rw[h4] at kk ⊢;repeat first|refine Ya ?_|refine Xa ?_|refine Za (ldr (efLd0 x)) ?_|refine Za (ldr (efLd1 x)) ?_|refine Za (ldr (efLd6 x)) ?_|refine Za (ldr (Ql x)) ?_|refine Za (ldr (Zm x)) ?_|refine Za (Yd ..) ?_|refine Za (Xd ..) ?_|refine Za (ldr (row:=chkM m t) rfl) ?_|refine Za (Xh ..) ?_|refine Za rfl ?_
      rw[hw];refine Xb (c157' m cs hU t k x.thn (d+1) (by omega) (YJ hfx) (by omega)) rfl g118.ok.plain rfl ?_;repeat first|refine Ya ?_|refine Xa ?_|refine Za (ldr (efLd0 x)) ?_|refine Za (ldr (efLd1 x)) ?_|refine Za (ldr (efLd6 x)) ?_|refine Za (ldr (Ql x)) ?_|refine Za (ldr (Zm x)) ?_|refine Za (Yd ..) ?_|refine Za (Xd ..) ?_|refine Za (ldr (row:=chkM m t) rfl) ?_|refine Za (Xh ..) ?_|refine Za rfl ?_
      rcases YBE (lstOk cs t (d+1) x.thn) with h5|h5
      rotate_left
      ·rw[h5] at kk ⊢;repeat first|refine Ya ?_|refine Xa ?_|refine Qa rfl ?_|refine Yb rfl ?_|refine Qb rfl ?_|refine Zc rfl ?_|refine Za (ldr (efLd0 x)) ?_|refine Za (ldr (efLd1 x)) ?_|refine Za (ldr (efLd6 x)) ?_|refine Za (ldr (Ql x)) ?_|refine Za (ldr (Zm x)) ?_|refine Za (Yd ..) ?_|refine Za (Xd ..) ?_|refine Za (ldr (row:=chkM m t) rfl) ?_|refine Za (Xh ..) ?_|refine Za rfl ?_
       exact kk _ (by simp)
      rw[h5] at kk ⊢;repeat first|refine Ya ?_|refine Xa ?_|refine Za (ldr (efLd0 x)) ?_|refine Za (ldr (efLd1 x)) ?_|refine Za (ldr (efLd6 x)) ?_|refine Za (ldr (Ql x)) ?_|refine Za (ldr (Zm x)) ?_|refine Za (Yd ..) ?_|refine Za (Xd ..) ?_|refine Za (ldr (row:=chkM m t) rfl) ?_|refine Za (Xh ..) ?_|refine Za rfl ?_
      rw[hw];refine Xb (c157' m cs hU t k x.els (d+1) (by omega) (ZJ hfx) (by omega)) rfl g118.ok.plain rfl ?_;repeat first|refine Ya ?_|refine Xa ?_|refine Za (ldr (efLd0 x)) ?_|refine Za (ldr (efLd1 x)) ?_|refine Za (ldr (efLd6 x)) ?_|refine Za (ldr (Ql x)) ?_|refine Za (ldr (Zm x)) ?_|refine Za (Yd ..) ?_|refine Za (Xd ..) ?_|refine Za (ldr (row:=chkM m t) rfl) ?_|refine Za (Xh ..) ?_|refine Za rfl ?_
      exact kk _ (by simp)
    clear hk1;refine Zb (λc1=>m3 _ ?_) (λc1=>?_)
    ·simp at c1; simp[c1]
    refine Za (Yd ..) (m3 _ ?_);simp at c1; simp[c1]
   clear hk1;refine Zb (λc1=>m2 _ ?_) (λc1=>?_)
   ·simp at c1; simp[c1]
   refine Za (Yd ..) (Zb (λc2=>m2 _ ?_) (λc2=>?_))
   ·simp at c2; simp[c2]
   refine Za (Yd ..) (m2 _ ?_);simp at c1 c2; simp[c1,c2]
  clear hk1;refine Zb (λc1=>m1 _ ?_) (λc1=>?_)
  ·simp at c1; simp[c1]
  refine Za (Yd ..) (m1 _ ?_);simp at c1; simp[c1]
theorem c157(m:List (Tx×Bool))(cs:List Cd)(hU:Units m cs)(t:Bool)(l:List Ef)(d:Int)(hf:lsFit l=true)(hd:0≤d):PC 118 [.rptr (chkM m t) 0,efV l,iv d] (.bool (lstOk cs t d l)):=c157' m cs hU t _ l d (Nat.le_refl _) hf hd
end Go.Ah.Tz
end
section
namespace Go.Ah.Tz
open Go.Proofs.Tryz (prog)
attribute [local irreducible] Ans.rd Ans.pu Ans.wr Ans.dr Ans.gr Ans.gw Ans.gl Ans.gd Ans.opt joinK W
set_option maxHeartbeats 2000000
theorem c221(m:List (Tx×Bool))(cs:List Cd)(hU:Units m cs)(c:Cd)(hf:cdFit c=true)
 (h223:PC 75 [.str c.name] (.bool (nameOk c.name)))(h124:PC 117 [.agg (cdC c)] (iv (cdW c))) :
  PC 73 [.rptr (cdC c) 0,.rmap (mpE m)] (.bool (cdOk cs c)):=by
 simp only[cdFit,Bool.and_eq_true,decide_eq_true_eq] at hf;obtain⟨f0,f1,f2,f3⟩:=hf;have bad:cdOk cs c=false→AVal.bool false=AVal.bool (cdOk cs c):=λh=>by rw[h]
 refine Yc hP g73.ok rfl rfl ?_;rw[H2.e]; unfold g73; dsimp only;repeat first|refine Za (ldr (row:=cdC c) rfl) ?_|refine Za rfl ?_
 refine Zl 7 ?_;refine Zf (Za rfl (Xc (Za rfl (Za rfl (ZD rfl rfl (Zb (λh=>bad ?_) (λb1=>Za rfl ?_)))))))
 ·have:in999 c.cost=false:=by
   rw[Bool.eq_false_iff]; intro hh; simp[in999] at hh; simp at h; omega
  simp[cdOk,this]
 have b1:0≤c.cost∧c.cost≤999:=by simp at b1; omega
 refine Zf (Za rfl (Xc (Za rfl (Za rfl (ZD rfl rfl (Zb (λh=>bad ?_) (λb2=>Za rfl ?_)))))))
 ·have:in999 c.power=false:=by
   rw[Bool.eq_false_iff]; intro hh; simp[in999] at hh; simp at h; omega
  simp[cdOk,this]
 have b2:0≤c.power∧c.power≤999:=by simp at b2; omega
 refine Zf (Za rfl (Xc (Za rfl (Za rfl (ZD rfl rfl (Zb (λh=>bad ?_) (λb3=>Za rfl ?_)))))))
 ·have:in999 c.health=false:=by
   rw[Bool.eq_false_iff]; intro hh; simp[in999] at hh; simp at h; omega
  simp[cdOk,this]
 have b3:0≤c.health∧c.health≤999:=by simp at b3; omega
 refine Zf (Za rfl (Xc (Za rfl (Za rfl (ZD rfl rfl (Zb (λh=>bad ?_) (λb4=>Za rfl ?_)))))))
 ·have:in999 c.shield=false:=by
   rw[Bool.eq_false_iff]; intro hh; simp[in999] at hh; simp at h; omega
  simp[cdOk,this]
 have b4:0≤c.shield∧c.shield≤999:=by simp at b4; omega
 refine Zf (Za rfl (Xc (Za rfl (Za rfl (ZD rfl rfl (Zb (λh=>bad ?_) (λb5=>Za rfl ?_)))))))
 ·have:in999 c.aurap=false:=by
   rw[Bool.eq_false_iff]; intro hh; simp[in999] at hh; simp at h; omega
  simp[cdOk,this]
 have b5:0≤c.aurap∧c.aurap≤999:=by simp at b5; omega
 refine Zf (Za rfl (Xc (Za rfl (Za rfl (ZD rfl rfl (Zb (λh=>bad ?_) (λb6=>Za rfl ?_)))))))
 ·have:in999 c.aurah=false:=by
   rw[Bool.eq_false_iff]; intro hh; simp[in999] at hh; simp at h; omega
  simp[cdOk,this]
 have b6:0≤c.aurah∧c.aurah≤999:=by simp at b6; omega
 refine Zf (Za rfl (Xe ?_));have hok:cdOk cs c=(nameOk c.name&&(decide (cdW c≤200)&&(cdSum c&&(lstOk cs true 1 c.played&&(lstOk cs false 1 c.dead&&lstOk cs false 1 c.dawn))))):=by
  have e1:in999 c.cost=true:=by simp[in999]; omega
  have e2:in999 c.power=true:=by simp[in999]; omega
  have e3:in999 c.health=true:=by simp[in999]; omega
  have e4:in999 c.shield=true:=by simp[in999]; omega
  have e5:in999 c.aurap=true:=by simp[in999]; omega
  have e6:in999 c.aurah=true:=by simp[in999]; omega
  simp only[cdOk,e1,e2,e3,e4,e5,e6,Bool.true_and];generalize decide (cdW c≤200)=w;cases w<;>simp
 rw[hok] at bad ⊢;clear hok;repeat first|refine Za (ldr (row:=cdC c) rfl) ?_|refine Za rfl ?_
 refine Xb h223 rfl g75.ok.plain rfl ?_;refine Za rfl ?_;refine Yh λk33 hk33=>?_;have kk1:(nameOk c.name&&(decide (cdW c≤200)&&(cdSum c&&(lstOk cs true 1 c.played&&(lstOk cs false 1 c.dead&&lstOk cs false 1 c.dawn)))))=false→k33 [.bool true] []:=by
  intro h;rw[hk33];exact Xc (bad h)
 have kk2:nameOk c.name=true→cdW c≤200→(c.unit=true→1≤c.health)→k33 [.bool false] []:=by
  intro n1 n2 n3;rw[hk33]; clear hk33 kk1 k33;rw[n1,decide_eq_true n2,Bool.true_and,Bool.true_and] at bad ⊢;refine Xe ?_;repeat first|refine Za (ldr (row:=cdC c) rfl) ?_|refine Za rfl ?_
  apply cutF (cdSum c=true)
  ·intro hR;cases hu:c.unit with
   |true=>
    repeat first|refine Ya ?_|refine Xa ?_|refine Qa rfl ?_|refine Yb rfl ?_|refine Qb rfl ?_|refine Zc rfl ?_|refine Za (ldr (row:=cdC c) rfl) ?_|refine Za rfl ?_
    refine Xe (hR ?_);simp[cdSum,hu,n3 hu]
   |false=>
    repeat first|refine Ya ?_|refine Xa ?_|refine Qa rfl ?_|refine Yb rfl ?_|refine Qb rfl ?_|refine Zc rfl ?_|refine Za (ldr (row:=cdC c) rfl) ?_|refine Za rfl ?_
    rw[wrapI (n:=c.power+c.health) (by omega) (by omega),wrapI (n:=c.power+c.health+c.shield) (by omega) (by omega),wrapI (n:=c.power+c.health+c.shield+c.aurap) (by omega) (by omega),wrapI (n:=c.power+c.health+c.shield+c.aurap+c.aurah) (by omega) (by omega)];rcases YBE (decide (c.power+c.health+c.shield+c.aurap+c.aurah>0)) with h|h
    ·rw[h];repeat first|refine Ya ?_|refine Xa ?_|refine Qa rfl ?_|refine Yb rfl ?_|refine Qb rfl ?_|refine Zc rfl ?_|refine Za (ldr (row:=cdC c) rfl) ?_|refine Za rfl ?_
     refine Xc (bad ?_);have h:¬(c.power+c.health+c.shield+c.aurap+c.aurah≤0):=by simp at h; omega
     simp[cdSum,hu,h]
    rw[h];repeat first|refine Ya ?_|refine Xa ?_|refine Za (ldr (row:=cdC c) rfl) ?_|refine Za rfl ?_
    have h:(c.power+c.health+c.shield+c.aurap+c.aurah≤0):=by simp at h; omega
    have l1:=Xz f2;have l2:=Xz f3;rw[bigE] at l1 l2;rw[List.length_map,List.length_map,wrapI (n:=(c.dead.length:Int)+(c.dawn.length:Int)) (by omega) (by omega)];refine Zb (λh2=>bad ?_) (λh2=>hR ?_)
    ·have h2:¬(c.dead.length+c.dawn.length=0):=by simp at h2; omega
     have:cdSum c=false:=by rw[cdSum,hu,decide_eq_false h2]; simp
     simp[this]
    ·have h2:(c.dead.length+c.dawn.length=0):=by simp at h2; omega
     rw[cdSum,hu,decide_eq_true h2,decide_eq_true h]; rfl
  intro b7;rw[b7,Bool.true_and];refine Za rfl (Zd rfl rfl (Za rfl (Za rfl (Za (ldr (row:=cdC c) rfl) ?_))));refine YD (c157 m cs hU true c.played 1 f1 (by omega)) rfl g118.ok.plain rfl rfl ?_;refine Za rfl (Zb (λp1=>?_) (λp1=>?_))
  ·have p1:lstOk cs true 1 c.played=false:=by simpa using p1
   rw[p1]; rfl
  have p1:lstOk cs true 1 c.played=true:=by simpa using p1
  rw[p1,Bool.true_and];refine Za rfl (Za rfl (Zd rfl rfl (Za rfl (Za rfl (Za (ldr (row:=cdC c) rfl) ?_)))));refine YD (c157 m cs hU false c.dead 1 f2 (by omega)) rfl g118.ok.plain rfl rfl ?_;rcases YBE (lstOk cs false 1 c.dead) with p2|p2
  rotate_left
  ·rw[p2];repeat first|refine Ya ?_|refine Xa ?_|refine Qa rfl ?_|refine Yb rfl ?_|refine Qb rfl ?_|refine Zc rfl ?_|refine Za (ldr (row:=cdC c) rfl) ?_|refine Za rfl ?_
   rfl
  rw[p2];repeat first|refine Ya ?_|refine Xa ?_|refine Za (ldr (row:=cdC c) rfl) ?_|refine Za rfl ?_
  refine YD (c157 m cs hU false c.dawn 1 f3 (by omega)) rfl g118.ok.plain rfl rfl ?_;repeat first|refine Ya ?_|refine Xa ?_|refine Za (ldr (row:=cdC c) rfl) ?_|refine Za rfl ?_
  rfl
 clear hk33 bad;refine Zb (λn1=>?_) (λn1=>?_)
 ·rw[n1];refine kk1 ?_;have n1:nameOk c.name=false:=by simpa using n1
  rw[n1]; rfl
 have n1:nameOk c.name=true:=by simpa using n1
 refine Za rfl (Za (ldr (cdLd c)) ?_);refine Xb h124 rfl g117.ok.plain rfl ?_;refine Za rfl (Zb (λn2=>?_) (λn2=>?_))
 ·rw[n2];refine kk1 ?_;have n2:¬cdW c≤200:=by simp at n2; omega
  rw[decide_eq_false n2]; simp
 have n2:cdW c≤200:=by simp at n2; omega
 repeat first|refine Za (ldr (row:=cdC c) rfl) ?_|refine Za rfl ?_
 cases hu:c.unit with
 |false=>
  repeat first|refine Ya ?_|refine Xa ?_|refine Qa rfl ?_|refine Yb rfl ?_|refine Qb rfl ?_|refine Zc rfl ?_|refine Za (ldr (row:=cdC c) rfl) ?_|refine Za rfl ?_
  exact kk2 n1 n2 (λh=>by rw[hu] at h; cases h)
 |true=>
  repeat first|refine Ya ?_|refine Xa ?_|refine Za (ldr (row:=cdC c) rfl) ?_|refine Za rfl ?_
  rcases YBE (decide (c.health<1)) with h|h
  ·rw[h];refine kk1 ?_;have:cdSum c=false:=by simp at h; simp[cdSum,hu]; omega
   rw[this]; simp
  ·rw[h];exact kk2 n1 n2 (λ_=>by simp at h; omega)
end Go.Ah.Tz
end
section
namespace Go.Ah.Tz
open Go.Proofs.Tryz (prog)
def tput(t:Tx)(v:Bool):List (Tx×Bool)→List (Tx×Bool)
 |[]=>[(t,v)]
 |p::l=>if t==p.1 then (t,v)::l else p::tput t v l
theorem XbN(t:Tx)(v:Bool):∀l,aput (.str t) (.bool v) (mpE l)=some (mpE (tput t v l))
 |[]=>rfl
 |p::l=>by
  simp only[mpE,List.map_cons,aput,keyEq,tput];cases h:t==p.1 with
  |true=>rfl
  |false=>
   have:=XbN t v l;simp only[mpE] at this;simp only[this]; rfl
theorem YS(t n:Tx)(v:Bool):∀l,tlook t (tput n v l)=if t==n then some v else tlook t l
 |[]=>by simp[tput,tlook]
 |p::l=>by
  simp only[tput];by_cases h:n==p.1
  ·simp_all [tlook]
  ·rw[if_neg h,tlook,tlook,YS t n v l]
   grind
theorem Xbi:∀l,roES (mpE l)=true
 |[]=>rfl
 |p::l=>by
  have:=Xbi l;simp only[mpE] at this;simp[mpE,roES,AVal.ro,this]
theorem Zce{σ:List ABlk}{b:Nat}{l:List (Tx×Bool)}(h:hget σ b=.map (mpE l))(row:List AVal)(j:Nat):Xs σ 1000 [.rptr row j,.map b]=some ([.rptr row j,.rmap (mpE l)],[b]):=by
 simp_all [Xs,Xbi]
theorem XcY{σ:List ABlk}{b:Nat}{l:List (Tx×Bool)}(h:hget σ b=.map (mpE l))(t:Tx):Xr true true (.bool false) [.map b,.str t] σ=.ok (.tup [.bool ((tlook t l).getD false),.bool (tlook t l).isSome]) [b] []:=by
 simp only[Xr,X8,mapOf,h,Zac,cond_true];cases tlook t l<;>rfl
theorem Zbe{σ:List ABlk}{b:Nat}{l:List (Tx×Bool)}(h:hget σ b=.map (mpE l))(t:Tx):Xr true false (.bool false) [.map b,.str t] σ=.ok (.bool ((tlook t l).getD false)) [b] []:=by
 simp only[Xr,X8,mapOf,h,Zac,cond_true];cases tlook t l<;>rfl
theorem Qbn{σ:List ABlk}{b:Nat}{l:List (Tx×Bool)}(h:hget σ b=.map (mpE l))(t:Tx)(v:Bool):Xy true [.map b,.str t,.bool v] σ=.ok .junk [] [(b,.map (mpE (tput t v l)))]:=by
 simp_all [Xy,X8,XbN]
def findO:List Cd→Tx→Option Bool
 |[],_=>none
 |c::l,t=>if c.name==t then some c.unit else findO l t
theorem Ycm:∀ (l:List Cd) (t:Tx) (u:Bool),findC l t u=(match findO l t with
 |none=>false
 | some b=>b || !u)
 |[],_,_=>rfl
 |c::l,t,u=>by
  simp only[findC,findO];by_cases h:c.name==t<;>simp_all [Ycm]
theorem Xax:∀ (l:List Cd) (c:Cd) (t:Tx),findO (l ++ [c]) t=(match findO l t with
 |some b=>some b
 | none=>if c.name == t then some c.unit else none)
 |[],_,_=>rfl
 |d::l,c,t=>by
  simp only[List.cons_append,findO];by_cases h:d.name==t<;>simp_all [Xax]
def UnitsO(m:List (Tx×Bool))(l:List Cd):Prop:=∀t,tlook t m=findO l t
theorem UnitsO.units{m:List (Tx×Bool)}{l:List Cd}(h:UnitsO m l):Units m l:=by
 intro t u; rw[Ycm,h t]<;>cases findO l t<;>rfl
theorem UnitsO.old{m:List (Tx×Bool)}{l:List Cd}(h:UnitsO m l){c:Cd}(hc:(tlook c.name m).isSome=true):UnitsO m (l++[c]):=by
 intro t;rw[Xax,←h t]
 grind
theorem UnitsO.new{m:List (Tx×Bool)}{l:List Cd}(h:UnitsO m l){c:Cd}(hc:(tlook c.name m).isSome=false):UnitsO (tput c.name c.unit m) (l++[c]):=by
 intro t;rw[Xax,←h t,YS]
 grind
def Seen(m:List (Tx×Bool))(l:List Cd):Prop:=∀t,(tlook t m).getD false=l.any λd=>d.name==t
theorem Seen.put{m:List (Tx×Bool)}{l:List Cd}(h:Seen m l)(c:Cd):Seen (tput c.name true m) (l++[c]):=by
 intro t;rw[YS,List.any_append,←h t]
 grind
theorem Qs{σ:List ABlk}{b:Nat}(x:ABlk)(h:b<σ.length):hget (σ.set b x) b=x:=XO (by simp[h])
attribute [local irreducible] Ans.rd Ans.pu Ans.wr Ans.dr Ans.gr Ans.gw Ans.gl Ans.gd Ans.opt joinK W
set_option maxHeartbeats 1000000
theorem c180(cs:List Cd)(hf:QT cs=true)(h221:∀m,Units m cs→∀c∈cs,PC 73 [.rptr (cdC c) 0,.rmap (mpE m)] (.bool (cdOk cs c))) :
  PC 41 [cdV cs] (.agg [iv (cdsChk cs).1,iv (cdsChk cs).2]):=by
 simp only[QT,Bool.and_eq_true,decide_eq_true_eq] at hf;obtain⟨f0,f1⟩:=hf;rw[bigE] at f0;refine Yc hP g41.ok rfl rfl ?_;rw[H1.e]; unfold g41; dsimp only;refine Zd rfl rfl (Za rfl (Za rfl ?_));refine Zb (λh=>?_) (λh=>?_)
 ·have h:240<cs.length:=by simp at h; omega
  refine Za rfl (Zd rfl rfl (Zt rfl ?_));rw[cdsChk,if_pos h]
 have h:¬240<cs.length:=by simp at h; omega
 rw[cdsChk,if_neg h];refine Zd rfl rfl (Za rfl ?_);refine Zg (ι:=Nat) (λi vs σ=>∃m,vs=[iv i]∧hget σ 0=.box [iv 0,iv 0]∧hget σ 1=.map (mpE m)∧1<σ.length∧i≤cs.length∧UnitsO m (cs.take i)) (λi=>cs.length-i) 0 ⟨[],rfl,rfl,rfl,by simp,by omega,λt=>by simp[tlook,findO]⟩ ?_;rintro i vs σ again ⟨m,rfl,hz,hm,hln,hi,hu⟩ hag;refine Za rfl ?_;refine Zb (λh=>?_) (λh=>?_)
 ·have hil:i<cs.length:=by simpa using h
  have hix:=λ(s:List ABlk)=>Yk s cdC false false 12 cs .i64 i hil;have htk:cs.take (i+1)=cs.take i++[cs[i]]:=Xu cs i hil;generalize cs[i]=c at hix htk;refine Yh λk10 hk10=>?_;have kk:∀m' σ',UnitsO m' (cs.take i++[c])→hget σ' 0=.box [iv 0,iv 0]→hget σ' 1=.map (mpE m')→1<σ'.length→k10 [] σ':=by
   intro m' σ' q1 q2 q3 q4;rw[hk10];refine Za (Yf ..) ?_;rw[Qc (n:=i) (by omega)]
   grind
  clear hk10 hag;refine Za (hix _) (Za (ldr (cdLd _)) (Zy (row:=cdC c) (row':=cdC c) rfl rfl rfl ?_));have hB0:=Qi σ (ABlk.box (cdC c));have hz':hget (σ++[ABlk.box (cdC c)]) 0=.box [iv 0,iv 0]:=Xj _ hz (by simp);have hm':hget (σ++[ABlk.box (cdC c)]) 1=.map (mpE m):=Xj _ hm (by simp);have hl':1<(σ++[ABlk.box (cdC c)]).length:=by simp; omega
  generalize σ++[ABlk.box (cdC c)]=base at hB0 hz' hm' hl' ⊢;generalize σ.length=b at hB0 ⊢;refine Za rfl (Za (ld hB0 rfl) (Za (XcY hm' _) (Za rfl (Za rfl (Za rfl ?_)))));refine Zb (λh=>?_) (λh=>?_)
  ·have h:(tlook c.name m).isSome=false:=by simpa using h
   refine Za rfl (Za (ld hB0 rfl) (Za rfl (Za (ld hB0 rfl) (Zd (Qbn hm' _ _) (Zz _ hl') ?_))));exact kk _ _ (hu.new h) (Yp hz' (by simp) (by omega)) (Qs _ hl') (by simpa using hl')
  ·have h:(tlook c.name m).isSome=true:=by simpa using h
   exact kk _ _ (hu.old h) hz' hm' hl'
 have h:i=cs.length:=by simp at h; omega
 subst h;rw[List.take_length] at hu;have hmay:=h221 m hu.units;clear hag hu h221;refine Zd rfl (QE _ _) (Za rfl ?_);have hz':hget (σ++[ABlk.map []]) 0=.box [iv 0,iv 0]:=Xj _ hz (by simp);have hm':hget (σ++[ABlk.map []]) 1=.map (mpE m):=Xj _ hm (by simp);have hs':hget (σ++[ABlk.map []]) σ.length=.map (mpE []):=Qi _ _;have hl':σ.length<(σ++[ABlk.map []]).length:=by simp
 generalize σ++[ABlk.map []]=base at hz' hm' hs' hl' ⊢;generalize σ.length=b at hs' hl' hln ⊢;refine Zg (ι:=Nat) (λi vs s=>∃m2,vs=[iv i]∧hget s 0=.box [iv 0,iv 0]∧hget s 1=.map (mpE m)∧hget s b=.map (mpE m2)∧b<s.length∧i≤cs.length∧Seen m2 (cs.take i)∧cdsGo cs [] cs=cdsGo cs (cs.take i) (cs.drop i)) (λi=>cs.length-i) 0 ⟨[],rfl,hz',hm',hs',hl',by omega,λt=>by simp[tlook],by simp⟩ ?_;clear hz' hm' hs' hl' base hz hm σ;rintro i vs s again ⟨m2,rfl,hz,hm,hs,hl,hi,hse,hu⟩ hag;refine Za rfl ?_;refine Zb (λh=>?_) (λh=>?_);rotate_left
 ·have h:i=cs.length:=by simp at h; omega
  subst h;rw[List.drop_length,cdsGo] at hu;refine Za rfl (Zd (stv hz rfl rfl rfl) (Zz _ (by show 0<s.length; omega)) (Zt (QI (by show 0<s.length; omega) rfl) ?_));rw[hu]
 have hil:i<cs.length:=by simpa using h
 have hdr:cs.drop i=cs[i]::cs.drop (i+1):=by rw[YLD hil]
 have hix:=λ(s:List ABlk)=>Yk s cdC false false 12 cs .i64 i hil;have htk:cs.take (i+1)=cs.take i++[cs[i]]:=Xu cs i hil;have hmy:=hmay _ (List.getElem_mem hil);generalize cs[i]=c at hix htk hdr hmy;rw[hdr,cdsGo,←hse c.name] at hu;refine Za (hix _) (Za rfl (Za rfl (Za (ldr (cdLd0 _)) (Za (Zbe hs _) ?_))));refine Zb (λh=>?_) (λh=>?_)
 ·rw[if_pos h] at hu;refine Za rfl (Za rfl (Za (ldr (YbO _)) (Za rfl (Zd (stv hz rfl rfl rfl) (Zz _ (by show 0<s.length; omega)) (Zt (QI (by show 0<s.length; omega) rfl) ?_)))));rw[hu]
 rw[if_neg (by rw[h]; simp)] at hu;refine YD hmy rfl g73.ok.plain (Zce hm _ _) rfl ?_;refine Za rfl ?_;refine Zb (λh=>?_) (λh=>?_)
 ·have h:cdOk cs c=false:=by simpa using h
  rw[h] at hu
  replace hu:cdsGo cs [] cs=(130,c.pl):=hu
  refine Za rfl (Za rfl (Za (ldr (YbO _)) (Za rfl (Zd (stv hz rfl rfl rfl) (Zz _ (by show 0<s.length; omega)) (Zt (QI (by show 0<s.length; omega) rfl) ?_)))));rw[hu]
 ·have h:cdOk cs c=true:=by simpa using h
  rw[h,if_pos rfl] at hu;refine Za rfl (Za rfl (Za (ldr (cdLd0 _)) (Zd (Qbn hs _ _) (Zz _ hl) (Za (Yf ..) ?_))));rw[Qc (n:=i) (by omega)];refine hag (i+1) _ _ (by omega) ⟨_,rfl,?_,?_,Qs _ hl,by simpa using hl,by omega,by rw[htk]; exact hse.put c,by rw[htk]; exact hu⟩
  ·exact Yp hz (by simp) (by omega)
  ·exact Yp hm (by simp) (by omega)
end Go.Ah.Tz
end
section
namespace Go.Ah
inductive GT:Type 1 where
 |leaf
 |node (k np:Nat) (g:GFun) (l r:GT)
def GT.get:GT→Nat→Option (Nat×GFun)
 |.leaf,_=>none
 |.node k np g l r,f=>match Nat.beq f k with
  |true=>some (np,g)
  |false=>match Nat.blt f k with
   |true=>l.get f
   |false=>r.get f
def GT.Ok(P:Program)(GL:Globs):GT→Prop
 |.leaf=>True
 |.node k np g l r=>GOk P GL k np g∧l.Ok P GL∧r.Ok P GL
theorem GT.get_ok{P:Program}{GL:Globs}:∀ {t:GT},t.Ok P GL→∀f np g,t.get f=some (np,g)→GOk P GL f np g
 |.leaf,_,f,np,g,h=>by simp only[GT.get] at h; cases h
 |.node k np' g' l r,ok,f,np,g,h=>by
  unfold GT.get at h;obtain⟨o1,o2,o3⟩:=ok;split at h
  ·rename_i hb;have:=YNB hb;subst this;cases h;exact o1
  ·split at h
   ·exact GT.get_ok o2 f np g h
   ·exact GT.get_ok o3 f np g h
end Go.Ah
end
section
namespace Go.Ah.Tz
open Go.Proofs.Tryz (prog)
set_option maxRecDepth 100000
noncomputable def tb:GT:=(.node 274 2 g274.u (.node 256 2 g256.u (.node 225 1 g225.u .leaf .leaf) (.node 257 1 g257.u .leaf .leaf)) (.node 282 2 g282.u (.node 281 2 g281.u .leaf .leaf) .leaf))
theorem tb_ok:tb.Ok prog GL0:=⟨g274.ok,⟨g256.ok,⟨g225.ok,trivial,trivial⟩,⟨g257.ok,trivial,trivial⟩⟩,⟨g282.ok,⟨g281.ok,trivial,trivial⟩,trivial⟩⟩
end Go.Ah.Tz
end
section
namespace Go.Ah.Tz
open Go.Proofs.Tryz (prog)
set_option maxRecDepth 1000000
theorem hTm:∀f np g,tb.get f=some (np,g)→GQ f np g:=GT.get_ok tb_ok
def ownTx:Tx:=[99,97,114,100,32,117,110,105,116,32,99,104,97,114,109,32,102,111,114,109,97,116,32,112,108,97,121,101,100,32,100,101,97,100,32,100,97,119,110,32,97,117,114,97,32,115,104,105,101,108,100,32,104,97,114,109,32,109,101,110,100,32,100,114,97,119,32,103,97,105,110,32,100,114,111,112,32,108,111,111,107,32,115,104,111,119,32,115,117,109,109,111,110,32,105,102,32,101,108,115,101,32,109,101,32,102,111,101,32,116,97,114,103,101,116,32,108,105,102,101,32,104,97,110,100,32,100,101,99,107,32,117,110,105,116,115,32,109,97,110,97,32,99,111,115,116,32,116,111,112,32,112,111,119,101,114,32,109,105,110,32,109,97,120,32,110,111,116,32,97,110,100,32,111,114,32,104,111,108,100,115,32,108,101,97,115,116,32,109,111,115,116,32,99,111,112,105,101,115,32,98,97,110,110,101,100,32,115,105,110,103,108,101]
theorem p264:PC 225 [.str ownTx] (.rsl true false 1 (keysR.map txC)):=ZaJ hP hTm (much:=1000000000) 60 (by kernel_rfl)
def ownM:List (Tx×Bool):=keysR.foldl (λm k=>tput k true m) []
theorem Qa9(t:Tx):∀(l:List Tx) (m:List (Tx×Bool)),(tlook t (l.foldl (λm k=>tput k true m) m)).getD false=((tlook t m).getD false||ownIn l t)
 |[],m=>by simp[ownIn]
 |k::l,m=>by
  rw[List.foldl_cons,Qa9 t l,YS,ownIn];by_cases h:t==k
  ·have e:t=k:=by simpa using h
   subst e; simp
  ·have h2:(k==t)=false:=by
    rw[Bool.eq_false_iff]; intro q; apply h; simp at q; simp[q]
   rw[if_neg h,h2,Bool.false_or]
theorem Xc1(t:Tx):(tlook t ownM).getD false=ownIn keysR t:=by
 rw[ownM,Qa9]; rfl
attribute [local irreducible] Ans.rd Ans.pu Ans.wr Ans.dr Ans.gr Ans.gw Ans.gl Ans.gd Ans.opt joinK W
theorem c258:PC 191 [] (.rmap (mpE ownM)):=by
 refine Zbt hP g191.ok rfl ⟨.map 0,[.map (mpE ownM)],?_,?_⟩
 ·show (match Xs [.map (mpE ownM)] (998 + 1 + 1) [.map 0] with
   |some ([y],_)=>some y
   | _=>none)=_
  have:hget [ABlk.map (mpE ownM)] 0=.map (mpE ownM):=rfl;simp only[Xs,this,Xbi,cond_true]
 unfold g191; dsimp only[H0.u];refine Zd rfl rfl ?_;refine Xb p264 rfl g225.ok.plain rfl ?_;refine Za rfl ?_;have hlen:keysR.length=41:=rfl;unfold ownM;generalize keysR=l at hlen ⊢;refine Zg (ι:=Nat) (λi vs σ=>∃m,vs=[iv i]∧σ=[.map (mpE m)]∧i≤l.length∧l.foldl (λm k=>tput k true m) []=(l.drop i).foldl (λm k=>tput k true m) m) (λi=>l.length-i) 0 ⟨[],rfl,rfl,by omega,by simp⟩ ?_;rintro i vs σ again ⟨m,rfl,rfl,hi,hu⟩ hag;refine Za rfl ?_;refine Zb (λh=>?_) (λh=>?_)
 ·have h:i<l.length:=by simpa using h
  have hdr:l.drop i=l[i]::l.drop (i+1):=by rw[YLD h]
  rw[hdr,List.foldl_cons] at hu;refine Za (Yk _ txC _ _ _ l .i64 i h) (Za (ldr (txLd _)) (Zd (Qbn (b:=0) rfl _ _) rfl (Za (Yf ..) ?_)));rw[Qc (n:=i) (by omega)];exact hag (i+1) _ _ (by omega) ⟨_,rfl,rfl,by omega,hu⟩
 ·have h:i=l.length:=by simp at h; omega
  subst h;rw[List.drop_length,List.foldl_nil] at hu;rw[hu]; exact⟨rfl,rfl⟩
theorem c242(s:Tx):PC 126 [.str s] (.bool (ownIn keysR s)):=by
 refine Yc hP g126.ok rfl rfl ?_;rw[H1.e]; unfold g126; dsimp only;refine Xb c258 rfl g191.ok.plain rfl ?_;refine Za (Xh ..) ?_;rw[Xc1]
end Go.Ah.Tz
end
section
namespace Go.Ah.Tz
open Go.Proofs.Tryz (prog)
attribute [local irreducible] Ans.rd Ans.pu Ans.wr Ans.dr Ans.gr Ans.gw Ans.gl Ans.gd Ans.opt joinK W
theorem c257(x:Int):PC 190 [.int .i32 x] (.bool (isDig x)):=by
 refine Yc hP g190.ok rfl rfl ?_;rw[H1.e]; unfold g190; dsimp only;refine Za rfl (Yaa rfl rfl ?_);exact congrArg AVal.bool (by rw[Bool.eq_iff_iff]; simp[isDig])
theorem c256(x:Int):PC 189 [.int .i32 x] (.bool (isLet x)):=by
 refine Yc hP g189.ok rfl rfl ?_;rw[H1.e]; unfold g189; dsimp only;refine Za rfl (Yaa rfl rfl ?_);refine Yh λk1 hk1=>?_;have kk:∀c,c=decide ((97≤x∧x≤122)∨(65≤x∧x≤90))→k1 [.bool c] []:=by
  rintro c hc;rw[hk1]; clear hk1 k1;refine Zb (λh=>?_) (λh=>?_)
  ·rw[h] at hc;have hc:(97≤x∧x≤122)∨(65≤x∧x≤90):=by simpa using hc.symm
   exact congrArg AVal.bool (by rw[eq_comm,isLet,decide_eq_true_eq]; omega)
  rw[h] at hc;have hc:¬((97≤x∧x≤122)∨(65≤x∧x≤90)):=of_decide_eq_false hc.symm;refine Za (Yd ..) ?_;refine Yh λk1 hk1=>?_;have k2:∀c,c=decide (x=215∨x=247)→k1 [.bool c] []:=by
   rintro c hc2;rw[hk1]; clear hk1 k1;refine Zb (λh=>?_) (λh=>?_)
   ·rw[h] at hc2;have hc2:x=215∨x=247:=of_decide_eq_true hc2.symm;exact congrArg AVal.bool (by rw[eq_comm,isLet,decide_eq_false_iff_not]; omega)
   rw[h] at hc2;have hc2:¬(x=215∨x=247):=of_decide_eq_false hc2.symm;refine Za rfl (Yaa rfl rfl ?_);exact congrArg AVal.bool (by rw[Bool.eq_iff_iff,Bool.and_eq_true,isLet,decide_eq_true_eq,decide_eq_true_eq,decide_eq_true_eq]; omega)
  clear hk1;refine Zb (λh=>k2 _ ?_) (λh=>?_)
  ·rw[h]; rw[eq_comm,decide_eq_true_eq]; exact Or.inl (of_decide_eq_true h)
  ·have h:x≠215:=of_decide_eq_false h;refine Za (Yd ..) (k2 _ ?_);rw[Bool.eq_iff_iff,decide_eq_true_eq,decide_eq_true_eq]; omega
 clear hk1;refine Zb (λh=>kk _ ?_) (λh=>?_)
 ·rw[h]; rw[eq_comm,decide_eq_true_eq]; simp at h; omega
 ·refine Za rfl (Yaa rfl rfl (kk _ ?_));rw[Bool.eq_iff_iff,Bool.and_eq_true,decide_eq_true_eq,decide_eq_true_eq,decide_eq_true_eq]; simp at h; omega
end Go.Ah.Tz
end
section
namespace Go.Ah.Tz
theorem all256{p:Nat→Bool}(h:(List.range 256).all p=true){c:Nat}(hc:c<256):p c=true:=List.all_eq_true.1 h c (List.mem_range.2 hc)
theorem and31{c:Nat}(hc:c<256):bits .and .i64 (c:Int) 31=((c%32:Nat):Int):=by
 have:=all256 (p:=λc=>bits .and .i64 (c:Int) 31==((c%32:Nat):Int)) (by kernel_rfl) hc;simpa using this
theorem and15{c:Nat}(hc:c<256):bits .and .i64 (c:Int) 15=((c%16:Nat):Int):=by
 have:=all256 (p:=λc=>bits .and .i64 (c:Int) 15==((c%16:Nat):Int)) (by kernel_rfl) hc;simpa using this
theorem and7{c:Nat}(hc:c<256):bits .and .i64 (c:Int) 7=((c%8:Nat):Int):=by
 have:=all256 (p:=λc=>bits .and .i64 (c:Int) 7==((c%8:Nat):Int)) (by kernel_rfl) hc;simpa using this
theorem and63{c:Nat}(hc:c<256):bits .and .u8 (c:Int) 63=((c%64:Nat):Int):=by
 have:=all256 (p:=λc=>bits .and .u8 (c:Int) 63==((c%64:Nat):Int)) (by kernel_rfl) hc;simpa using this
theorem and192{c:Nat}(hc:c<256):(bits .and .u8 (c:Int) 192 != 128) = !(c/64==2):=by
 have:=all256 (p:=λc=>(bits .and .u8 (c:Int) 192 != 128) == !(c/64==2)) (by kernel_rfl) hc;simpa using this
theorem ZcL(c:UInt8):rCont c = !(c.toNat/64==2):=and192 c.toNat_lt
theorem or64(q y:Nat)(hq:q<1099511627776)(hy:y<64):bits .or .i64 ((q*64:Nat):Int) (y:Int)=((q*64+y:Nat):Int):=by
 have h1:(BitVec.ofInt 64 ((q*64:Nat):Int)).toNat=q*64:=by
  rw[BitVec.toNat_ofInt]; omega
 have h2:(BitVec.ofInt 64 (y:Int)).toNat=y:=by
  rw[BitVec.toNat_ofInt]; omega
 have h3:q*64 ||| y=q*64+y:=by
  have:=Nat.two_pow_add_eq_or_of_lt (i:=6) (b:=y) (by omega) q;rw[show 2 ^ 6*q=q*64 by omega] at this;exact this.symm
 show IntKind.i64.wrap (((BitVec.ofInt 64 ((q*64:Nat):Int)) ||| (BitVec.ofInt 64 (y:Int))).toNat:Int)=_;rw[BitVec.toNat_or,h1,h2,h3];exact wrapI (by omega) (by omega)
theorem XcL(x:Nat)(hx:x<1099511627776)(c:UInt8):rStep (x:Int) c=((x*64+c.toNat%64:Nat):Int):=by
 have e:shl6 (x:Int)=((x*64:Nat):Int):=by
  show IntKind.i64.wrap ((x:Int)*64)=_;rw[wrapI (by omega) (by omega)]; simp
 rw[rStep,e,and63 c.toNat_lt,wrapI (by omega) (by omega)];exact or64 x _ hx (Nat.mod_lt _ (by omega))
theorem Zck(s:Tx)(a:Nat)(ha:a<s.length) :
  (((runeR s a).2≠0→((Utf8.decode ⟨s.toArray⟩ a).1:Int)=(runeR s a).1∧(Utf8.decode ⟨s.toArray⟩ a).2=(runeR s a).2)∧((runeR s a).2=0→(Utf8.decode ⟨s.toArray⟩ a).1=65533)):=by
 have hat:∀k,((⟨s.toArray⟩:ByteArray).get! (a+k))=(s[a+k]?).getD 0:=by
  intro k;show (s.toArray)[a+k]! = _;simp[List.getElem!_eq_getElem?_getD];rfl
 have hsz:(⟨s.toArray⟩:ByteArray).size=s.length:=by simp[ByteArray.size]
 rw[runeR,List.getElem?_eq_getElem ha];unfold Utf8.decode;simp only[hat,hsz];have h0:(s[a+0]?).getD 0=s[a]:=by simp[List.getElem?_eq_getElem ha]
 rw[h0];have hb:s[a].toNat<256:=s[a].toNat_lt;generalize s[a].toNat=b at hb ⊢;have hcn:∀k,¬a+k<s.length→s[a+k]?=none:=λk h=>by simp; omega
 have ht:∀(i x:Nat),x<1000000→∀m,rTail s a (m+1) i (x:Int)=if a+i<s.length∧((s[a+i]?).getD 0).toNat/64=2 then rTail s a m (i+1) ((x*64+((s[a+i]?).getD 0).toNat%64:Nat):Int) else none:=by
  intro i x hx m;by_cases h:a+i<s.length
  ·rw[rTail,List.getElem?_eq_getElem h];simp only[ZcL,Option.getD_some,h,true_and];by_cases h2:s[a+i].toNat/64=2
   ·simp[h2,XcL x (by omega)]
   ·simp[h2]
  ·rw[rTail,hcn i h]; simp[h]
 have hcd:∀k,(decide (a+k<s.length)&&(((s[a+k]?).getD 0).toNat/64==2))=decide (a+k<s.length∧((s[a+k]?).getD 0).toNat/64=2):=by
  intro k; rw[Bool.eq_iff_iff]; simp
 simp only[hcd];have t1:=λx hx m=>ht 1 x hx m;have t2:=λx hx m=>ht 2 x hx m;have t3:=λx hx m=>ht 3 x hx m;clear ht hcd hcn hat hsz h0;generalize ((s[a+1]?).getD 0).toNat=d1 at *;generalize ((s[a+2]?).getD 0).toNat=d2 at *;generalize ((s[a+3]?).getD 0).toNat=d3 at *;by_cases c1:b<128
 ·have hh:rHead (b:Int)=some (1,(b:Int),0):=by
   rw[rHead,if_neg (by omega),if_neg (by omega),if_neg (by omega),if_neg (by omega)]
  simp only[hh,if_pos c1,Nat.sub_self,rTail,rEnd];rw[if_neg (by omega)]; simp
 rw[if_neg c1];by_cases c2:b<192
 ·have hh:rHead (b:Int)=none:=by
   rw[rHead,if_neg (by omega),if_neg (by omega),if_neg (by omega),if_pos (by omega)]
  simp only[hh];have e1:¬b/32=6:=by omega
  have e2:¬b/16=14:=by omega
  have e3:¬b/8=30:=by omega
  simp[e1,e2,e3,Utf8.runeError]
 by_cases c3:b<224
 ·have hh:rHead (b:Int)=some (2,((b%32:Nat):Int),128):=by
   rw[rHead,if_pos (by omega),and31 hb]
  have e1:b/32=6:=by omega
  have e2:¬b/16=14:=by omega
  have e3:¬b/8=30:=by omega
  simp only[hh];rw[t1 _ (by omega) 0];by_cases p1:a+1<s.length∧d1/64=2
  ·simp only[if_pos p1,rTail,rEnd,e1,decide_eq_true p1,beq_self_eq_true,Bool.and_self,if_true];by_cases y:b%32*64+d1%64 ≥ 128
   ·rw[if_pos y,if_neg (by omega)]; simp
   ·rw[if_neg y,if_pos (by omega)]; simp[Utf8.runeError]
  ·simp only[if_neg p1,rEnd,decide_eq_false p1,Bool.and_false,Bool.false_and,Bool.false_eq_true,if_false];simp[Utf8.runeError]
 by_cases c4:b<240
 ·have hh:rHead (b:Int)=some (3,((b%16:Nat):Int),2048):=by
   rw[rHead,if_neg (by omega),if_pos (by omega),and15 hb]
  have e1:¬b/32=6:=by omega
  have e2:b/16=14:=by omega
  have e3:¬b/8=30:=by omega
  simp only[hh];rw[t1 _ (by omega) 1];have f1:(b/32==6)=false:=by simpa using e1
  by_cases p1:a+1<s.length∧d1/64=2
  ·rw[if_pos p1,t2 _ (by omega) 0];by_cases p2:a+2<s.length∧d2/64=2
   ·simp only[if_pos p2,rTail,rEnd,f1,e2,decide_eq_true p1,decide_eq_true p2,beq_self_eq_true,Bool.and_self,if_true,Bool.false_and,Bool.false_eq_true,if_false];by_cases y:(b%16*64+d1%64)*64+d2%64<2048∨(55296≤(b%16*64+d1%64)*64+d2%64∧(b%16*64+d1%64)*64+d2%64≤57343)
    ·rw[if_pos (by omega),if_neg (by simp[Utf8.valid]; omega)]; simp[Utf8.runeError]
    ·rw[if_neg (by omega),if_pos (by simp[Utf8.valid]; omega)]; simp; omega
   ·simp only[if_neg p2,rEnd,f1,decide_eq_false p2,Bool.and_false,Bool.false_and,Bool.false_eq_true,if_false];simp[Utf8.runeError]
  ·simp only[if_neg p1,rEnd,f1,decide_eq_false p1,Bool.and_false,Bool.false_and,Bool.false_eq_true,if_false];simp[Utf8.runeError]
 by_cases c5:b<248
 ·have hh:rHead (b:Int)=some (4,((b%8:Nat):Int),65536):=by
   rw[rHead,if_neg (by omega),if_neg (by omega),if_pos (by omega),and7 hb]
  have e3:b/8=30:=by omega
  have f1:(b/32==6)=false:=by simp; omega
  have f2:(b/16==14)=false:=by simp; omega
  simp only[hh];rw[t1 _ (by omega) 2];by_cases p1:a+1<s.length∧d1/64=2
  ·rw[if_pos p1,t2 _ (by omega) 1];by_cases p2:a+2<s.length∧d2/64=2
   ·rw[if_pos p2,t3 _ (by omega) 0];by_cases p3:a+3<s.length∧d3/64=2
    ·simp only[if_pos p3,rTail,rEnd,f1,f2,e3,decide_eq_true p1,decide_eq_true p2,decide_eq_true p3,beq_self_eq_true,Bool.and_self,if_true,Bool.false_and,Bool.false_eq_true,if_false];by_cases y:((b%8*64+d1%64)*64+d2%64)*64+d3%64<65536∨1114111<((b%8*64+d1%64)*64+d2%64)*64+d3%64
     ·rw[if_pos (by omega),if_neg (by simp[Utf8.valid]; omega)]; simp[Utf8.runeError]
     ·rw[if_neg (by omega),if_pos (by simp[Utf8.valid]; omega)]; simp; omega
    ·simp only[if_neg p3,rEnd,f1,f2,decide_eq_false p3,Bool.and_false,Bool.false_and,Bool.false_eq_true,if_false];simp[Utf8.runeError]
   ·simp only[if_neg p2,rEnd,f1,f2,decide_eq_false p2,Bool.and_false,Bool.false_and,Bool.false_eq_true,if_false];simp[Utf8.runeError]
  ·simp only[if_neg p1,rEnd,f1,f2,decide_eq_false p1,Bool.and_false,Bool.false_and,Bool.false_eq_true,if_false];simp[Utf8.runeError]
 ·have hh:rHead (b:Int)=none:=by
   rw[rHead,if_neg (by omega),if_neg (by omega),if_neg (by omega),if_pos (by omega)]
  simp only[hh];have e1:¬b/32=6:=by omega
  have e2:¬b/16=14:=by omega
  have e3:¬b/8=30:=by omega
  simp[e1,e2,e3,Utf8.runeError]
end Go.Ah.Tz
end
section
namespace Go.Ah.Tz
open Go.Proofs.Tryz (prog)
theorem YbX(s:Tx)(a:Nat):∀(m i:Nat) (x y:Int),rTail s a (m+1) i x=some y→a+i+m<s.length
 |m,i,x,y,h=>by
  rw[rTail] at h;cases e:s[a+i]? with
  |none=>rw[e] at h; cases h
  |some c=>
   have hl:a+i<s.length:=(YLG e).1;rw[e] at h;cases m with
   |zero=>omega
   |succ m=>
    have h2:(if rCont c=true then none else rTail s a (m+1) (i+1) (rStep x c))=some y:=h;split at h2
    ·cases h2
    ·have:=YbX s a m (i+1) _ _ h2;omega
theorem QcL(s:Tx)(a:Nat)(ha:a<s.length)(h:(runeR s a).2≠0):a+(runeR s a).2≤s.length:=by
 unfold runeR at h ⊢;rw[List.getElem?_eq_getElem ha] at h ⊢;simp only at h ⊢;cases e:rHead (s[a].toNat:Int) with
 |none=>rw[e] at h; simp at h
 |some p=>
  obtain⟨n,x,least⟩:=p;rw[e] at h;simp only at h ⊢;cases e2:rTail s a (n-1) 1 x with
  |none=>rw[e2] at h; simp[rEnd] at h
  |some y=>
   rw[e2] at h;have h3:(rEnd n least (some y)).2≤n:=by rw[rEnd]; split<;>simp
   by_cases hn:n≤1
   ·omega
   ·have:=YbX s a (n-2) 1 x y (by rw[show n-2+1=n-1 by omega]; exact e2);omega
attribute [local irreducible] Ans.rd Ans.pu Ans.wr Ans.dr Ans.gr Ans.gw Ans.gl Ans.gd Ans.opt joinK W
set_option maxHeartbeats 1000000
theorem Qda{s:Tx}{a:Nat}(h:a<s.length):Xaa [.iter 0] [.siter s a]=.ok (.tup [.bool true,iv a,.int .i32 (Utf8.decode ⟨s.toArray⟩ a).1]) [] [(0,.siter s (a+(Utf8.decode ⟨s.toArray⟩ a).2))]:=by
 have hb:Nat.blt a s.length=true:=by simpa[Nat.blt_eq] using h
 show (bif Nat.blt a s.length then _ else _)=_;rw[hb]; rfl
theorem QcY{s:Tx}{a:Nat}(h:¬a<s.length):Xaa [.iter 0] [.siter s a]=.ok (.tup [.bool false]) [0] []:=by
 have hb:Nat.blt a s.length=false:=by rw[Bool.eq_false_iff]; intro q; exact h (by simpa[Nat.blt_eq] using q)
 show (bif Nat.blt a s.length then _ else _)=_;rw[hb]; rfl
theorem c241(s:Tx)(hs:s.length≤big):PC 125 [.str s] (.tup [iv (nameR s 0 0).1,iv (nameR s 0 0).2]):=by
 rw[bigE] at hs;refine Yc hP g125.ok rfl rfl ?_;rw[H1.e]; unfold g125; dsimp only;refine Zd rfl rfl ?_;refine Zg (ι:=Nat) (λa vs σ=>∃n:Nat,vs=[iv n]∧σ=[.siter s a]∧n≤a∧(a=0↔n=0)∧a≤s.length∧nameR s 0 0=nameR s a n) (λa=>s.length-a) 0 ⟨0,rfl,rfl,by omega,by simp,by omega,rfl⟩ ?_;rintro a vs σ again ⟨n,rfl,rfl,i1,i0,i2,hu⟩ hag;by_cases h:a<s.length;rotate_left
 ·refine Zd (QcY h) rfl (Za rfl (Xe (Za rfl ?_)));rw[show nameR s a n=(a,n) by rw[nameR,dif_neg h]] at hu;rw[hu,show s.length=a by omega]; rfl
 refine Zd (Qda h) rfl (Za rfl (Xc (Za rfl (Za rfl ?_))));obtain⟨d1,d2⟩:=Zck s a h;have hin:=QcL s a h;generalize Utf8.decode ⟨s.toArray⟩ a=p at d1 d2 ⊢;have hst:YaE s a n↔(isLet (p.1:Int)=false∧(a=0∨(isDig (p.1:Int)=false∧(p.1:Int)≠39))):=by
  unfold YaE;by_cases h0:(runeR s a).2=0
  ·have:=d2 h0;rw[this];have e1:isLet 65533=false:=by decide
   have e2:isDig 65533=false:=by decide
   simp[h0,e1,e2]
  ·rw[(d1 h0).1];simp[h0,i0]
 have stp:(isLet (p.1:Int)=false∧(a=0∨(isDig (p.1:Int)=false∧(p.1:Int)≠39)))→AVal.tup [iv a,iv n]=AVal.tup [iv (nameR s 0 0).1,iv (nameR s 0 0).2]:=by
  intro q;rw[hu,nameR,dif_pos h,dif_pos (hst.2 q)]
 have go:¬(isLet (p.1:Int)=false∧(a=0∨(isDig (p.1:Int)=false∧(p.1:Int)≠39)))→VV.rd (Yn .add false [iv n,(.int .i64 1)] [.siter s (a+p.2)]) λt31=>again [t31] [.siter s (a+p.2)]:=by
  intro q;have q2:¬YaE s a n:=λz=>q (hst.1 z);have h0:(runeR s a).2≠0:=λe=>q2 (Or.inl e);have:=(d1 h0).2;have:=hin h0;refine Za (Yf ..) ?_;rw[Qc (n:=n) (by omega)];refine hag (a+p.2) _ _ (by omega) ⟨n+1,rfl,rfl,by omega,by omega,by omega,?_⟩;rw[hu,nameR,dif_pos h,dif_neg q2,(d1 h0).2]
 clear hag hu hst d1 d2 hin;generalize (p.1:Int)=r at stp go ⊢;refine Xb (c256 r) rfl g189.ok.plain rfl ?_;refine Za rfl ?_;rcases YBE (!isLet r) with h1|h1
 rotate_left
 ·rw[h1];repeat first|refine Ya ?_|refine Xa ?_|refine Qa rfl ?_|refine Yb rfl ?_|refine Qb rfl ?_|refine Zc rfl ?_|refine Za rfl ?_
  exact Xe (go (by have h1:isLet r=true:=(by simpa using h1); simp[h1]))
 rw[h1];have h1:isLet r=false:=by simpa using h1
 repeat first|refine Ya ?_|refine Xa ?_|refine Za rfl ?_
 rcases YBE ((a:Int)==0) with h2|h2
 ·rw[h2];repeat first|refine Ya ?_|refine Xa ?_|refine Qa rfl ?_|refine Yb rfl ?_|refine Qb rfl ?_|refine Zc rfl ?_|refine Za rfl ?_
  exact Xc (stp ⟨h1,Or.inl (by simpa using h2)⟩)
 rw[h2];have h2:a≠0:=by simpa using h2
 repeat first|refine Ya ?_|refine Xa ?_|refine Za rfl ?_
 refine Xb (c257 r) rfl g190.ok.plain rfl ?_;repeat first|refine Ya ?_|refine Xa ?_|refine Za rfl ?_
 rcases YBE (!isDig r) with h3|h3
 rotate_left
 ·rw[h3];repeat first|refine Ya ?_|refine Xa ?_|refine Qa rfl ?_|refine Yb rfl ?_|refine Qb rfl ?_|refine Zc rfl ?_|refine Za rfl ?_
  exact Xe (go (by have h3:isDig r=true:=(by simpa using h3); simp[h2,h3]))
 rw[h3];have h3:isDig r=false:=by simpa using h3
 repeat first|refine Ya ?_|refine Xa ?_|refine Za rfl ?_
 refine Zb (λh4=>stp ⟨h1,Or.inr ⟨h3,by simpa using h4⟩⟩) (λh4=>go ?_);have h4:r=39:=by simpa using h4
 simp[h2,h4]
theorem c223(s:Tx)(hs:s.length≤big):PC 75 [.str s] (.bool (nameOk s)):=by
 refine Yc hP g75.ok rfl rfl ?_;rw[H1.e]; unfold g75; dsimp only;refine Xb (c241 s hs) rfl g125.ok.plain rfl ?_;unfold nameOk;generalize (nameR s 0 0).1=e;generalize (nameR s 0 0).2=n;refine Za rfl (Za rfl (Za rfl ?_));rcases YBE (decide ((n:Int)>0)) with h1|h1
 rotate_left
 ·rw[h1];repeat first|refine Qa rfl ?_|refine Yb rfl ?_|refine Qb rfl ?_|refine Zc rfl ?_|refine Za rfl ?_
  have h1:¬1≤n:=by simp at h1; omega
  simp[h1]
 rw[h1];repeat first|refine Ya ?_|refine Xa ?_|refine Za rfl ?_
 rcases YBE (decide ((n:Int)≤24)) with h2|h2
 rotate_left
 ·rw[h2];repeat first|refine Qa rfl ?_|refine Yb rfl ?_|refine Qb rfl ?_|refine Zc rfl ?_|refine Za rfl ?_
  have h2:¬n≤24:=by simp at h2; omega
  simp[h2]
 rw[h2];repeat first|refine Ya ?_|refine Xa ?_|refine Za rfl ?_
 rcases YBE ((e:Int)==(s.length:Int)) with h3|h3
 rotate_left
 ·rw[h3];repeat first|refine Qa rfl ?_|refine Yb rfl ?_|refine Qb rfl ?_|refine Zc rfl ?_|refine Za rfl ?_
  have h3:¬e=s.length:=by simp at h3; omega
  simp[h3]
 rw[h3];repeat first|refine Ya ?_|refine Xa ?_|refine Za rfl ?_
 have h3:e=s.length:=by simp at h3; omega
 subst h3;rcases YBE (decide ((s.length:Int)≤40)) with h4|h4
 rotate_left
 ·rw[h4];repeat first|refine Qa rfl ?_|refine Yb rfl ?_|refine Qb rfl ?_|refine Zc rfl ?_|refine Za rfl ?_
  have h4:¬s.length≤40:=by simp at h4; omega
  simp[h4]
 rw[h4];repeat first|refine Ya ?_|refine Xa ?_|refine Za rfl ?_
 refine Xb (c242 _) rfl g126.ok.plain rfl ?_;repeat first|refine Ya ?_|refine Xa ?_|refine Za rfl ?_
 have h1:1≤n:=by simp at h1; omega
 have h2:n≤24:=by simp at h2; omega
 have h4:s.length≤40:=by simp at h4; omega
 simp[h1,h2,h4]
end Go.Ah.Tz
end
section
namespace Go.Ah.Tz
open Go.Proofs.Tryz (prog)
theorem Xbq(a:Int):lbN a=0∨lbN a=1∨lbN a=2∨lbN a=3:=by unfold lbN; split<;>omega
attribute [local irreducible] Ans.rd Ans.pu Ans.wr Ans.dr Ans.gr Ans.gw Ans.gl Ans.gd Ans.opt joinK W
theorem c252(a:Int):PC 185 [iv8 a] (iv8 (lbN a)):=by
 refine Yc hP g185.ok rfl rfl ?_;rw[H1.e]; unfold g185; dsimp only;refine Za rfl (ZD rfl rfl ?_);refine Zb (λh=>?_) (λh=>?_)
 ·rw[lbN,if_pos (by simpa using h)]
 ·rw[lbN,if_neg (by simpa using h)]
def joinT:AVal:=.agg [iv8 0,iv8 1,iv8 2,iv8 3,iv8 1,iv8 1,iv8 3,iv8 3,iv8 2,iv8 3,iv8 2,iv8 3,iv8 3,iv8 3,iv8 3,iv8 3]
theorem c263:PC 224 [] joinT:=by
 refine Yc hP g224.ok rfl rfl ?_;unfold g224; dsimp only[H0.u];refine Zd rfl rfl (Za rfl (Za rfl (Za rfl (Za rfl (Za rfl (Zd rfl rfl (Zt rfl ?_)))))));rfl
theorem c250(a b:Int):PC 183 [iv8 a,iv8 b] (iv8 (joinL a b)):=by
 refine Yc hP g183.ok rfl rfl ?_;rw[H2.e]; unfold g183; dsimp only;refine Qg c263 rfl g224.ok.plain rfl ?_;refine Qg (c252 a) rfl g185.ok.plain rfl ?_;have h1:=Xbq a;have h2:=Xbq b;unfold joinL;have k:=c252 b;generalize lbN a=p at h1 ⊢;generalize lbN b=q at h2 k ⊢;rcases h1 with h1|h1|h1|h1<;>subst h1<;>refine Yg rfl ?_<;>refine Qg k rfl g185.ok.plain rfl ?_<;>rcases h2 with h2|h2|h2|h2<;>subst h2<;>exact Yg rfl (XX (by kernel_rfl) rfl)
theorem c253(a b:Int):PC 186 [iv8 a,iv8 b] (.bool (decide (joinL a b=lbN b))):=by
 refine Yc hP g186.ok rfl rfl ?_;rw[H2.e]; unfold g186; dsimp only;refine Xb (c250 a b) rfl g183.ok.plain rfl ?_;refine Xb (c252 b) rfl g185.ok.plain rfl ?_;refine Za (Yd ..) ?_;rfl
theorem Qa4(b:Int):joinL b b=lbN b:=by rw[joinL,if_pos (Or.inl rfl)]
end Go.Ah.Tz
end
section
namespace Go.Ah.Tz
open Go.Proofs.Tryz (prog)
attribute [local irreducible] Ans.rd Ans.pu Ans.wr Ans.dr Ans.gr Ans.gw Ans.gl Ans.gd Ans.opt joinK W
set_option maxHeartbeats 1000000
theorem Yc1(x:Nm):nmL x=if x.op=6 then 3 else if 8≤x.op∧x.op≤12 then nmLs 0 x.kids else 0:=by
 rw[ZcT];by_cases h:x.op=6
 ·rw[if_neg (by omega),if_pos h,if_pos h]
 ·rw[if_neg h,if_neg h]
theorem c251':∀(k:Nat) (x:Nm),SizeOf.sizeOf x≤k→nmFit x=true→PC 184 [.agg (nmC x)] (iv8 (nmL x))
 |0,x,h,_=>by cases x; simp at h
 |k+1,x,hk,hf=>by
  rw[Yx];refine Yc hP g184.ok rfl rfl ?_;rw[H1.e]; unfold g184; dsimp only;refine Zd rfl rfl ?_;rw[Yc1];have hlen:=Y5 hf;rw[bigE] at hlen;generalize hB:([]++[ABlk.box [iv8 x.op,iv x.n,iv8 x.who,.rsl false false 4 (x.kids.map nmC)]]:List ABlk)=base;have hB0:hget base 0=.box [iv8 x.op,iv x.n,iv8 x.who,.rsl false false 4 (x.kids.map nmC)]:=by rw[←hB]; rfl
  clear hB;refine Za rfl (Za (ld hB0 rfl) (Za (Yd ..) ?_));refine Zb (λh=>?_) (λh=>?_)
  ·rw[if_pos (by simpa using h)]
  rw[if_neg (by simpa using h)];refine Za rfl (Za (ld hB0 rfl) (Za rfl ?_));refine Yaj rfl (ld hB0 rfl) rfl ?_;rw[show (decide (x.op ≥ 8)&&decide (x.op≤12))=decide (8≤x.op∧x.op≤12) by simp];refine Zb (λh=>?_) (λh=>?_);rotate_left
  ·rw[if_neg (by simpa using h)]
  rw[if_pos (by simpa using h)];refine Za rfl (Za (ld hB0 rfl) (Za rfl ?_));clear hB0;refine Zg (ι:=Nat) (λi vs σ=>∃n,vs=[iv i,iv8 n]∧i≤x.kids.length∧nmLs 0 x.kids=nmLs n (x.kids.drop i)) (λi=>x.kids.length-i) 0 ⟨0,rfl,by omega,by simp⟩ ?_;rintro i vs σ again ⟨n,rfl,hi,hu⟩ hag;refine Za rfl ?_;refine Zb (λh=>?_) (λh=>?_)
  ·have h:i<x.kids.length:=by simpa using h
   have hdr:x.kids.drop i=x.kids[i]::x.kids.drop (i+1):=by rw[YLD h]
   rw[hdr,nmLs] at hu;have hm:x.kids[i]∈x.kids:=List.getElem_mem h;have hix:=λ(s:List ABlk)=>Yk s nmC false false 4 x.kids .i64 i h;have hsz:=Qam hm;have hfk:=ZW hf hm;generalize x.kids[i]=y at hu hix hsz hfk;refine Za (hix _) (Za (ldr (nmLd _)) ?_);refine Zy (row:=[iv8 y.op,iv y.n,iv8 y.who,.rsl false false 4 (y.kids.map nmC)]) (row':=[iv8 y.op,iv y.n,iv8 y.who,.rsl false false 4 (y.kids.map nmC)]) (by rw[Yx]; rfl) rfl rfl ?_;have hB1:=Qi σ (ABlk.box [iv8 y.op,iv y.n,iv8 y.who,.rsl false false 4 (y.kids.map nmC)]);have hN:Qk true 4 [.bptr σ.length 0] (σ++[ABlk.box [iv8 y.op,iv y.n,iv8 y.who,.rsl false false 4 (y.kids.map nmC)]])=.ok (.agg (nmC y)) [σ.length] []:=ld hB1 (by rw[Yx]; rfl);refine Za hN ?_;refine Xb (c251' k y (by omega) hfk) rfl g184.ok.plain (nmRo _) ?_;refine Xb (c250 _ _) rfl g183.ok.plain rfl ?_;refine Za (Yf ..) ?_;rw[Qc (n:=i) (by omega)];exact hag (i+1) _ _ (by omega) ⟨_,rfl,by omega,hu⟩
  ·have h:i=x.kids.length:=by simp at h; omega
   subst h;rw[List.drop_length,nmLs] at hu;rw[hu]; rfl
theorem c251(x:Nm)(hf:nmFit x=true):PC 184 [.agg (nmC x)] (iv8 (nmL x)):=c251' _ x (Nat.le_refl _) hf
theorem c254':∀(k:Nat) (x:Cn),SizeOf.sizeOf x≤k→cnFit x=true→PC 187 [.agg (cnC x)] (iv8 (cnL x))
 |0,x,h,_=>by cases x; simp at h
 |k+1,x,hk,hf=>by
  rw[QH];refine Yc hP g187.ok rfl rfl ?_;rw[H1.e]; unfold g187; dsimp only;refine Zd rfl rfl ?_;rw[YcQ];have hl1:=YM hf;have hl2:=ZM hf;rw[bigE] at hl1 hl2;generalize hB:([]++[ABlk.box [iv8 x.op,iv8 x.who,.str x.name,.rsl false false 4 (x.nums.map nmC),.rsl false false 5 (x.kids.map cnC)]]:List ABlk)=base;have hB0:hget base 0=.box [iv8 x.op,iv8 x.who,.str x.name,.rsl false false 4 (x.nums.map nmC),.rsl false false 5 (x.kids.map cnC)]:=by rw[←hB]; rfl
  clear hB;refine Za rfl (Za (ld hB0 rfl) (Za (Yd ..) ?_));refine Zb (λh=>?_) (λh=>?_)
  ·rw[if_pos (by simpa using h)];refine Za rfl (Za (ld hB0 rfl) (Za (Yd ..) ?_));refine Zb (λh=>?_) (λh=>?_)
   ·rw[if_pos (by simpa using h)]
   rw[if_neg (by simpa using h)];refine Za (Yd ..) ?_;refine Zb (λh=>?_) (λh=>?_)
   ·rw[if_pos (by simpa using h)]
   ·rw[if_neg (by simpa using h)]
  rw[if_neg (by simpa using h)];refine Za rfl (Za (ld hB0 rfl) (Za rfl ?_));refine Zg (ι:=Nat) (λi vs σ=>∃n,vs=[iv i,iv8 n]∧hget σ 0=.box [iv8 x.op,iv8 x.who,.str x.name,.rsl false false 4 (x.nums.map nmC),.rsl false false 5 (x.kids.map cnC)]∧i≤x.nums.length∧nmLs 0 x.nums=nmLs n (x.nums.drop i)) (λi=>x.nums.length-i) 0 ⟨0,rfl,hB0,by omega,by simp⟩ ?_;rintro i vs σ again ⟨n,rfl,hB0,hi,hu⟩ hag;refine Za rfl ?_;refine Zb (λh=>?_) (λh=>?_)
  ·have h:i<x.nums.length:=by simpa using h
   have hdr:x.nums.drop i=x.nums[i]::x.nums.drop (i+1):=by rw[YLD h]
   rw[hdr,nmLs] at hu;have hm:x.nums[i]∈x.nums:=List.getElem_mem h;have hix:=λ(s:List ABlk)=>Yk s nmC false false 4 x.nums .i64 i h;have hfk:=XU hf hm;generalize x.nums[i]=y at hu hix hfk;refine Za (hix _) (Za (ldr (nmLd _)) ?_);refine Zy (row:=[iv8 y.op,iv y.n,iv8 y.who,.rsl false false 4 (y.kids.map nmC)]) (row':=[iv8 y.op,iv y.n,iv8 y.who,.rsl false false 4 (y.kids.map nmC)]) (by rw[Yx]; rfl) rfl rfl ?_;have hB1:=Qi σ (ABlk.box [iv8 y.op,iv y.n,iv8 y.who,.rsl false false 4 (y.kids.map nmC)]);have hN:Qk true 4 [.bptr σ.length 0] (σ++[ABlk.box [iv8 y.op,iv y.n,iv8 y.who,.rsl false false 4 (y.kids.map nmC)]])=.ok (.agg (nmC y)) [σ.length] []:=ld hB1 (by rw[Yx]; rfl);refine Za hN ?_;refine Xb (c251 y hfk) rfl g184.ok.plain (nmRo _) ?_;refine Xb (c250 _ _) rfl g183.ok.plain rfl ?_;refine Za (Yf ..) ?_;rw[Qc (n:=i) (by omega)];exact hag (i+1) _ _ (by omega) ⟨_,rfl,Xj _ hB0 (by simp),by omega,hu⟩
  have h:i=x.nums.length:=by simp at h; omega
  subst h;rw[List.drop_length,nmLs] at hu;rw[hu];clear hag hu hi;refine Za rfl (Za (ld hB0 rfl) (Za rfl ?_));refine Zg (ι:=Nat) (λi vs s=>∃m,vs=[iv i,iv8 m]∧i≤x.kids.length∧cnLs n x.kids=cnLs m (x.kids.drop i)) (λi=>x.kids.length-i) 0 ⟨n,rfl,by omega,by simp⟩ ?_;rintro i vs s again ⟨m,rfl,hi,hu⟩ hag;refine Za rfl ?_;refine Zb (λh=>?_) (λh=>?_)
  ·have h:i<x.kids.length:=by simpa using h
   have hdr:x.kids.drop i=x.kids[i]::x.kids.drop (i+1):=by rw[YLD h]
   rw[hdr,cnLs] at hu;have hm:x.kids[i]∈x.kids:=List.getElem_mem h;have hix:=λ(s:List ABlk)=>Yk s cnC false false 5 x.kids .i64 i h;have hfk:=YU hf hm;have hsz:=Zam hm;generalize x.kids[i]=y at hu hix hfk hsz;refine Za (hix _) (Za (ldr (cnLd _)) ?_);refine Zy (row:=[iv8 y.op,iv8 y.who,.str y.name,.rsl false false 4 (y.nums.map nmC),.rsl false false 5 (y.kids.map cnC)]) (row':=[iv8 y.op,iv8 y.who,.str y.name,.rsl false false 4 (y.nums.map nmC),.rsl false false 5 (y.kids.map cnC)]) (by rw[QH]; rfl) rfl rfl ?_;have hB1:=Qi s (ABlk.box [iv8 y.op,iv8 y.who,.str y.name,.rsl false false 4 (y.nums.map nmC),.rsl false false 5 (y.kids.map cnC)]);have hN:Qk true 5 [.bptr s.length 0] (s++[ABlk.box [iv8 y.op,iv8 y.who,.str y.name,.rsl false false 4 (y.nums.map nmC),.rsl false false 5 (y.kids.map cnC)]])=.ok (.agg (cnC y)) [s.length] []:=ld hB1 (by rw[QH]; rfl);refine Za hN ?_;refine Xb (c254' k y (by omega) hfk) rfl g187.ok.plain (cnRo _) ?_;refine Xb (c250 _ _) rfl g183.ok.plain rfl ?_;refine Za (Yf ..) ?_;rw[Qc (n:=i) (by omega)];exact hag (i+1) _ _ (by omega) ⟨_,rfl,by omega,hu⟩
  ·have h:i=x.kids.length:=by simp at h; omega
   subst h;rw[List.drop_length,cnLs] at hu;rw[hu]; rfl
theorem c254(x:Cn)(hf:cnFit x=true):PC 187 [.agg (cnC x)] (iv8 (cnL x)):=c254' _ x (Nat.le_refl _) hf
end Go.Ah.Tz
end
section
namespace Go.Ah.Tz
open Go.Proofs.Tryz (prog)
attribute [local irreducible] Ans.rd Ans.pu Ans.wr Ans.dr Ans.gr Ans.gw Ans.gl Ans.gd Ans.opt joinK W
theorem efRo(u:Int)(x:Ef):roL [.agg [iv8 u],.agg (efC x)]=true:=by rw[ZI]; rfl
theorem c235(u:Int)(x:Ef)(hf:efFit x=true):PC 119 [.agg [iv8 u],.agg (efC x)] (.bool (decide (joinL u (nmL x.n)=0))):=by
 rw[ZI];refine Yc hP g119.ok rfl rfl ?_;rw[H2.e]; unfold g119; dsimp only;refine Zd rfl rfl (Zd rfl rfl (Yg rfl (Qe rfl rfl (Yg rfl (Qe (ld (v:=.agg (nmC x.n)) rfl (by rw[Yx]; rfl)) rfl ?_)))));refine Qg (c251 _ (Z8 hf)) rfl g184.ok.plain (nmRo _) ?_;refine Qg (c250 _ _) rfl g183.ok.plain rfl ?_;exact Yg (Yd ..) (XX (by kernel_rfl) rfl)
theorem c236(u:Int)(x:Ef):PC 120 [.agg [iv8 u],.agg (efC x)] (.bool (decide (lbN u=0))):=by
 rw[ZI];refine Yc hP g120.ok rfl rfl ?_;rw[H2.e]; unfold g120; dsimp only;refine Zd rfl rfl (Zd rfl rfl (Za rfl (Za rfl ?_)));refine Xb (c252 _) rfl g185.ok.plain rfl ?_;exact Za (Yd ..) rfl
theorem c237(u:Int)(x:Ef)(hf:efFit x=true):PC 121 [.agg [iv8 u],.agg (efC x)] (.bool (Qa3 (joinL u (nmL x.n)) 1)):=by
 rw[ZI];refine Yc hP g121.ok rfl rfl ?_;rw[H2.e]; unfold g121; dsimp only;refine Zd rfl rfl (Zd rfl rfl (Yg rfl (Qe rfl rfl (Yg rfl (Qe (ld (v:=.agg (nmC x.n)) rfl (by rw[Yx]; rfl)) rfl ?_)))));refine Qg (c251 _ (Z8 hf)) rfl g184.ok.plain (nmRo _) ?_;refine Qg (c250 _ _) rfl g183.ok.plain rfl ?_;refine Qg (c253 _ _) rfl g186.ok.plain rfl ?_;refine XX (by kernel_rfl) ?_;rw[Qa3,Qa4]
end Go.Ah.Tz
end
section
namespace Go.Ah.Tz
open Go.Proofs.Tryz (prog)
theorem QG{σ:List ABlk}(l:List ABlk){c:Nat}(h:c<σ.length):hget (σ++l) c=hget σ c:=by
 simp_all [XO,List.getElem?_append_left]
theorem Zo{σ:List ABlk}{b c:Nat}(x:ABlk)(h:c<σ.length)(hc:c≠b):hget (σ.set b x) c=hget σ c:=by
 have h1:=XaR h;exact XO (by grind)
def Gr(σ0:List ABlk)(n:Nat)(rows:List (List AVal))(k:Nat)(v:AVal)(σ:List ABlk):Prop:=
 σ0.length≤σ.length∧(∀c,c<σ0.length→hget σ c=hget σ0 c)∧((k=0∧v=.nils∧rows=[])∨(0<k∧∃b,σ0.length≤b∧v=.sl b 0 k false∧hget σ b=.rows n rows∧rows.length=k))
theorem Gr.nil(n:Nat)(σ:List ABlk):Gr σ n [] 0 .nils σ:=⟨Nat.le_refl _,λ_ _=>rfl,.inl ⟨rfl,rfl,rfl⟩⟩
theorem Gr.grows{σ0 σ:List ABlk}{n k:Nat}{rows:List (List AVal)}{v:AVal}(h:Gr σ0 n rows k v σ):Grows n rows k v σ:=by
 rcases h.2.2 with h|⟨h1,b,_,h2,h3,h4⟩
 ·exact .inl h
 ·exact .inr ⟨h1,b,h2,h3,h4⟩
theorem Gr.old{σ0 σ:List ABlk}{n k:Nat}{rows:List (List AVal)}{v:AVal}(h:Gr σ0 n rows k v σ){c:Nat}{x:ABlk}(hx:hget σ0 c=x)(hd:x≠.dead):hget σ c=x:=by
 rw[h.2.1 c (Qn hx hd)]; exact hx
theorem Gr.base{σ0 σ:List ABlk}{l:List ABlk}{n k:Nat}{rows:List (List AVal)}{v:AVal}(h:Gr (σ0++l) n rows k v σ):Gr σ0 n rows k v σ:=by
 obtain⟨h1,h2,h3⟩:=h;simp only[List.length_append] at h1 h2 h3;refine⟨by omega,λc hc=>?_,?_⟩
 ·rw[h2 c (by omega),QG l hc]
 grind
theorem Gr.put{σ0 σ:List ABlk}{n by_ k:Nat}{rows:List (List AVal)}{v:AVal}{z cs:List AVal}{x:AVal}(hg:Gr σ0 n rows k v σ)(hx:fill z [(0,n)] [x]=some cs)(hc:chunk n 1 cs=some [cs])(hr:cs.all AVal.cell=true)(hroom:(2*(k+1)+192)*by_≤2 ^ 48){K:AVal→List ABlk→Prop}
 (hK:∀v' σ',Gr σ0 n (rows++[cs]) (k+1) v' σ'→K v' σ'):VV.wr (ZB n 1 z [(0,n)] [x] σ) σ (λt σ=>VV.wr (Yl n by_ [v,t] σ) σ K):=by
 rw[Y3 _ _ _ _ _ cs hx hc];obtain⟨g1,g2,hg⟩:=hg;rcases hg with ⟨rfl,rfl,rfl⟩|⟨hk,b,hb0,rfl,hb,hl⟩
 ·rw[Yba _ n by_ σ cs hr (by simpa using hroom)];refine hK _ _ ⟨by simp; omega,λc hc=>?_,.inr ⟨by omega,_,?_,rfl,by have:=Qi (σ++[.rows n [cs]]) (.rows n [cs]); simpa using this,rfl⟩⟩
  ·rw[QG _ (by simp; omega),QG _ (by omega),g2 c hc]
  ·omega
 ·rw[Xba _ n by_ σ b k false rows cs hb hl hr hroom];refine hK _ _ ⟨by simp; omega,λc hc=>?_,.inr ⟨by omega,_,?_,rfl,?_,by simp[hl]⟩⟩
  ·rw[QG _ (by simp; omega),QG _ (by simp; omega),Zo _ (by omega) (by omega),g2 c hc]
  ·omega
  ·have:=Qi (σ.set b .dead++[.rows n [cs]]) (.rows n (rows++[cs]));simpa using this
inductive Pt where
 |ef (x:Ef)
 |nm (x:Nm)
 |cn (x:Cn)
inductive PtV:AVal→Pt→Prop
 |ef (x:Ef):PtV (.iface 291 (.agg [.rptr (efC x) 0])) (.ef x)
 |nm (row:List AVal) (j:Nat) (x:Nm):NmAt row j x→PtV (.iface 304 (.agg [.rptr row j])) (.nm x)
 |cn (row:List AVal) (j:Nat) (x:Cn):CnAt row j x→PtV (.iface 331 (.agg [.rptr row j])) (.cn x)
def Pt.kids:Pt→List Pt
 |.ef x=>(if cntOp x.op then [.nm x.n] else [])++(if x.op=8 then .cn x.c::(x.thn.map .ef++x.els.map .ef) else [])
 |.nm x=>x.kids.map .nm
 |.cn x=>x.nums.map .nm++x.kids.map .cn
def Pt.fit:Pt→Bool
 |.ef x=>efFit x
 |.nm x=>nmFit x
 |.cn x=>cnFit x
mutual
def nmP:Nm→List Pt
 |.mk op n who kids=>.nm (.mk op n who kids)::nmPs kids
def nmPs:List Nm→List Pt
 |[]=>[]
 |x::l=>nmP x++nmPs l
end
mutual
def cnP:Cn→List Pt
 |.mk op who name nums kids=>.cn (.mk op who name nums kids)::(nmPs nums++cnPs kids)
def cnPs:List Cn→List Pt
 |[]=>[]
 |x::l=>cnP x++cnPs l
end
mutual
def efP:Ef→List Pt
 |.mk op who n name c thn els=>.ef (.mk op who n name c thn els)::((if cntOp op then nmP n else [])++(if op=8 then cnP c++(efPs thn++efPs els) else []))
def efPs:List Ef→List Pt
 |[]=>[]
 |x::l=>efP x++efPs l
end
def flat:Pt→List Pt
 |.ef x=>efP x
 |.nm x=>nmP x
 |.cn x=>cnP x
def flats:List Pt→List Pt
 |[]=>[]
 |p::l=>flat p++flats l
theorem QY:∀a b,flats (a++b)=flats a++flats b
 |[],b=>rfl
 |p::a,b=>by simp[flats,QY a b]
theorem Ybe:∀l,flats (l.map .nm)=nmPs l
 |[]=>rfl
 |x::l=>by simp[flats,Ybe l,flat,nmPs]
theorem YbS:∀l,flats (l.map .cn)=cnPs l
 |[]=>rfl
 |x::l=>by simp[flats,YbS l,flat,cnPs]
theorem Zat:∀l,flats (l.map .ef)=efPs l
 |[]=>rfl
 |x::l=>by simp[flats,Zat l,flat,efPs]
theorem Qcm(p:Pt):flat p=p::flats p.kids:=by
 cases p with
 |ef x=>
  obtain⟨op,who,n,name,c,thn,els⟩:=x;have e:Pt.kids (.ef (.mk op who n name c thn els))=(if cntOp op then [.nm n] else [])++(if op=8 then .cn c::(thn.map .ef++els.map .ef) else []):=rfl;rw[e,QY];simp only[flat,efP]
  congr 2
  ·by_cases h:cntOp op=true<;>simp[h,flats,flat]
  ·by_cases h:op=8<;>simp[h,flats,flat,QY,Zat]
 |nm x=>cases x; simp[flat,nmP,Pt.kids,Nm.kids,Ybe]
 |cn x=>cases x; simp[flat,cnP,Pt.kids,Cn.nums,Cn.kids,QY,Ybe,YbS]
theorem ZbS(p:Pt):0<(flat p).length:=by rw[Qcm]; simp
theorem ZaR:∀ {l:List Pt} {p:Pt},p∈l→(flat p).length≤(flats l).length
 |q::l,p,h=>by
  simp only[flats,List.length_append];rcases List.mem_cons.1 h with rfl|h
  ·omega
  ·have:=ZaR h; omega
theorem QaQ:∀l:List Pt,l.length≤(flats l).length
 |[]=>by simp
 |p::l=>by
  have:=QaQ l;have:=ZbS p;simp[flats]; omega
theorem Yc0{p q:Pt}(h:p.fit=true)(hq:q∈p.kids):q.fit=true:=by
 cases p with
 |ef x=>
  simp only[Pt.kids,List.mem_append] at hq;rcases hq with hq|hq
  ·split at hq
   ·simp at hq; subst hq; exact Z8 h
   ·simp at hq
  ·split at hq
   ·simp only[List.mem_cons,List.mem_append,List.mem_map] at hq;rcases hq with rfl|⟨y,hy,rfl⟩|⟨y,hy,rfl⟩
    ·exact X0 h
    ·exact YP (YJ h) hy
    ·exact YP (ZJ h) hy
   ·simp at hq
 |nm x=>
  simp only[Pt.kids,List.mem_map] at hq;obtain⟨y,hy,rfl⟩:=hq;exact ZW h hy
 |cn x=>
  simp only[Pt.kids,List.mem_append,List.mem_map] at hq;rcases hq with ⟨y,hy,rfl⟩|⟨y,hy,rfl⟩
  ·exact XU h hy
  ·exact YU h hy
def runL{S:Type}(step:S→Pt→S×Bool):S→List Pt→S×Bool
 |s,[]=>(s,true)
 |s,p::l=>if (step s p).2=true then runL step (step s p).1 l else ((step s p).1,false)
theorem X9{S:Type}(step:S→Pt→S×Bool):∀(a:List Pt) (s:S) (b:List Pt),runL step s (a++b)=if (runL step s a).2=true then runL step (runL step s a).1 b else ((runL step s a).1,false)
 |[],s,b=>by simp[runL]
 |p::a,s,b=>by
  simp only[List.cons_append,runL];by_cases h:(step s p).2=true<;>simp_all [X9]
def Bt(b:Nat)(σ σ':List ABlk):Prop:=σ.length≤σ'.length∧∀c,c<σ.length→c≠b→hget σ' c=hget σ c
theorem Bt.refl(b:Nat)(σ:List ABlk):Bt b σ σ:=⟨Nat.le_refl _,λ_ _ _=>rfl⟩
theorem Bt.trans{b:Nat}{x y z:List ABlk}(h:Bt b x y)(k:Bt b y z):Bt b x z:=⟨Nat.le_trans h.1 k.1,λc hc hb=>by rw[k.2 c (by have:=h.1; omega) hb,h.2 c hc hb]⟩
theorem Bt.old{b:Nat}{σ σ':List ABlk}(h:Bt b σ σ'){c:Nat}{x:ABlk}(hx:hget σ c=x)(hd:x≠.dead)(hc:c≠b):hget σ' c=x:=by
 rw[h.2 c (Qn hx hd) hc]; exact hx
theorem Bt.gr{σ σ':List ABlk}(b:Nat)(h1:σ.length≤σ'.length)(h:∀c,c<σ.length→hget σ' c=hget σ c):Bt b σ σ':=⟨h1,λc hc _=>h c hc⟩
def Clo{S:Type}(clo:AVal)(b:Nat)(enc:S→List AVal)(step:S→Pt→S×Bool):Prop:=
 ∀p v,PtV v p→∀s σ K,hget σ b=.box (enc s)→(∀σ',Bt b σ σ'→hget σ' b=.box (enc (step s p).1)→K (.bool (step s p).2) σ')→VV.call .callv [clo,v] σ K
inductive PtL:List AVal→List Pt→Prop
 |nil:PtL [] []
 |snoc (vs:List AVal) (ps:List Pt) (v:AVal) (p:Pt):PtL vs ps→PtV v p→PtL (vs++[v]) (ps++[p])
theorem PtL.length{vs:List AVal}{ps:List Pt}(h:PtL vs ps):vs.length=ps.length:=by
 induction h<;>simp_all
theorem PtL.get{vs:List AVal}{ps:List Pt}(h:PtL vs ps):∀i (h1:i<vs.length) (h2:i<ps.length),PtV vs[i] ps[i]:=by
 induction h with
 |nil=>intro i h; simp at h
 |snoc vs ps v p h hv ih=>
  intro i h1 h2;have hl:=h.length
  grind
def one(v:AVal):List AVal:=[v]
end Go.Ah.Tz
end
section
namespace Go.Ah.Tz
open Go.Proofs.Tryz (prog)
attribute [local irreducible] Ans.rd Ans.pu Ans.wr Ans.dr Ans.gr Ans.gw Ans.gl Ans.gd Ans.opt joinK W
set_option maxHeartbeats 2000000
def efPt(x:Ef):List AVal:=[.iface 291 (.agg [.rptr (efC x) 0])]
def nmPt(x:Nm):List AVal:=[.iface 304 (.agg [.rptr (nmC x) 0])]
def cnPt(x:Cn):List AVal:=[.iface 331 (.agg [.rptr (cnC x) 0])]
theorem Zdd{σ0 σ:List ABlk}{k:Nat}{rows:List (List AVal)}{v:AVal}(l:List Ef)(hl:k+l.length≤1000000000)(hg:Gr σ0 1 rows k v σ){K:List AVal→List ABlk→Prop}
 (hK:∀v' σ' w,Gr σ0 1 (rows++l.map efPt) (k+l.length) v' σ'→K [w,v'] σ') :
  VV.loop (λag v55 σ=>VV.rd (Yn .lss false [(h0 v55),iv l.length] σ) λt72_56=>VV.test t72_56 (
   VV.rd (Zj 14 [efV l,(h0 v55)] σ) λt77_57=>VV.rd (YQ [.nilp] [(0,1)] [t77_57] σ) λt78_58=>VV.rd (Qx 291 [t78_58] σ) λt79_59=>
   VV.wr (ZB 1 1 [.nili] [(0,1)] [t79_59] σ) σ λt80_60 σ=>VV.wr (Yl 1 16 [(h1 v55),t80_60] σ) σ λt81_61 σ=>
   VV.rd (Yn .add false [(h0 v55),(.int .i64 1)] σ) λt82_62=>ag [t82_62,t81_61] σ) (K v55 σ)) [(.int .i64 0),v] σ:=by
 refine Zg (ι:=Nat) (λi vs s=>∃v,vs=[iv i,v]∧i≤l.length∧Gr σ0 1 (rows++(l.take i).map efPt) (k+i) v s) (λi=>l.length-i) 0 ⟨v,rfl,by omega,by simpa using hg⟩ ?_;rintro i vs s again ⟨v,rfl,hi,hg⟩ hag;refine Za rfl (Zb (λh=>?_) (λh=>?_))
 ·have h:i<l.length:=by simpa using h
  refine Za (Yk _ efC _ _ _ l _ i h) (Za rfl (Za rfl ?_));refine hg.put (cs:=efPt l[i]) rfl rfl rfl (by omega) (λv' σ' hg'=>?_);refine Za (Yf ..) ?_;rw[Qc (n:=i) (by omega)];refine hag (i+1) _ _ (by omega) ⟨v',rfl,by omega,?_⟩
  grind [QD]
 grind
theorem efPtL{vs:List AVal}{ps:List Pt}(h:PtL vs ps):∀l:List Ef,PtL (vs++(l.map efPt).flatten) (ps++l.map .ef):=by
 intro l
 induction l generalizing vs ps with
 |nil=>simpa using h
 |cons x l ih=>
  have:=ih (PtL.snoc _ _ _ _ h (.ef x));simpa[efPt] using this
theorem nmPtL{vs:List AVal}{ps:List Pt}(h:PtL vs ps):∀l:List Nm,PtL (vs++(l.map nmPt).flatten) (ps++l.map .nm):=by
 intro l
 induction l generalizing vs ps with
 |nil=>simpa using h
 |cons x l ih=>
  have:=ih (PtL.snoc _ _ _ _ h (.nm (nmC x) 0 x (nmAt x)));simpa[nmPt] using this
theorem cnPtL{vs:List AVal}{ps:List Pt}(h:PtL vs ps):∀l:List Cn,PtL (vs++(l.map cnPt).flatten) (ps++l.map .cn):=by
 intro l
 induction l generalizing vs ps with
 |nil=>simpa using h
 |cons x l ih=>
  have:=ih (PtL.snoc _ _ _ _ h (.cn (cnC x) 0 x (cnAt x)));simpa[cnPt] using this
theorem YaM{α:Type}{f:α→List AVal}(h:∀x,∃v,f x=[v]):∀l:List α,l.map f=((l.map f).flatten).map one
 |[]=>rfl
 |x::l=>by
  obtain⟨v,hv⟩:=h x;have:=YaM h l
  grind [one]
theorem ZaM(l:List Ef):l.map efPt=((l.map efPt).flatten).map one:=YaM (λ_=>⟨_,rfl⟩) l
theorem YbW(l:List Nm):l.map nmPt=((l.map nmPt).flatten).map one:=YaM (λ_=>⟨_,rfl⟩) l
theorem QcK(l:List Cn):l.map cnPt=((l.map cnPt).flatten).map one:=YaM (λ_=>⟨_,rfl⟩) l
theorem c208{S:Type}{enc:S→List AVal}{step:S→Pt→S×Bool}{clo:AVal}{b:Nat}(hc:Clo clo b enc step):∀(k:Nat) (p:Pt),(flat p).length≤k→p.fit=true→(flat p).length≤500000000→∀v,PtV v p→∀s σ K,hget σ b=.box (enc s) →
  (∀σ',Bt b σ σ'→hget σ' b=.box (enc (runL step s (flat p)).1)→K (.bool (runL step s (flat p)).2) σ')→g223.u VV [v,clo] σ K
 |0,p,h,_,_=>by have:=ZbS p; omega
 |k+1,p,hk,hf,hN=>by
  intro v hv s σ K hb hK;rw[Qcm] at hk hN hK;simp only[List.length_cons] at hk hN;have hkl:=QaQ p.kids;rw[H2.e]; unfold g223; dsimp only;refine hc p v hv s σ _ hb (λσ1 t1 b1=>?_);simp only[runL] at hK;refine Za rfl (Zb (λh=>?_) (λh=>?_))
  ·simp_all
  have h:(step s p).2=true:=by simpa using h
  rw[h,if_pos rfl] at hK;generalize (step s p).1=s1 at hK b1;refine Yh λk2 hk2=>?_;have kk:∀v2 σ2 vs,PtL vs p.kids→Gr σ1 1 (vs.map one) vs.length v2 σ2→k2 [v2] σ2:=by
   intro v2 σ2 vs hp hg;rw[hk2]; clear hk2 k2;have hlen:=hp.length;have hb2:=hg.old b1 (by simp);have t2:Bt b σ1 σ2:=⟨hg.1,λc hc _=>hg.2.1 c hc⟩;refine Za (hg.grows.len _) ?_;refine Zg (ι:=Nat) (λi ws σ3=>∃s',ws=[iv i]∧i≤p.kids.length∧hget σ3 b=.box (enc s')∧Bt b σ2 σ3∧runL step s1 (flats p.kids)=runL step s' (flats (p.kids.drop i))) (λi=>p.kids.length-i) 0 ⟨s1,rfl,by omega,hb2,Bt.refl _ _,by simp⟩ ?_;rintro i ws σ3 again ⟨s',rfl,hi,hb3,t3,hr⟩ hag;refine Za rfl (Zb (λh=>?_) (λh=>?_))
   ·have h:i<vs.length:=by simpa using h
    have h':i<p.kids.length:=by omega
    have hg3:Grows 1 (vs.map one) vs.length v2 σ3:=by
     rcases hg.2.2 with h|⟨q1,c,q2,q3,q4,q5⟩
     ·exact .inl h
     ·refine .inr ⟨q1,c,q3,?_,q5⟩;have hcb:c≠b:=by
       grind
      exact t3.old q4 (by simp) hcb
    obtain⟨c,e1,hj,e2⟩:=hg3.at .i64 i h;refine Za e1 (Za (e2 false 1 vs[i] (by simp[one])) ?_);have hmem:p.kids[i]∈p.kids:=List.getElem_mem h';have hfl:=ZaR hmem;have hdr:p.kids.drop i=p.kids[i]::p.kids.drop (i+1):=YLD h';rw[hdr,flats,X9] at hr;refine Qm hP rfl g223.ok rfl ?_;refine c208 hc k p.kids[i] (by omega) (Yc0 hf hmem) (by omega) _ (hp.get i h h') s' σ3 _ hb3 (λσ4 t4 b4=>?_);refine Za rfl (Zb (λh5=>?_) (λh5=>?_))
    ·have h5:(runL step s' (flat p.kids[i])).2=false:=by simpa using h5
     rw[h5] at hr;have:=hK σ4 ((t1.trans t2).trans (t3.trans t4)) (by rw[hr]; exact b4);rw[hr] at this; exact this
    ·have h5:(runL step s' (flat p.kids[i])).2=true:=by simpa using h5
     rw[h5,if_pos rfl] at hr;refine Za (Yf ..) ?_;rw[Qc (n:=i) (by omega)];exact hag (i+1) _ _ (by omega) ⟨_,rfl,by omega,b4,t3.trans t4,hr⟩
   ·have h:i=p.kids.length:=by simp at h; omega
    subst h;rw[List.drop_length,flats,runL] at hr;have:=hK σ3 ((t1.trans t2).trans t3) (by rw[hr]; exact hb3);rw[hr] at this; exact this
  clear hk2 hK hb hc;cases hv with
  |ef x=>
   refine Za rfl (Za rfl (Za rfl (Xc ?_)));refine Zy (row:=[.rptr (efC x) 0]) rfl rfl rfl ?_;have hB:=Qi σ1 (ABlk.box [.rptr (efC x) 0]);have hlt:σ1.length<(σ1++[ABlk.box [.rptr (efC x) 0]]).length:=by simp
   have kb:∀v2 σ2 vs,PtL vs (Pt.ef x).kids→Gr (σ1++[ABlk.box [.rptr (efC x) 0]]) 1 (vs.map one) vs.length v2 σ2→k2 [v2] σ2:=λv2 σ2 vs h1 h2=>kk v2 σ2 vs h1 h2.base;clear kk b1 t1;generalize σ1++[ABlk.box [.rptr (efC x) 0]]=τ at hB hlt kb ⊢;generalize σ1.length=c at hB hlt ⊢;refine Za rfl (Za (ld hB rfl) (Za rfl (Za rfl (Za (ldr (efLd0 _)) ?_))));refine Xb (c210 _) rfl g179.ok.plain rfl ?_;refine Yh λk14 hk14=>?_;have k1:∀v σ2 vs,PtL vs (if cntOp x.op then [.nm x.n] else [])→Gr τ 1 (vs.map one) vs.length v σ2→k14 [v] σ2:=by
    intro v σ2 vs hp hg;rw[hk14]; clear hk14 k14;have hB2:=hg.old hB (by simp);have hvl:vs.length≤1:=by rw[hp.length]; split<;>simp
    refine Za rfl (Za (ld hB2 rfl) (Za rfl (Za rfl (Za (ldr (efLd0 _)) (Za (Yd ..) ?_)))));refine Zb (λh=>?_) (λh=>?_);rotate_left
    ·have h:¬x.op=8:=by simpa using h
     refine kb _ _ vs ?_ hg;simp_all [Pt.kids]
    have h:x.op=8:=by simpa using h
    have hkids:(Pt.ef x).kids=(if cntOp x.op then [.nm x.n] else [])++(.cn x.c::(x.thn.map .ef++x.els.map .ef)):=by simp only[Pt.kids,if_pos h]
    have hlen2:x.thn.length+x.els.length+1≤500000000:=by
     grind
    refine Za rfl (Za (ld hB2 rfl) (Za rfl (Za rfl (Za rfl (Za rfl ?_)))));refine hg.put (cs:=[.iface 331 (.agg [.rptr (efC x) 7])]) rfl rfl rfl (by omega) (λv' σ' hg'=>?_);have hB3:=hg'.old hB (by simp);refine Za rfl (Za (ld hB3 rfl) (Za rfl (Za rfl (Za (ldr (Ql _)) ?_))));refine Za rfl (Za (ld hB3 rfl) (Za rfl (Za rfl (Za (ldr (Zm _)) ?_))));refine Za rfl ?_;refine Zl 3 (Zf (Za rfl (Xc (Za rfl ?_))));refine Za (v:=iv x.thn.length) (rd:=[]) (by simp[Ze]) ?_;refine Zdd x.thn (by omega) hg' (λv3 σ3 w hg3=>?_);refine Za rfl (Zf (Za rfl (Xc (Za rfl ?_))));refine Za (v:=iv x.els.length) (rd:=[]) (by simp[Ze]) ?_;refine Zdd x.els (by omega) hg3 (λv4 σ4 w hg4=>?_);refine Za rfl (Zf (Za rfl (Xe ?_)));refine kb _ _ ((vs++[.iface 331 (.agg [.rptr (efC x) 7])])++(x.thn.map efPt).flatten++(x.els.map efPt).flatten) ?_ ?_
    ·rw[hkids];have:=efPtL (efPtL (PtL.snoc _ _ _ _ hp (.cn (efC x) 7 x.c (cnAt7 x))) x.thn) x.els;simpa using this
    ·have e1:((vs++[AVal.iface 331 (.agg [.rptr (efC x) 7])])++(x.thn.map efPt).flatten++(x.els.map efPt).flatten).map one=List.map one vs++[[AVal.iface 331 (.agg [.rptr (efC x) 7])]]++List.map efPt x.thn++List.map efPt x.els:=by
      rw[List.map_append,List.map_append,←ZaM,←ZaM,List.map_append]; rfl
     have e2:((vs++[AVal.iface 331 (.agg [.rptr (efC x) 7])])++(x.thn.map efPt).flatten++(x.els.map efPt).flatten).length=vs.length+1+x.thn.length+x.els.length:=by
      have l1:=congrArg List.length (ZaM x.thn);have l2:=congrArg List.length (ZaM x.els)
      grind
     rw[e1,e2]; exact hg4
   clear hk14;refine Zb (λh=>?_) (λh=>?_)
   ·refine Za rfl (Za (ld hB rfl) (Za rfl (Za rfl (Za rfl (Za rfl ?_)))));refine(Gr.nil 1 τ).put (cs:=[.iface 304 (.agg [.rptr (efC x) 2])]) rfl rfl rfl (by omega) (λv' σ' hg'=>?_);refine k1 _ _ [.iface 304 (.agg [.rptr (efC x) 2])] ?_ hg';rw[if_pos h];exact PtL.snoc [] [] _ _ .nil (.nm (efC x) 2 x.n (nmAt2 x))
   ·refine k1 _ _ [] ?_ (Gr.nil 1 τ);rw[h]; exact .nil
  |nm row j x hx=>
   refine Za rfl (Za rfl (Za rfl (Xe ?_)));refine Za rfl (Za rfl (Za rfl (Xc ?_)));refine Zy (row:=[.rptr row j]) rfl rfl rfl ?_;have hB:=Qi σ1 (ABlk.box [.rptr row j]);have kb:∀v2 σ2 vs,PtL vs (Pt.nm x).kids→Gr (σ1++[ABlk.box [.rptr row j]]) 1 (vs.map one) vs.length v2 σ2→k2 [v2] σ2:=λv2 σ2 vs h1 h2=>kk v2 σ2 vs h1 h2.base;clear kk b1 t1;generalize σ1++[ABlk.box [.rptr row j]]=τ at hB kb ⊢;generalize σ1.length=c at hB ⊢;have hlen2:x.kids.length≤500000000:=by
    grind [Pt.kids]
   refine Za rfl (Za (ld hB rfl) (Za rfl (Za rfl (Za (ldr hx.h3) ?_))));refine Za (v:=iv x.kids.length) (rd:=[]) (by simp[Ze]) ?_;refine Zg (ι:=Nat) (λi vs s=>∃v,vs=[iv i,v]∧i≤x.kids.length∧Gr τ 1 ((x.kids.take i).map nmPt) i v s) (λi=>x.kids.length-i) 0 ⟨_,rfl,by omega,by simpa using Gr.nil 1 τ⟩ ?_;rintro i vs s again ⟨v,rfl,hi,hg⟩ hag;refine Za rfl (Zb (λh=>?_) (λh=>?_))
   ·have h:i<x.kids.length:=by simpa using h
    refine Za rfl (Za (ld (hg.old hB (by simp)) rfl) (Za rfl (Za rfl (Za (ldr hx.h3) ?_))));refine Za (Yk _ nmC _ _ _ x.kids _ i h) (Za rfl (Za rfl ?_));refine hg.put (cs:=nmPt x.kids[i]) rfl rfl rfl (by omega) (λv' σ' hg'=>?_);refine Za (Yf ..) ?_;rw[Qc (n:=i) (by omega)];refine hag (i+1) _ _ (by omega) ⟨v',rfl,by omega,?_⟩
    grind [QD]
   ·have h:i=x.kids.length:=by simp at h; omega
    subst h;rw[List.take_length] at hg;refine kb _ _ (x.kids.map nmPt).flatten ?_ ?_
    ·have:=nmPtL .nil x.kids;simpa[Pt.kids] using this
    ·have e1:=YbW x.kids;have e2:=congrArg List.length e1;rw[←e1];simp only[List.length_map] at e2;rw[←e2]; exact hg
  |cn row j x hx=>
   refine Za rfl (Za rfl (Za rfl (Xe ?_)));refine Za rfl (Za rfl (Za rfl (Xe ?_)));refine Za rfl (Za rfl (Za rfl (Xc ?_)));refine Zy (row:=[.rptr row j]) rfl rfl rfl ?_;have hB:=Qi σ1 (ABlk.box [.rptr row j]);have kb:∀v2 σ2 vs,PtL vs (Pt.cn x).kids→Gr (σ1++[ABlk.box [.rptr row j]]) 1 (vs.map one) vs.length v2 σ2→k2 [v2] σ2:=λv2 σ2 vs h1 h2=>kk v2 σ2 vs h1 h2.base;clear kk b1 t1;generalize σ1++[ABlk.box [.rptr row j]]=τ at hB kb ⊢;generalize σ1.length=c at hB ⊢;have hlen2:x.nums.length+x.kids.length≤500000000:=by
    grind [Pt.kids]
   refine Za rfl (Za (ld hB rfl) (Za rfl (Za rfl (Za (ldr hx.h3) ?_))));refine Za (v:=iv x.nums.length) (rd:=[]) (by simp[Ze]) ?_;refine Zg (ι:=Nat) (λi vs s=>∃v,vs=[iv i,v]∧i≤x.nums.length∧Gr τ 1 ((x.nums.take i).map nmPt) i v s) (λi=>x.nums.length-i) 0 ⟨_,rfl,by omega,by simpa using Gr.nil 1 τ⟩ ?_;rintro i vs s again ⟨v,rfl,hi,hg⟩ hag;refine Za rfl (Zb (λh=>?_) (λh=>?_))
   ·have h:i<x.nums.length:=by simpa using h
    refine Za rfl (Za (ld (hg.old hB (by simp)) rfl) (Za rfl (Za rfl (Za (ldr hx.h3) ?_))));refine Za (Yk _ nmC _ _ _ x.nums _ i h) (Za rfl (Za rfl ?_));refine hg.put (cs:=nmPt x.nums[i]) rfl rfl rfl (by omega) (λv' σ' hg'=>?_);refine Za (Yf ..) ?_;rw[Qc (n:=i) (by omega)];refine hag (i+1) _ _ (by omega) ⟨v',rfl,by omega,?_⟩
    grind [QD]
   have h:i=x.nums.length:=by simp at h; omega
   subst h;rw[List.take_length] at hg;clear hag;refine Za rfl (Za (ld (hg.old hB (by simp)) rfl) (Za rfl (Za rfl (Za (ldr hx.h4) ?_))));refine Za (v:=iv x.kids.length) (rd:=[]) (by simp[Ze]) ?_;refine Zg (ι:=Nat) (λi vs s=>∃v,vs=[iv i,v]∧i≤x.kids.length∧Gr τ 1 (x.nums.map nmPt++(x.kids.take i).map cnPt) (x.nums.length+i) v s) (λi=>x.kids.length-i) 0 ⟨_,rfl,by omega,by simpa[h1,hdV,tlV] using hg⟩ ?_;clear hg;rintro i vs s again ⟨v,rfl,hi,hg⟩ hag;refine Za rfl (Zb (λh=>?_) (λh=>?_))
   ·have h:i<x.kids.length:=by simpa using h
    refine Za rfl (Za (ld (hg.old hB (by simp)) rfl) (Za rfl (Za rfl (Za (ldr hx.h4) ?_))));refine Za (Yk _ cnC _ _ _ x.kids _ i h) (Za rfl (Za rfl ?_));refine hg.put (cs:=cnPt x.kids[i]) rfl rfl rfl (by omega) (λv' σ' hg'=>?_);refine Za (Yf ..) ?_;rw[Qc (n:=i) (by omega)];refine hag (i+1) _ _ (by omega) ⟨v',rfl,by omega,?_⟩
    grind [QD]
   ·have h:i=x.kids.length:=by simp at h; omega
    subst h;rw[List.take_length] at hg;refine kb _ _ ((x.nums.map nmPt).flatten++(x.kids.map cnPt).flatten) ?_ ?_
    ·have:=cnPtL (nmPtL .nil x.nums) x.kids;simpa[Pt.kids] using this
    ·have e1:((x.nums.map nmPt).flatten++(x.kids.map cnPt).flatten).map one=x.nums.map nmPt++x.kids.map cnPt:=by
      grind [YbW,QcK]
     have e2:=congrArg List.length e1;simp only[List.length_map,List.length_append] at e2;simp_all
end Go.Ah.Tz
end
section
namespace Go.Ah.Tz
open Go.Proofs.Tryz (prog)
mutual
theorem Qdd:∀x:Nm,nmW x=min ((nmP x).length:Int) 1073741824
 |.mk op n who kids=>by
  simp only[nmW,nmP,List.length_cons]
  rw[Xcr 1 kids (by omega) (by omega)]; omega
theorem Xcr:∀(n:Int) (l:List Nm),0≤n→n≤1073741824→nmWs n l=min (n+((nmPs l).length:Int)) 1073741824
 |n,[],h1,h2=>by simp only[nmWs,nmPs,List.length_nil]; omega
 |n,x::l,h1,h2=>by
  simp only[nmWs,nmPs,List.length_append]
  rw[Qdd x,Xcr _ l (by omega) (by omega)]; omega
end
mutual
theorem Zc8:∀x:Cn,cnW x=min ((cnP x).length:Int) 1073741824
 |.mk op who name nums kids=>by
  simp only[cnW,cnP,List.length_cons,List.length_append]
  rw[Xcr 1 nums (by omega) (by omega),ZcR _ kids (by omega) (by omega)]; omega
theorem ZcR:∀(n:Int) (l:List Cn),0≤n→n≤1073741824→cnWs n l=min (n+((cnPs l).length:Int)) 1073741824
 |n,[],h1,h2=>by simp only[cnWs,cnPs,List.length_nil]; omega
 |n,x::l,h1,h2=>by
  simp only[cnWs,cnPs,List.length_append]
  rw[Zc8 x,ZcR _ l (by omega) (by omega)]; omega
end
mutual
theorem efW_P:∀(n:Int) (x:Ef),0≤n→n≤1073741824→efW n x=min (n+((efP x).length:Int)) 1073741824
 |n,.mk op who nn name c thn els,h1,h2=>by
  simp only[efW,efP,List.length_cons,List.length_append]
  rw[Qdd nn,Zc8 c,Za3 0 thn (by omega) (by omega),Za3 0 els (by omega) (by omega)]
  generalize cntOp op=cb
  by_cases h:op=8
  ·simp only[if_pos h]
   cases cb<;>simp only[if_true,if_false,List.length_append,List.length_nil,Bool.false_eq_true]<;>omega
  ·simp only[if_neg h]
   cases cb<;>simp only[if_true,if_false,List.length_nil,Bool.false_eq_true]<;>omega
theorem Za3:∀(n:Int) (l:List Ef),0≤n→n≤1073741824→efsW n l=min (n+((efPs l).length:Int)) 1073741824
 |n,[],h1,h2=>by simp only[efsW,efPs,List.length_nil]; omega
 |n,x::l,h1,h2=>by
  simp only[efsW,efPs,List.length_append]
  rw[efW_P n x h1 h2,Za3 _ l (by omega) (by omega)]; omega
end
def cdP(c:Cd):List Pt:=efPs c.played++(efPs c.dead++efPs c.dawn)
theorem cdW_P(c:Cd):cdW c=min ((cdP c).length:Int) 1073741824:=by
 rw[cdW,Za3 0 _ (by omega) (by omega),Za3 0 _ (by omega) (by omega),Za3 0 _ (by omega) (by omega),cdP];simp only[List.length_append]; omega
attribute [local irreducible] Ans.rd Ans.pu Ans.wr Ans.dr Ans.gr Ans.gw Ans.gl Ans.gd Ans.opt joinK W
set_option maxHeartbeats 1000000
theorem Zcm(l:List Ef):efPs l=flats (l.map .ef):=(Zat l).symm
theorem Xcp{S:Type}{enc:S→List AVal}{step:S→Pt→S×Bool}{clo:AVal}{b:Nat}(hc:Clo clo b enc step)(l:List Ef)(hf:lsFit l=true)(hN:(efPs l).length≤500000000){s:S}{σ:List ABlk}(hb:hget σ b=.box (enc s)){R:List ABlk→Prop}{K:List AVal→List ABlk→Prop}
 (hR:∀σ',Bt b σ σ'→hget σ' b=.box (enc (runL step s (efPs l)).1)→(runL step s (efPs l)).2=false→R σ')(hK:∀w σ',Bt b σ σ'→hget σ' b=.box (enc (runL step s (efPs l)).1)→(runL step s (efPs l)).2=true→K w σ') :
  VV.loop (λag15 v16 σ=>VV.rd (Yn .lss false [(h0 v16),iv l.length] σ) λt26_17=>VV.test t26_17 (
   VV.rd (Zj 14 [efV l,(h0 v16)] σ) λt30_18=>VV.rd (YQ [.nilp] [(0,1)] [t30_18] σ) λt31_19=>VV.rd (Qx 291 [t31_19] σ) λt32_20=>
   VV.call (.call 223) [t32_20,clo] σ λt34_21 σ=>VV.rd (Ybu .not [t34_21] σ) λt35_22=>VV.test t35_22 (R σ) (
   VV.rd (Yn .add false [(h0 v16),(.int .i64 1)] σ) λt36_23=>ag15 [t36_23] σ)) (K v16 σ)) [(.int .i64 0)] σ:=by
 have hl:=QaQ (l.map .ef);rw[Zat,List.length_map] at hl;rw[Zcm] at hR hK;refine Zg (ι:=Nat) (λi ws σ3=>∃s',ws=[iv i]∧i≤l.length∧hget σ3 b=.box (enc s')∧Bt b σ σ3∧runL step s (flats (l.map .ef))=runL step s' (flats ((l.drop i).map .ef))) (λi=>l.length-i) 0 ⟨s,rfl,by omega,hb,Bt.refl _ _,by simp⟩ ?_;rintro i ws σ3 again ⟨s',rfl,hi,hb3,t3,hr⟩ hag;refine Za rfl (Zb (λh=>?_) (λh=>?_))
 ·have h:i<l.length:=by simpa using h
  refine Za (Yk _ efC _ _ _ l _ i h) (Za rfl (Za rfl ?_));have hdr:l.drop i=l[i]::l.drop (i+1):=YLD h;rw[hdr,List.map_cons,flats,X9] at hr;refine Qm hP rfl g223.ok rfl ?_;have hm:=ZaR (l:=l.map .ef) (p:=.ef l[i]) (List.mem_map_of_mem (List.getElem_mem h));rw[Zat] at hm;refine c208 hc _ (.ef l[i]) (Nat.le_refl _) (YP hf (List.getElem_mem h)) (by omega) _ (.ef _) s' σ3 _ hb3 (λσ4 t4 b4=>?_);refine Za rfl (Zb (λh5=>?_) (λh5=>?_))
  ·have h5:(runL step s' (flat (.ef l[i]))).2=false:=by simpa using h5
   rw[h5] at hr;exact hR σ4 (t3.trans t4) (by rw[hr]; exact b4) (by rw[hr]; rfl)
  ·have h5:(runL step s' (flat (.ef l[i]))).2=true:=by simpa using h5
   rw[h5,if_pos rfl] at hr;refine Za (Yf ..) ?_;rw[Qc (n:=i) (by omega)];exact hag (i+1) _ _ (by omega) ⟨_,rfl,by omega,b4,t3.trans t4,hr⟩
 ·have h:i=l.length:=by simp at h; omega
  subst h;rw[List.drop_length,List.map_nil,flats,runL] at hr;exact hK _ σ3 t3 (by rw[hr]; exact hb3) (by rw[hr])
theorem c155{S:Type}{enc:S→List AVal}{step:S→Pt→S×Bool}{clo:AVal}{b:Nat}(hc:Clo clo b enc step)(c:Cd)(f1:lsFit c.played=true)(f2:lsFit c.dead=true)(f3:lsFit c.dawn=true)(hN:(cdP c).length≤500000000){s:S}{σ:List ABlk}{cb:Nat}(hcb:hget σ cb=.box (cdC c))(hb:hget σ b=.box (enc s)){K:AVal→List ABlk→Prop}
 (hK:∀σ',Bt b σ σ'→hget σ' b=.box (enc (runL step s (cdP c)).1)→K (.tup []) σ'):g176.u VV [.bptr cb 0,clo] σ K:=by
 simp only[cdP,List.length_append] at hN;simp only[cdP,X9] at hK;rw[H2.e]; unfold g176; dsimp only;refine Za rfl (Za rfl (Za (ld hcb rfl) (Za rfl (Za rfl (Za (ld hcb rfl) (Za rfl (Za rfl (Za (ld hcb rfl) (Za rfl ?_)))))))));refine Zl 4 (Zf (Za rfl (Xc (Za rfl ?_))));refine Za (v:=iv c.played.length) (rd:=[]) (by simp[Ze]) ?_;refine Xcp hc c.played f1 (by omega) hb (λσ1 t1 b1 h1=>?_) (λw σ1 t1 b1 h1=>?_)
 ·rw[h1] at hK; exact hK σ1 t1 b1
 rw[h1,if_pos rfl] at hK;refine Za rfl (Zf (Za rfl (Xc (Za rfl ?_))));refine Za (v:=iv c.dead.length) (rd:=[]) (by simp[Ze]) ?_;refine Xcp hc c.dead f2 (by omega) b1 (λσ2 t2 b2 h2=>?_) (λw σ2 t2 b2 h2=>?_)
 ·rw[h2] at hK; exact hK σ2 (t1.trans t2) b2
 rw[h2,if_pos rfl] at hK;refine Za rfl (Zf (Za rfl (Xc (Za rfl ?_))));refine Za (v:=iv c.dawn.length) (rd:=[]) (by simp[Ze]) ?_;refine Xcp hc c.dawn f3 (by omega) b2 (λσ3 t3 b3 h3=>?_) (λw σ3 t3 b3 h3=>?_)
 ·exact hK σ3 ((t1.trans t2).trans t3) b3
 refine Za rfl (Zf (Za rfl (Xe ?_)));exact hK σ3 ((t1.trans t2).trans t3) b3
def cntS(n:Int)(_:Pt):Int×Bool:=(IntKind.i64.wrap (n+1),decide (IntKind.i64.wrap (n+1)<1073741824))
theorem Ycu:∀(l:List Pt) (n:Int),0≤n→n+(l.length:Int)<1073741824→runL cntS n l=(n+(l.length:Int),true)
 |[],n,_,_=>by simp[runL]
 |p::l,n,h1,h2=>by
  simp only[List.length_cons] at h2;have hw:IntKind.i64.wrap (n+1)=n+1:=wrapI (by omega) (by omega);simp only[runL,cntS,hw];rw[if_pos (by simp; omega),Ycu l (n+1) (by omega) (by omega),List.length_cons]
  congr 1; omega
theorem clo156(b:Nat):Clo (.func (.func 177) [] [.bptr b 0]) b (λn:Int=>[iv n]) cntS:=by
 intro p v hv s σ K hb hK;refine Qm hP rfl g177.ok rfl ?_;show g177.u VV [v,.bptr b 0] σ K;rw[H2.e]; unfold g177; dsimp only;have hlt:=Qn hb (by simp);refine Za (ld hb rfl) (Za (Yf ..) (Zd (stv hb rfl rfl rfl) (Zz _ hlt) ?_));have hb2:hget (σ.set b (.box [iv (IntKind.i64.wrap (s+1))])) b=.box [iv (IntKind.i64.wrap (s+1))]:=Qs _ hlt;refine Za (ld hb2 rfl) (Za (XI ..) ?_);exact hK _ ⟨by simp,λc hc hne=>Zo _ hc hne⟩ hb2
theorem c124(c:Cd)(f1:lsFit c.played=true)(f2:lsFit c.dead=true)(f3:lsFit c.dawn=true)(hN:(cdP c).length≤500000000):PC 117 [.agg (cdC c)] (iv (cdW c)):=by
 refine Yc hP g117.ok rfl rfl ?_;rw[H1.e]; unfold g117; dsimp only;refine Zd rfl rfl (Zd rfl rfl (Zd rfl rfl (Za rfl ?_)));refine Qm hP rfl g176.ok rfl ?_;refine c155 (clo156 1) c f1 f2 f3 hN (s:=0) rfl rfl (λσ' _ hb=>?_);rw[Ycu _ 0 (by omega) (by omega)] at hb;refine Za (ld hb rfl) ?_;rw[cdW_P]
 congr 1; omega
end Go.Ah.Tz
end
section
namespace Go.Ah.Tz
open Go.Proofs.Tryz (prog)
attribute [local irreducible] Ans.rd Ans.pu Ans.wr Ans.dr Ans.gr Ans.gw Ans.gl Ans.gd Ans.opt joinK W
set_option maxHeartbeats 1000000
theorem Yck(σ:List ABlk)(x:Ef):YaA [.agg (efC x)] σ=.ok (.bptr σ.length 0) [] [(σ.length,.box (efC x))]:=by rw[ZI]; rfl
def idxF{α:Type}(f:α→Bool):List α→Int→Int
 |[],_=>-1
 |x::l,n=>if f x=true then n else idxF f l (n+1)
theorem Ybg{α:Type}(f:α→Bool):∀(l:List α) (n:Int),0≤n→decide (0≤idxF f l n)=l.any f
 |[],_,_=>rfl
 |x::l,n,h=>by
  by_cases hf:f x=true
  ·simp_all [idxF]
  ·have e:idxF f (x::l) n=idxF f l (n+1):=if_neg hf;have hf':f x=false:=by simpa using hf
   rw[e,Ybg f l (n+1) (by omega),List.any_cons,hf']; rfl
theorem ZcP{P:Program}{GL:Globs}{c d:Bool}{K:AVal→Prop}{r1:SRes}{f2 f3 f4:AVal→SRes}{σ:List ABlk}{v1 v2 v3:AVal}{q1 q2 q3 q4:List Nat}(h1:r1=.ok v1 q1 [])(h2:f2 v1=.ok v2 q2 [])(h3:f3 v2=.ok v3 q3 [])(h4:f4 v3=.ok (.bool d) q4 [])(hK:K (.bool (c&&d))) :
  (W P GL).gr (.bool c) true (λk=>(W P GL).rd r1 k) λt1=>(W P GL).gr (.bool c) true (λk=>(W P GL).rd (f2 t1) k) λt2=>(W P GL).gr (.bool c) true (λk=>(W P GL).rd (f3 t2) k) λt3=>(W P GL).gr (.bool c) true (λk=>(W P GL).rd (f4 t3) k) λt4=>(W P GL).rd (Zk [.bool c,t4,.bool false] σ) K:=by
 cases c with
 |true=>exact Ya (Za h1 (Ya (Za h2 (Ya (Za h3 (Ya (Za h4 (Za rfl hK))))))))
 |false=>exact Qa rfl (Qa rfl (Qa rfl (Qa rfl (Za rfl hK))))
theorem c255(l:List Ef)(hl:l.length≤big)(id:FuncId)(fs cs:List AVal)(hp:Zh prog id=true)(f:Ef→Bool)(hc:∀x∈l,PC id (fs++[.agg (efC x)]++cs) (.bool (f x)))(hr:∀x,roL (fs++[.agg (efC x)]++cs)=true) :
  PC 188 [efV l,.func (.func id) fs cs] (iv (idxF f l 0)):=by
 rw[bigE] at hl;refine Yc hP g188.ok rfl rfl ?_;rw[H2.e]; unfold g188; dsimp only;refine Za (v:=iv l.length) (rd:=[]) (by simp[Ze]) ?_;refine Zg (ι:=Nat) (λi vs s=>vs=[iv i]∧i≤l.length∧idxF f l 0=idxF f (l.drop i) i) (λi=>l.length-i) 0 ⟨rfl,by omega,by simp⟩ ?_;rintro i vs s again ⟨rfl,hi,hr'⟩ hag;refine Za rfl (Zb (λh=>?_) (λh=>?_))
 ·have h:i<l.length:=by simpa using h
  refine Za (Yk _ efC _ _ _ l _ i h) (Za (ldr (efLd _)) ?_);refine Xb (hc _ (List.getElem_mem h)) rfl hp (hr _) ?_;rw[YLD h,idxF] at hr';refine Zb (λh2=>?_) (λh2=>?_)
  ·rw[if_pos h2] at hr'; rw[hr']; rfl
  ·rw[if_neg (by rw[h2]; simp)] at hr';refine Za (Yf ..) ?_;rw[Qc (n:=i) (by omega)]
   grind
 grind [idxF]
theorem c239(l:List Ef)(hl:l.length≤big)(id:FuncId)(fs cs:List AVal)(hp:Zh prog id=true)(f:Ef→Bool)(hc:∀x∈l,PC id (fs++[.agg (efC x)]++cs) (.bool (f x)))(hr:∀x,roL (fs++[.agg (efC x)]++cs)=true)(hr2:roL [efV l,.func (.func id) fs cs]=true) :
  PC 123 [efV l,.func (.func id) fs cs] (.bool (l.any f)):=by
 refine Yc hP g123.ok rfl rfl ?_;rw[H2.e]; unfold g123; dsimp only;refine Xb (c255 l hl id fs cs hp f hc hr) rfl g188.ok.plain hr2 ?_;refine Za (XaG ..) ?_;rw[Ybg f l 0 (by omega)]
def asksR(u:Int):List AVal:=[.func (.func 119) [.agg [iv8 u]] [],.func (.func 119) [.agg [iv8 u]] [],.func (.func 119) [.agg [iv8 u]] [],.func (.func 119) [.agg [iv8 u]] [],.func (.func 120) [.agg [iv8 u]] [],.func (.func 121) [.agg [iv8 u]] [],.func (.func 120) [.agg [iv8 u]] [],.func (.func 120) [.agg [iv8 u]] [],.func (.func 122) [.agg [iv8 u]] []]
theorem c240(u:Int)(x:Ef)(hf:efFit x=true)(h238:x.op=8→PC 122 [.agg [iv8 u],.agg (efC x)] (.bool (efL u x))):PC 124 [.agg (efC x),.rptr [iv8 u] 0,.rptr (asksR u) 0] (.bool (!efL u x)):=by
 have hop:=YcJ hf;refine Yc hP g124.ok rfl rfl ?_;rw[H3.e]; unfold g124; dsimp only;refine Zd (Yck _ _) rfl (Za rfl (Za rfl (Za rfl (Za (ld rfl (efLd0 x)) (Za (XaG ..) ?_)))));have p235:x.op=0∨x.op=1∨x.op=2∨x.op=3→PC 119 [.agg [iv8 u],.agg (efC x)] (.bool (efL u x)):=by
  intro h;have e:efL u x=decide (joinL u (nmL x.n)=0):=by rw[Zbo,if_neg (by omega),if_neg (by omega),if_pos h]
  rw[e]; exact c235 u x hf
 have p236:¬(x.op=0∨x.op=1∨x.op=2∨x.op=3)→x.op≠5→x.op≠8→PC 120 [.agg [iv8 u],.agg (efC x)] (.bool (efL u x)):=by
  intro h h5 h8;have e:efL u x=decide (lbN u=0):=by simp_all [Zbo,Qa4]
  rw[e]; exact c236 u x
 have p237:x.op=5→PC 121 [.agg [iv8 u],.agg (efC x)] (.bool (efL u x)):=by
  intro h;have e:efL u x=Qa3 (joinL u (nmL x.n)) 1:=by rw[Zbo,if_pos h]
  rw[e]; exact c237 u x hf
 refine ZcP rfl (ld rfl (efLd0 x)) rfl (XI ..) ?_;rw[wrapI (n:=x.op) (by omega) (by omega)];refine Yh λk11 hk11=>?_;have hk:∀id,Zh prog id=true→PC id [.agg [iv8 u],.agg (efC x)] (.bool (efL u x))→k11 [.func (.func id) [.agg [iv8 u]] []] [.box (efC x)]:=by
  intro id hp hc;rw[hk11];refine Za (ld rfl (efLd x)) ?_;refine Xb hc rfl hp (efRo u x) ?_;exact Za rfl rfl
 clear hk11;refine Zb (λh=>?_) (λh=>?_)
 ·have h:0≤x.op∧x.op<9:=by simpa using h
  refine Za rfl (Za (ld rfl (efLd0 x)) ?_);have hcs:x.op=0∨x.op=1∨x.op=2∨x.op=3∨x.op=4∨x.op=5∨x.op=6∨x.op=7∨x.op=8:=by omega
  rcases hcs with e|e|e|e|e|e|e|e|e
  ·have q:=p235 (by omega); rw[e]; exact Za rfl (Za rfl (hk _ g119.ok.plain q))
  ·have q:=p235 (by omega); rw[e]; exact Za rfl (Za rfl (hk _ g119.ok.plain q))
  ·have q:=p235 (by omega); rw[e]; exact Za rfl (Za rfl (hk _ g119.ok.plain q))
  ·have q:=p235 (by omega); rw[e]; exact Za rfl (Za rfl (hk _ g119.ok.plain q))
  ·have q:=p236 (by omega) (by omega) (by omega); rw[e]; exact Za rfl (Za rfl (hk _ g120.ok.plain q))
  ·have q:=p237 e; rw[e]; exact Za rfl (Za rfl (hk _ g121.ok.plain q))
  ·have q:=p236 (by omega) (by omega) (by omega); rw[e]; exact Za rfl (Za rfl (hk _ g120.ok.plain q))
  ·have q:=p236 (by omega) (by omega) (by omega); rw[e]; exact Za rfl (Za rfl (hk _ g120.ok.plain q))
  ·have q:=h238 e; rw[e]; exact Za rfl (Za rfl (hk _ g122.ok.plain q))
 ·have h:0≤x.op→¬x.op<9:=by simpa using h
  exact hk _ g120.ok.plain (p236 (by omega) (by omega) (by omega))
theorem c238(u:Int)(x:Ef)(hf:efFit x=true)(h1:∀u',PC 74 [.agg [iv8 u'],efV x.thn] (.bool (efsL u' x.thn)))(h2:∀u',PC 74 [.agg [iv8 u'],efV x.els] (.bool (efsL u' x.els))) :
  PC 122 [.agg [iv8 u],.agg (efC x)] (.bool (efsL (joinL u (cnL x.c)) x.thn&&efsL (joinL u (cnL x.c)) x.els)):=by
 refine Yc hP g122.ok rfl rfl ?_;rw[H2.e]; unfold g122; dsimp only;refine Zd rfl rfl (Zd (Yck _ _) rfl (Yg rfl (Qe rfl rfl (Yg rfl (Qe (ld rfl (efLdC x)) rfl ?_)))));refine Qg (c254 _ (X0 hf)) rfl g187.ok.plain (cnRo _) ?_;refine Qg (c250 _ _) rfl g183.ok.plain rfl ?_;refine Yg rfl (Qe rfl rfl (Qe rfl rfl (XX (by kernel_rfl) ?_)));refine Za rfl (Za rfl (Za (ld rfl (Ql x)) ?_));refine Xb (h1 _) rfl g74.ok.plain rfl ?_;rcases YBE (efsL (joinL u (cnL x.c)) x.thn) with h|h
 ·rw[h];refine Ya (Za rfl (Ya (Za rfl (Ya (Za (ld rfl (Zm x)) (Xa ?_))))));refine Xb (h2 _) rfl g74.ok.plain rfl ?_;exact Za rfl rfl
 ·rw[h];exact Qa rfl (Qa rfl (Qa rfl (Yb rfl (Za rfl rfl))))
theorem ZbR(u:Int):∀l,efsL u l=l.all (efL u)
 |[]=>rfl
 |x::l=>by simp[efsL,ZbR u l]
theorem c222'(k:Nat):∀(l:List Ef) (u:Int),SizeOf.sizeOf l≤k→lsFit l=true→PC 74 [.agg [iv8 u],efV l] (.bool (efsL u l)):=by
 induction k with
 |zero=>intro l _ h _; cases l<;>simp at h
 |succ k c222'=>
  intro l u hk hf;refine Yc hP g74.ok rfl rfl ?_;rw[H2.e]; unfold g74; dsimp only;refine Zd rfl rfl (Za rfl (Za rfl (Za rfl (Za rfl (Za rfl (Za rfl (Za rfl (Za rfl (Za rfl (Za rfl (Za rfl (Za rfl (Za rfl (Za rfl (Za rfl (Za rfl (Za rfl (Za rfl (Za rfl (Zd rfl rfl (Zd rfl rfl (Za rfl ?_))))))))))))))))))))));have hc:∀x∈l,PC 124 ([]++[.agg (efC x)]++[.rptr [iv8 u] 0,.rptr (asksR u) 0]) (.bool (!efL u x)):=by
   intro x hx;have hfx:=YP hf hx;refine c240 u x hfx (λh8=>?_);have e:efL u x=(efsL (joinL u (cnL x.c)) x.thn&&efsL (joinL u (cnL x.c)) x.els):=by simp[h8,Zbo]
   have hs:=List.sizeOf_lt_of_mem hx;have hs2:=XY x;rw[e];exact c238 u x hfx (λu'=>c222' x.thn u' (by omega) (YJ hfx)) (λu'=>c222' x.els u' (by omega) (ZJ hfx))
  refine YD (c239 l (Xz hf) 124 [] [.rptr [iv8 u] 0,.rptr (asksR u) 0] g124.ok.plain (λx=>!efL u x) hc (λx=>by rw[ZI]; rfl) rfl) rfl g123.ok.plain rfl rfl ?_;refine Za rfl ?_;simp[ZbR,List.any_eq_not_all_not]
theorem c222(l:List Ef)(u:Int)(hf:lsFit l=true):PC 74 [.agg [iv8 u],efV l] (.bool (efsL u l)):=c222' _ l u (Nat.le_refl _) hf
theorem c182(cs:List Cd)(hf:QT cs=true):PC 43 [cdV cs] (.agg [iv (cdsL cs).1,iv (cdsL cs).2]):=by
 simp only[QT,Bool.and_eq_true,decide_eq_true_eq] at hf;obtain⟨f0,f1⟩:=hf;rw[bigE] at f0;refine Yc hP g43.ok rfl rfl ?_;rw[H1.e]; unfold g43; dsimp only;refine Zd rfl rfl (Za rfl (Zd rfl rfl (Zd rfl rfl ?_)));refine Za (v:=iv cs.length) (rd:=[]) (by simp[Ze]) ?_;refine Zg (ι:=Nat) (λi vs σ=>vs=[iv i]∧hget σ 0=.box [iv 0,iv 0]∧hget σ 1=.box [iv8 0]∧0<σ.length∧i≤cs.length∧cdsL cs=cdsL (cs.drop i)) (λi=>cs.length-i) 0 ⟨rfl,rfl,rfl,by simp,by omega,by simp⟩ ?_;rintro i vs σ again ⟨rfl,hz,ho,hz2,hi,hu⟩ hag;refine Za rfl ?_;refine Zb (λh=>?_) (λh=>?_);rotate_left
 ·have h:i=cs.length:=by simp at h; omega
  subst h;rw[List.drop_length,cdsL] at hu;refine Za rfl (Zd (stv hz rfl rfl rfl) (Zz _ hz2) (Zt (QI hz2 rfl) ?_));rw[hu]
 have hi:i<cs.length:=by simpa using h
 have hdr:cs.drop i=cs[i]::cs.drop (i+1):=by rw[YLD hi]
 have hix:=λ(s:List ABlk)=>Yk s cdC false false 12 cs .i64 i hi;have hfi:=List.all_eq_true.1 f1 _ (List.getElem_mem hi);generalize cs[i]=c at hdr hix hfi;rw[hdr,cdsL] at hu;simp only[cdFit,Bool.and_eq_true,decide_eq_true_eq] at hfi;obtain⟨g0,g1,g2,g9993⟩:=hfi;refine Za (hix _) (Za (ldr (cdLd _)) (Zy (row:=cdC c) (row':=cdC c) rfl rfl rfl ?_));have hB0:=Qi σ (ABlk.box (cdC c));have hz':hget (σ++[ABlk.box (cdC c)]) 0=.box [iv 0,iv 0]:=Xj _ hz (by simp);have ho':hget (σ++[ABlk.box (cdC c)]) 1=.box [iv8 0]:=Xj _ ho (by simp);have hz2':0<(σ++[ABlk.box (cdC c)]).length:=by simp
 generalize σ++[ABlk.box (cdC c)]=base at hB0 hz' ho' hz2' ⊢;generalize σ.length=b at hB0 ⊢;clear hz hz2 ho;refine Za (ld ho' rfl) (Za rfl (Za (ld hB0 rfl) ?_));refine Xb (c222 _ 0 g1) rfl g74.ok.plain rfl ?_;refine Za rfl ?_;apply cutF (cdL c=false)
 ·intro hR;have good:cdL c=true→VV.rd (Yn .add false [iv i,(.int .i64 1)] base) λt10_26=>again [t10_26] base:=by
   intro hc;rw[hc,if_pos rfl] at hu;refine Za (Yf ..) ?_;rw[Qc (n:=i) (by omega)];exact hag (i+1) _ _ (by omega) ⟨rfl,hz',ho',hz2',by omega,hu⟩
  rcases YBE (!efsL 0 c.played) with a1|a1
  ·rw[a1];repeat first|refine Ya ?_|refine Xa ?_|refine Qa rfl ?_|refine Yb rfl ?_|refine Qb rfl ?_|refine Zc rfl ?_|refine Za (ld hB0 rfl) ?_|refine Za rfl ?_
   refine Xc (hR ?_);have a1:efsL 0 c.played=false:=by simpa using a1
   simp[cdL,a1]
  rw[a1];repeat first|refine Ya ?_|refine Xa ?_|refine Za (ld ho' rfl) ?_|refine Za (ld hB0 rfl) ?_|refine Za rfl ?_
  have a1:efsL 0 c.played=true:=by simpa using a1
  refine Xb (c222 _ 0 g2) rfl g74.ok.plain rfl ?_;repeat first|refine Ya ?_|refine Xa ?_|refine Za (ld ho' rfl) ?_|refine Za (ld hB0 rfl) ?_|refine Za rfl ?_
  rcases YBE (!efsL 0 c.dead) with a2|a2
  ·rw[a2];repeat first|refine Ya ?_|refine Xa ?_|refine Qa rfl ?_|refine Yb rfl ?_|refine Qb rfl ?_|refine Zc rfl ?_|refine Za (ld hB0 rfl) ?_|refine Za rfl ?_
   refine Xc (hR ?_);have a2:efsL 0 c.dead=false:=by simpa using a2
   simp[cdL,a2]
  rw[a2];repeat first|refine Ya ?_|refine Xa ?_|refine Za (ld ho' rfl) ?_|refine Za (ld hB0 rfl) ?_|refine Za rfl ?_
  have a2:efsL 0 c.dead=true:=by simpa using a2
  refine Xb (c222 _ 0 g9993) rfl g74.ok.plain rfl ?_;repeat first|refine Ya ?_|refine Xa ?_|refine Za (ld hB0 rfl) ?_|refine Za rfl ?_
  refine Zb (λa3=>hR ?_) (λa3=>good ?_)
  ·have a3:efsL 0 c.dawn=false:=by simpa using a3
   simp[cdL,a3]
  ·have a3:efsL 0 c.dawn=true:=by simpa using a3
   simp[cdL,a1,a2,a3]
 intro hc;rw[hc] at hu
 replace hu:cdsL cs=(140,c.pl):=hu
 refine Za rfl (Za (ld hB0 rfl) (Za rfl (Zd (stv hz' rfl rfl rfl) (Zz _ hz2') (Zt (QI hz2' rfl) ?_))));rw[hu]
theorem c259(l:List Cd)(hl:l.length≤big)(id:FuncId)(fs cs:List AVal)(hp:Zh prog id=true)(f:Cd→Bool)(hc:∀x∈l,PC id (fs++[.agg (cdC x)]++cs) (.bool (f x)))(hr:∀x,roL (fs++[.agg (cdC x)]++cs)=true) :
  PC 192 [cdV l,.func (.func id) fs cs] (iv (idxF f l 0)):=by
 rw[bigE] at hl;refine Yc hP g192.ok rfl rfl ?_;rw[H2.e]; unfold g192; dsimp only;refine Za (v:=iv l.length) (rd:=[]) (by simp[Ze]) ?_;refine Zg (ι:=Nat) (λi vs s=>vs=[iv i]∧i≤l.length∧idxF f l 0=idxF f (l.drop i) i) (λi=>l.length-i) 0 ⟨rfl,by omega,by simp⟩ ?_;rintro i vs s again ⟨rfl,hi,hr'⟩ hag;refine Za rfl (Zb (λh=>?_) (λh=>?_))
 ·have h:i<l.length:=by simpa using h
  refine Za (Yk _ cdC _ _ _ l _ i h) (Za (ldr (cdLd _)) ?_);refine Xb (hc _ (List.getElem_mem h)) rfl hp (hr _) ?_;rw[YLD h,idxF] at hr';refine Zb (λh2=>?_) (λh2=>?_)
  ·rw[if_pos h2] at hr'; rw[hr']; rfl
  ·rw[if_neg (by rw[h2]; simp)] at hr';refine Za (Yf ..) ?_;rw[Qc (n:=i) (by omega)];exact hag (i+1) _ _ (by omega) ⟨rfl,by omega,by rw[hr']; push_cast; rfl⟩
 ·have h:i=l.length:=by simp at h; omega
  subst h;rw[List.drop_length,idxF] at hr';rw[hr']
theorem Xcn(t:Tx):∀(l:List Cd) (n:Nat),((fndI n l t).2=true∧n≤(fndI n l t).1∧(fndI n l t).1<n+l.length∧idxF (λc=>c.name==t) l (n:Int)=((fndI n l t).1:Int))∨((fndI n l t)=(0,false)∧idxF (λc=>c.name==t) l (n:Int) = -1)
 |[],n=>.inr ⟨rfl,rfl⟩
 |c::l,n=>by
  by_cases h:c.name==t
  ·left;have e1:fndI n (c::l) t=(n,true):=if_pos h;have e2:idxF (λc:Cd=>c.name==t) (c::l) (n:Int)=n:=if_pos h;rw[e1,e2]; simp
  ·have e1:fndI n (c::l) t=fndI (n+1) l t:=if_neg h;have e2:idxF (λc:Cd=>c.name==t) (c::l) (n:Int)=idxF (λc:Cd=>c.name==t) l ((n+1:Nat):Int):=by
    have:=(if_neg h:(if (c.name==t)=true then (n:Int) else idxF (λc:Cd=>c.name==t) l ((n:Int)+1))=_)
    push_cast; exact this
   rw[e1,e2];rcases Xcn t l (n+1) with ⟨q1,q2,q3,q4⟩|q
   ·exact .inl ⟨q1,by omega,by simp; omega,q4⟩
   ·exact .inr q
theorem c244(c:Cd)(t:Tx):PC 128 [.agg (cdC c),.rptr [.str t] 0] (.bool (c.name==t)):=by
 refine Yc hP g128.ok rfl rfl ?_;rw[H2.e]; unfold g128; dsimp only;exact Zd rfl rfl (Za rfl (Za (ld rfl rfl) (Za rfl (Za rfl rfl))))
theorem c243(l:List Cd)(hl:l.length≤big)(t:Tx)(x:ABlk)(K:AVal→List ABlk→Prop)(hK:∀cs σ,cs.all AVal.cell=true→cs.length=12→K (.tup [.agg cs,iv (fndI 0 l t).1,.bool (fndI 0 l t).2]) ([x,.box [.str t]]++σ)) :
  g127.u VV [cdV l,.func (.func 128) [] [.bptr 1 0]] [x,.box [.str t]] K:=by
 have hc:=c259 l hl 128 [] [.rptr [.str t] 0] g128.ok.plain (λc=>c.name==t) (λx _=>c244 x t) (λx=>rfl);rw[H2.e]; unfold g127; dsimp only;refine Zd rfl rfl ?_;refine YD hc rfl g192.ok.plain rfl rfl ?_;clear hc;rcases Xcn t l 0 with ⟨q1,q2,q3,q4⟩|⟨q1,q4⟩
 ·rw[Nat.zero_add] at q3;have q4:idxF (λc=>c.name==t) l 0=((fndI 0 l t).1:Int):=q4;rw[q4];rw[q1] at hK;generalize (fndI 0 l t).1=i at q2 q3 hK ⊢;refine Za (XI ..) ?_;rw[decide_eq_false (by omega)];refine Xe (Za (Yk _ cdC _ _ _ l _ i q3) (Za (ldr (cdLd _)) (Zd rfl rfl (Zt rfl ?_))));exact hK (cdC l[i]) _ rfl rfl
 ·have q4:idxF (λc=>c.name==t) l 0 = -1:=q4;rw[q4];rw[q1] at hK;refine Za rfl ?_;refine Xc (Za rfl (Zd rfl rfl (Zt rfl ?_)));exact hK [.str [],.bool false,iv 0,iv 0,iv 0,iv 0,iv 0,iv 0,.nils,.nils,.nils,iv 0] _ rfl rfl
theorem XcX(cs:List AVal)(h:cs.all AVal.cell=true):cellsOf (.agg cs)=some cs:=by simp[cellsOf,h]
theorem Ya9{α:Type}:∀(a b:List α),a.length=b.length→splice 0 a b=some a
 |[],[],_=>rfl
 |x::a,y::b,h=>by simp only[splice,Ya9 a b (by simpa using h)]
theorem c224(b:Bk)(hl:b.cards.length≤big)(t:Tx):PC 76 [bkV b,.str t] (.tup [iv (fndI 0 b.cards t).1,.bool (fndI 0 b.cards t).2]):=by
 refine Yc hP g76.ok rfl rfl ?_;rw[H2.e]; unfold g76; dsimp only;refine Zd rfl rfl (Zd rfl rfl (Za rfl (Za rfl (Za rfl ?_))));refine Qm hP rfl g127.ok rfl (c243 b.cards hl t _ _ (λcs σ h1 h2=>?_));refine Za rfl (Za rfl (Za rfl ?_));refine Zy (row:=cs) (row':=cs) (XcX cs h1) (by rw[h2]; rfl) (Ya9 _ _ (by rw[h2]; rfl)) ?_;rfl
theorem Ycz{P:Program}{GL:Globs}{c d:Bool}{K:AVal→Prop}{r1:SRes}{σ:List ABlk}(h1:r1=.ok (.bool d) [] [])(hK:K (.bool (c&&d))) :
  (W P GL).gr (.bool c) true (λk=>(W P GL).rd r1 k) λt1=>(W P GL).rd (Zk [.bool c,t1,.bool false] σ) K:=by
 cases c with
 |true=>exact Ya (Za h1 (Za rfl hK))
 |false=>exact Qa rfl (Za rfl hK)
theorem Qcz{P:Program}{GL:Globs}{c d:Bool}{K:AVal→Prop}{r1 r2:SRes}{f3:AVal→AVal→SRes}{f4:AVal→SRes}{σ:List ABlk}{v1 v2 v3:AVal}{q1 q2 q3 q4:List Nat}(h1:r1=.ok v1 q1 [])(h2:r2=.ok v2 q2 [])(h3:f3 v1 v2=.ok v3 q3 [])(h4:f4 v3=.ok (.bool d) q4 [])(hK:K (.bool (c&&d))) :
  (W P GL).gr (.bool c) true (λk=>(W P GL).rd r1 k) λt1=>(W P GL).gr (.bool c) true (λk=>(W P GL).rd r2 k) λt2=>(W P GL).gr (.bool c) true (λk=>(W P GL).rd (f3 t1 t2) k) λt3=>(W P GL).gr (.bool c) true (λk=>(W P GL).rd (f4 t3) k) λt4=>(W P GL).rd (Zk [.bool c,t4,.bool false] σ) K:=by
 cases c with
 |true=>exact Ya (Za h1 (Ya (Za h2 (Ya (Za h3 (Ya (Za h4 (Za rfl hK))))))))
 |false=>exact Qa rfl (Qa rfl (Qa rfl (Qa rfl (Za rfl hK))))
theorem ZcA{P:Program}{GL:Globs}{c d:Bool}{K:AVal→Prop}{r1 r3:SRes}{f2 f4:AVal→SRes}{f5:AVal→AVal→SRes}{σ:List ABlk}{v1 v2 v3 v4:AVal}{q1 q2 q3 q4 q5:List Nat}(h1:r1=.ok v1 q1 [])(h2:f2 v1=.ok v2 q2 [])(h3:r3=.ok v3 q3 [])(h4:f4 v3=.ok v4 q4 [])(h5:f5 v2 v4=.ok (.bool d) q5 [])(hK:K (.bool (c&&d))) :
  (W P GL).gr (.bool c) true (λk=>(W P GL).rd r1 k) λt1=>(W P GL).gr (.bool c) true (λk=>(W P GL).rd (f2 t1) k) λt2=>(W P GL).gr (.bool c) true (λk=>(W P GL).rd r3 k) λt3=>(W P GL).gr (.bool c) true (λk=>(W P GL).rd (f4 t3) k) λt4=>(W P GL).gr (.bool c) true (λk=>(W P GL).rd (f5 t2 t4) k) λt5=>(W P GL).rd (Zk [.bool c,t5,.bool false] σ) K:=by
 cases c with
 |true=>exact Ya (Za h1 (Ya (Za h2 (Ya (Za h3 (Ya (Za h4 (Ya (Za h5 (Za rfl hK))))))))))
 |false=>exact Qa rfl (Qa rfl (Qa rfl (Qa rfl (Qa rfl (Za rfl hK)))))
theorem YcA{P:Program}{GL:Globs}{c d:Bool}{K:AVal→Prop}{r1 r2:SRes}{f3:AVal→SRes}{f4:AVal→AVal→SRes}{f5:AVal→SRes}{σ:List ABlk}{v1 v2 v3 v4:AVal}{q1 q2 q3 q4 q5:List Nat}(h1:r1=.ok v1 q1 [])(h2:r2=.ok v2 q2 [])(h3:f3 v2=.ok v3 q3 [])(h4:f4 v1 v3=.ok v4 q4 [])(h5:f5 v4=.ok (.bool d) q5 [])(hK:K (.bool (c&&d))) :
  (W P GL).gr (.bool c) true (λk=>(W P GL).rd r1 k) λt1=>(W P GL).gr (.bool c) true (λk=>(W P GL).rd r2 k) λt2=>(W P GL).gr (.bool c) true (λk=>(W P GL).rd (f3 t2) k) λt3=>(W P GL).gr (.bool c) true (λk=>(W P GL).rd (f4 t1 t3) k) λt4=>(W P GL).gr (.bool c) true (λk=>(W P GL).rd (f5 t4) k) λt5=>(W P GL).rd (Zk [.bool c,t5,.bool false] σ) K:=by
 cases c with
 |true=>exact Ya (Za h1 (Ya (Za h2 (Ya (Za h3 (Ya (Za h4 (Ya (Za h5 (Za rfl hK))))))))))
 |false=>exact Qa rfl (Qa rfl (Qa rfl (Qa rfl (Qa rfl (Za rfl hK)))))
theorem Xcz{P:Program}{GL:Globs}{c d:Bool}{K:List ABlk→AVal→Prop}{r1:SRes}{f2:AVal→SRes}{f3:AVal→(AVal→List ABlk→Prop)→Prop}{g:List ABlk→List ABlk}{σ:List ABlk}{v1 v2:AVal}{q1 q2:List Nat}(h1:r1=.ok v1 q1 [])(h2:f2 v1=.ok v2 q2 [])(h3:∀k:AVal→List ABlk→Prop,k (.bool d) σ→f3 v2 k)(hK:K σ (.bool (c&&d))) :
  (W P GL).gr (.bool c) true (λk=>(W P GL).rd r1 k) λt1=>(W P GL).gr (.bool c) true (λk=>(W P GL).rd (f2 t1) k) λt2=>(W P GL).gw (.bool c) true (λk=>f3 t2 k) σ λt3 σ'=>(W P GL).rd (Zk [.bool c,t3,.bool false] (g σ')) (K σ'):=by
 cases c with
 |true=>exact Ya (Za h1 (Ya (Za h2 (Xa (h3 _ (Za rfl hK))))))
 |false=>exact Qa rfl (Qa rfl (Yb rfl (Za rfl hK)))
def Old(σ σ':List ABlk):Prop:=σ.length≤σ'.length∧∀c,c<σ.length→hget σ' c=hget σ c
theorem Old.trans{a b c:List ABlk}(h:Old a b)(k:Old b c):Old a c:=⟨Nat.le_trans h.1 k.1,λi hi=>by rw[k.2 i (by have:=h.1; omega),h.2 i hi]⟩
theorem Old.app(σ l:List ABlk):Old σ (σ++l):=⟨by simp,λ_ h=>QG l h⟩
theorem Old.get{σ σ':List ABlk}(h:Old σ σ'){c:Nat}{x:ABlk}(hx:hget σ c=x)(hd:x≠.dead):hget σ' c=x:=by
 rw[h.2 c (Qn hx hd)]; exact hx
theorem Bt.past{σ σ':List ABlk}{x:ABlk}(h:Bt σ.length (σ++[x]) σ'):Old σ σ':=by
 obtain⟨h1,h2⟩:=h;simp only[List.length_append,List.length_singleton] at h1 h2;exact⟨by omega,λc hc=>by rw[h2 c (by omega) (by omega),QG _ hc]⟩
def SeenT(m:List (Tx×Bool))(l:List Tx):Prop:=∀t,(tlook t m).getD false=l.any λd=>d==t
theorem SeenT.nil:SeenT [] []:=λt=>by simp[tlook]
theorem SeenT.put{m:List (Tx×Bool)}{l:List Tx}(h:SeenT m l)(c:Tx):SeenT (tput c true m) (l++[c]):=by
 intro t;rw[YS,List.any_append,←h t]
 grind
theorem Xcs{α:Type}(l:List α)(f:α→Bool):(!l.any f)=l.all λx=>!f x:=by
 grind
theorem QcS(b:Bk)(hc:b.cards.length≤big)(l:List Tx)(hl:l.length≤big)(ok:Bool){σ:List ABlk}(h0':hget σ 0=.box [cdV b.cards,foV b.formats]){K:List AVal→List ABlk→Prop}
 (hK:∀w σ',Old σ σ'→K [w,.bool (ok&&nmsGo b.cards [] l)] σ') :
  VV.loop (λag56 v57 τ=>VV.rd (Yn .lss false [(h0 v57),iv l.length] τ) λt76_58=>VV.test t76_58 (
   VV.rd (Zj 1 [txV l,(h0 v57)] τ) λt77_59=>VV.rd (Qk false 1 [t77_59] τ) λt78_60=>VV.rd (Qk true 2 [.bptr 0 0] τ) λt80_61=>
   VV.call (.call 76) [t80_61,t78_60] τ λt82_62 τ=>VV.rd (Xx 0 [t82_62] τ) λt83_63=>VV.rd (Xx 1 [t82_62] τ) λt84_64=>
   VV.gr (h1 v57) true (λk=>VV.rd (Qab [t84_64] τ) k) λt87_65=>VV.rd (Zk [(h1 v57),t87_65,(.bool false)] τ) λt88_66=>
   VV.gr t88_66 true (λk=>VV.rd (Qab [.map σ.length] τ) k) λt90_67=>VV.gr t88_66 true (λk=>VV.rd (Qab [t78_60] τ) k) λt91_68=>
   VV.gr t88_66 true (λk=>VV.rd (Xr true false (.bool false) [t90_67,t91_68] τ) k) λt92_69=>VV.gr t88_66 true (λk=>VV.rd (Ybu .not [t92_69] τ) k) λt93_70=>
   VV.rd (Zk [t88_66,t93_70,(.bool false)] τ) λt94_71=>VV.wr (Xy true [.map σ.length,t78_60,(.bool true)] τ) τ λ_ τ=>
   VV.rd (Yn .add false [(h0 v57),(.int .i64 1)] τ) λt97_72=>ag56 [t97_72,t94_71] τ) (K v57 τ)) [(.int .i64 0),.bool ok] (σ ++ [.map []]):=by
 rw[bigE] at hl;have hnew:hget (σ++[.map []]) σ.length=.map (mpE []):=Qi _ _;have hlen:σ.length<(σ++[ABlk.map []]).length:=by simp
 refine Zg (ι:=Nat) (λi vs s=>∃ok' m,vs=[iv i,.bool ok']∧i≤l.length∧hget s σ.length=.map (mpE m)∧SeenT m (l.take i)∧Bt σ.length (σ++[.map []]) s∧(ok&&nmsGo b.cards [] l)=(ok'&&nmsGo b.cards (l.take i) (l.drop i))) (λi=>l.length-i) 0 ⟨ok,[],rfl,by omega,hnew,by simpa using SeenT.nil,Bt.refl _ _,by simp⟩ ?_;rintro i vs s again ⟨ok',m,rfl,hi,hm,hse,hbt,hr⟩ hag;have h0'':hget s 0=.box [cdV b.cards,foV b.formats]:=hbt.past.get h0' (by simp);refine Za rfl (Zb (λh=>?_) (λh=>?_))
 ·have h:i<l.length:=by simpa using h
  refine Za (Yk _ txC _ _ _ l _ i h) (Za (ldr (txLd _)) (Za (ld h0'' rfl) ?_));refine Xb (c224 b hc _) rfl g76.ok.plain rfl ?_;refine Za rfl (Za rfl (Ycz rfl ?_));refine Qcz rfl rfl (Zbe hm _) rfl ?_;refine Zd (Qbn hm _ _) (Zz _ (Qn hm (by simp))) (Za (Yf ..) ?_);rw[Qc (n:=i) (by omega)];have hml:=Qn hm (by simp);refine hag (i+1) _ _ (by omega) ⟨_,_,rfl,by omega,Qs _ hml,by rw[Xu _ _ h]; exact hse.put _,hbt.trans ⟨by simp,λc hc hne=>Zo _ hc hne⟩,?_⟩;rw[hr,YLD h,nmsGo,Xu _ _ h,hse,Xcs];simp only[Bool.and_assoc]
 ·have h:i=l.length:=by simp at h; omega
  subst h;rw[List.drop_length,nmsGo,Bool.and_true] at hr;have:=hK (iv (l.length:Int)) s hbt.past;rw[hr] at this; exact this
def SeenF(m:List (Tx×Bool))(l:List Fo):Prop:=∀t,(tlook t m).getD false=l.any λd=>d.name==t
theorem SeenF.put{m:List (Tx×Bool)}{l:List Fo}(h:SeenF m l)(c:Fo):SeenF (tput c.name true m) (l++[c]):=by
 intro t;rw[YS,List.any_append,←h t]
 grind
theorem c184(b:Bk)(hf:bkFit b=true):PC 45 [bkV b] (.agg [iv (fmtGo b [] b.formats).1,iv (fmtGo b [] b.formats).2]):=by
 simp only[bkFit,QT,Bool.and_eq_true,decide_eq_true_eq] at hf;obtain⟨⟨fc,_⟩,fl,fa⟩:=hf;have fl':=fl;rw[bigE] at fl';refine Yc hP g45.ok rfl rfl ?_;rw[H1.e]; unfold g45; dsimp only;refine Zd rfl rfl (Zd rfl rfl (Zd rfl rfl (Za rfl (Za rfl ?_))));refine Za (v:=iv b.formats.length) (rd:=[]) (by simp[Ze]) ?_;refine Zg (ι:=Nat) (λi vs σ=>∃m,vs=[iv i]∧i≤b.formats.length∧hget σ 0=.box [cdV b.cards,foV b.formats]∧hget σ 1=.box [iv 0,iv 0]∧hget σ 2=.map (mpE m)∧SeenF m (b.formats.take i)∧fmtGo b [] b.formats=fmtGo b (b.formats.take i) (b.formats.drop i)) (λi=>b.formats.length-i) 0 ⟨[],rfl,by omega,rfl,rfl,rfl,λt=>by simp[tlook],by simp⟩ ?_;rintro i vs σ again ⟨m,rfl,hi,hb0,hb1,hb2,hse,hr⟩ hag;refine Za rfl (Zb (λh=>?_) (λh=>?_));rotate_left
 ·have h:i=b.formats.length:=by simp at h; omega
  subst h;rw[List.drop_length,fmtGo] at hr;refine Za rfl (Zd (stv hb1 rfl rfl rfl) (Zz _ (Qn hb1 (by simp))) (Zt (QI (Qn hb1 (by simp)) rfl) ?_));rw[hr]
 have h:i<b.formats.length:=by simpa using h
 have hix:=λ(s:List ABlk)=>Yk s foC false false 7 b.formats .i64 i h;have hfo:=List.all_eq_true.1 fa _ (List.getElem_mem h);have htk:=Xu _ _ h;rw[YLD h,fmtGo] at hr;generalize b.formats[i]=f at hix hfo htk hr;simp only[foFit,Bool.and_eq_true,decide_eq_true_eq] at hfo;obtain⟨fo1,fo2,fo3⟩:=hfo;refine Za (hix _) (Za (ldr (foLd f)) (Zy (row:=foC f) (row':=foC f) rfl rfl rfl ?_));have hB:=Qi σ (ABlk.box (foC f));have hb0':hget (σ++[ABlk.box (foC f)]) 0=.box [cdV b.cards,foV b.formats]:=Xj _ hb0 (by simp);have hb1':hget (σ++[ABlk.box (foC f)]) 1=.box [iv 0,iv 0]:=Xj _ hb1 (by simp);have hb2':hget (σ++[ABlk.box (foC f)]) 2=.map (mpE m):=Xj _ hb2 (by simp);generalize σ++[ABlk.box (foC f)]=τ at hB hb0' hb1' hb2' ⊢;generalize σ.length=c at hB ⊢;clear hb0 hb1 hb2;refine Za (XI ..) ?_;refine Xcz (g:=λs=>s) (σ:=τ) (d:=nameOk f.name) rfl (ld hB rfl) (λk hk=>Xb (c223 _ fo1) rfl g75.ok.plain rfl hk) ?_;refine YcA rfl rfl (ld hB rfl) (Zbe hb2' _) rfl ?_;refine Yaj rfl (ld hB rfl) (XaG ..) ?_;refine ZcA rfl (ld hB rfl) rfl (ld hB rfl) (Zcl ..) ?_;refine Yaj rfl (ld hB rfl) (Zcl ..) ?_;refine Yaj rfl (ld hB rfl) (XaG ..) ?_;refine Yaj rfl (ld hB rfl) (Zcl ..) ?_;refine Za rfl (Za (ld hB rfl) (Za rfl (Za (ld hB rfl) (Za rfl ?_))));refine Zl 3 (Zf (Za rfl (Xc (Za rfl (Zd rfl (QE _ _) ?_)))));refine Za (v:=iv f.banned.length) (rd:=[]) (by simp[Ze]) ?_;refine QcS b fc f.banned fo2 _ hb0' (λw τ2 o2=>?_);refine Za rfl (Zf (Za rfl (Xc (Za rfl (Zd rfl (QE _ _) ?_)))));refine Za (v:=iv f.single.length) (rd:=[]) (by simp[Ze]) ?_;refine QcS b fc f.single fo3 _ (o2.get hb0' (by simp)) (λw τ3 o3=>?_);have o:=o2.trans o3;refine Za rfl (Zf (Za rfl (Xe ?_)));have hok:((((((((((decide ((i:Int)<240)&&nameOk f.name) && !(tlook f.name m).getD false)&&decide (0≤f.least))&&decide (f.least≤f.most))&&decide (f.most≤60))&&decide (0≤f.copies))&&decide (f.copies≤999))&&nmsGo b.cards [] f.banned)&&nmsGo b.cards [] f.single))=fmtOk b (b.formats.take i) f:=by
  have hti:(b.formats.take i).length=i:=by rw[List.length_take]; omega
  have e:decide ((i:Int)<240)=decide (i<240):=by congr 1; simp; omega
  rw[fmtOk,hti,hse,e];generalize (List.take i b.formats).any (λg=>g.name==f.name)=x1;generalize decide (i<240)=x2;generalize nameOk f.name=x3;cases x1<;>cases x2<;>cases x3<;>simp[Bool.and_assoc]
 have hb1'':=o.get hb1' (by simp);have hb2'':=o.get hb2' (by simp);have hB'':=o.get hB (by simp);have hb0'':=o.get hb0' (by simp);refine Za (v:=.bool (!fmtOk b (b.formats.take i) f)) (rd:=[]) (by rw[←hok]; rfl) ?_;refine Zb (λh2=>?_) (λh2=>?_)
 ·have h2:fmtOk b (b.formats.take i) f=false:=by simpa using h2
  rw[h2,if_neg (by simp)] at hr;refine Za rfl (Za (ld hB'' rfl) (Za rfl (Zd (stv hb1'' rfl rfl rfl) (Zz _ (Qn hb1'' (by simp))) (Zt (QI (Qn hb1'' (by simp)) rfl) ?_))));rw[hr]
 ·have h2:fmtOk b (b.formats.take i) f=true:=by simpa using h2
  rw[h2,if_pos rfl] at hr;refine Za rfl (Za (ld hB'' rfl) (Zd (Qbn hb2'' _ _) (Zz _ (Qn hb2'' (by simp))) (Za (Yf ..) ?_)));rw[Qc (n:=i) (by omega)];refine hag (i+1) _ _ (by omega) ⟨_,rfl,by omega,?_,?_,Qs _ (Qn hb2'' (by simp)),by rw[htk]; exact hse.put f,by rw[htk]; exact hr⟩
  ·exact Yp hb0'' (by simp) (by omega)
  ·exact Yp hb1'' (by simp) (by omega)
def Zu(l:List Cd):Prop:=∀c∈l,(cdP c).length≤500000000
theorem c180'(cs:List Cd)(hf:QT cs=true)(hs:Zu cs):PC 41 [cdV cs] (.agg [iv (cdsChk cs).1,iv (cdsChk cs).2]):=by
 refine c180 cs hf (λm hm c hc=>?_);have hfc:cdFit c=true:=by
  simp_all [QT]
 have hfc':=hfc;simp only[cdFit,Bool.and_eq_true,decide_eq_true_eq] at hfc';obtain⟨q0,q1,q2,q3⟩:=hfc';exact c221 m cs hm c hfc (c223 _ q0) (c124 c q1 q2 q3 (hs c hc))
theorem c143(b:Bk)(hf:bkFit b=true)(hs:Zu b.cards):PC 19 [bkV b] (.agg [iv (bkR b).1,iv (bkR b).2]):=by
 have hf':=hf;simp only[bkFit,Bool.and_eq_true] at hf';have hcf:=hf'.1;have p179:PC 40 [.rptr [cdV b.cards,foV b.formats] 0] (.agg [iv (cdsChk b.cards).1,iv (cdsChk b.cards).2]):=by
  refine Yc hP g40.ok rfl rfl ?_;rw[H1.e]; unfold g40; dsimp only;refine Zd rfl rfl (Za rfl (Za rfl ?_));refine Xb (c180' _ hcf hs) rfl g41.ok.plain rfl ?_;exact Zd rfl rfl (Zt rfl rfl)
 have p181:PC 42 [.rptr [cdV b.cards,foV b.formats] 0] (.agg [iv (cdsL b.cards).1,iv (cdsL b.cards).2]):=by
  refine Yc hP g42.ok rfl rfl ?_;rw[H1.e]; unfold g42; dsimp only;refine Zd rfl rfl (Za rfl (Za rfl ?_));refine Xb (c182 _ hcf) rfl g43.ok.plain rfl ?_;exact Zd rfl rfl (Zt rfl rfl)
 have p183:PC 44 [.rptr [cdV b.cards,foV b.formats] 0] (.agg [iv (fmtGo b [] b.formats).1,iv (fmtGo b [] b.formats).2]):=by
  refine Yc hP g44.ok rfl rfl ?_;rw[H1.e]; unfold g44; dsimp only;refine Zd rfl rfl (Za rfl ?_);refine Xb (c184 b hf) rfl g45.ok.plain rfl ?_;exact Zd rfl rfl (Zt rfl rfl)
 refine Yc hP g19.ok rfl rfl ?_;rw[H1.e]; unfold g19; dsimp only;refine Zd rfl rfl (Zd rfl rfl (Za rfl (Za rfl (Za rfl (Za rfl ?_)))));refine Zl 4 (Zf (Za rfl (Xc (Za rfl ?_))));refine YD p179 rfl g40.ok.plain rfl rfl (Zd rfl rfl (Zd rfl rfl (Za rfl (Za rfl (Za (QaG ..) (Zb (λh=>?_) (λh=>Za rfl ?_)))))))
 ·refine Za rfl (Zd rfl rfl (Zt rfl ?_));rw[bkR,if_pos (by simpa using h)]
 refine Zf (Za rfl (Xc (Za rfl ?_)));refine YD p181 rfl g42.ok.plain rfl rfl (Zd rfl rfl (Zd rfl rfl (Za rfl (Za rfl (Za (QaG ..) (Zb (λh2=>?_) (λh2=>Za rfl ?_)))))))
 ·refine Za rfl (Zd rfl rfl (Zt rfl ?_));simp_all [bkR]
 refine Zf (Za rfl (Xc (Za rfl ?_)));refine YD p183 rfl g44.ok.plain rfl rfl (Zd rfl rfl (Zd rfl rfl (Za rfl (Za rfl (Za (QaG ..) (Zb (λh3=>?_) (λh3=>Za rfl ?_)))))))
 ·refine Za rfl (Zd rfl rfl (Zt rfl ?_));simp_all [bkR]
 refine Zf (Za rfl (Xe (Za rfl (Zd rfl rfl (Zt rfl ?_)))));rw[bkR,if_neg (by simpa using h),if_neg (by simpa using h2)];have h3:(fmtGo b [] b.formats).1=0:=by simpa using h3
 have key:∀(l pre:List Fo),(fmtGo b pre l).1=0→(fmtGo b pre l).2=0:=by
  intro l
  induction l<;>grind [fmtGo]
 rw[h3,key _ _ h3]
end Go.Ah.Tz
end
section
namespace Go.Ah.Tz
open Go.Proofs.Tryz (prog)
theorem NCall.case1{P:Program}{GL:Globs}{f:FuncId}{e:Bool}{sz:Nat}{v:AVal}{bs:List ABlk}(h1:NCall P GL f [.nils] v bs)(h2:NCall P GL f [.rsl e true sz []] v bs):NCall P GL f [.rsl e false sz []] v bs:=by
 intro w M vs hM hg hx
 match vs,hx with
 |[u],⟨hu,_⟩=>
  have hu':Den M noOwn (.rsl e false sz []) u:=hu;cases hu' with
  |rsl _ _ _ _ _ a cap blk off f q1 q2 q3 q4 q5 q6 q7 q8=>
   cases a with
   |none=>
    have:=q4 rfl;subst this;exact h1 w M _ hM hg ⟨.nils _,trivial⟩
   |some p=>exact h2 w M _ hM hg ⟨.rsl _ e true sz [] (some p) cap blk off f q1 (λ_=>rfl) q3 q4 q5 q6 q7 q8,trivial⟩
attribute [local irreducible] Ans.rd Ans.pu Ans.wr Ans.dr Ans.gr Ans.gw Ans.gl Ans.gd Ans.opt joinK W
theorem c96(l:List Int)(hl:l.length≤1000000000):NCall prog GL0 22 [rowV l] (.sl 0 0 l.length false) [.rows 1 (l.map cel)]:=by
 cases l with
 |nil=>
  refine NCall.case1 ?_ ?_
  ·refine Yv hP g22.ok rfl ?_;rw[H1.e]; unfold g22; dsimp only;exact Za rfl (Xc (Tidy.ghost 1 (.inl rfl)))
  ·refine Yv hP g22.ok rfl ?_;rw[H1.e]; unfold g22; dsimp only;exact Za rfl (Xe (Za rfl (Zd rfl rfl (Tidy.trans (Tidy.weak λM c u d=>XS (.rsl true true 1 []) ⟨M,c⟩ u d) (Tidy.ghost 1 (.inr rfl))))))
 |cons x l=>
  refine Yv hP g22.ok rfl ?_;rw[H1.e]; unfold g22; dsimp only;refine Za rfl (Xe (Za rfl ?_));refine Zd (v:=.sl 0 0 (x :: l).length false) (rd:=[]) (up:=[(0,.rows 1 ((x :: l).map cel))]) ?_ rfl (Tidy.refl _ _);show (match Zq 1 [] (rowV (x :: l)) with
   |some (ys,rd)=>bif rowsCell ys&&Nat.ble ((2*(([]:List (List AVal)).length+ys.length)+192)*8) (2 ^ 48) then SRes.ok (.sl 0 0 (([]:List (List AVal)).length+ys.length) false) rd ([]++[(0,ABlk.rows 1 ([]++ys))]) else SRes.stop
   | none=>.stop)=_
  have h1:Zq 1 [] (rowV (x::l))=some ((x::l).map cel,[]):=rfl;have h2:∀q:List Int,rowsCell (q.map cel)=true:=by
   intro q; induction q with
   |nil=>rfl
   |cons y q ih=>simp only[List.map_cons,rowsCell,ih,Bool.and_true]; rfl
  have h3:Nat.ble ((2*(([]:List (List AVal)).length+((x::l).map cel).length)+192)*8) (2 ^ 48)=true:=Nat.ble_eq_true_of_le (by simp only[List.length_map,List.length_nil]; omega);simp only[h1,h2,h3,Bool.and_self,cond_true];simp
theorem w96{l:List Int}(hl:l.length≤1000000000){σ:List ABlk}{K:AVal→List ABlk→Prop}(hK:K (.sl σ.length 0 l.length false) (σ++[.rows 1 (l.map cel)])):VV.call (.call 22) [rowV l] σ K:=by
 refine Xap (c96 l hl) rfl g22.ok.plain rfl ?_;simp only[Xp,List.map_cons,List.map_nil,ZP,AVal.ren,Zw,Nat.zero_add];exact hK
theorem d96{l:List Int}(hl:l.length≤1000000000){σ:List ABlk}{K:AVal→List Nat×List Nat→List ABlk→Prop}(hK:K (.sl σ.length 0 l.length false) ([],[σ.length]) (σ++[.rows 1 (l.map cel)])):VV.dcall (.call 22) [rowV l] σ K:=by
 refine Qap (c96 l hl) rfl g22.ok.plain rfl ?_;simp only[Xp,List.map_cons,List.map_nil,ZP,AVal.ren,Zw,Nat.zero_add,QV];exact hK
theorem c112(l:List Th)(hl:l.length≤1000000000):NCall prog GL0 60 [thV l] (.sl 0 0 l.length false) [.rows 4 (l.map thC)]:=by
 cases l with
 |nil=>
  refine NCall.case1 ?_ ?_
  ·refine Yv hP g60.ok rfl ?_;rw[H1.e]; unfold g60; dsimp only;exact Za rfl (Xc (Tidy.ghost 4 (.inl rfl)))
  ·refine Yv hP g60.ok rfl ?_;rw[H1.e]; unfold g60; dsimp only;exact Za rfl (Xe (Za rfl (Zd rfl rfl (Tidy.trans (Tidy.weak λM c u d=>XS (.rsl true true 4 []) ⟨M,c⟩ u d) (Tidy.ghost 4 (.inr rfl))))))
 |cons x l=>
  refine Yv hP g60.ok rfl ?_;rw[H1.e]; unfold g60; dsimp only;refine Za rfl (Xe (Za rfl ?_));refine Zd (v:=.sl 0 0 (x :: l).length false) (rd:=[]) (up:=[(0,.rows 4 ((x :: l).map thC))]) ?_ rfl (Tidy.refl _ _);show (match Zq 4 [] (thV (x :: l)) with
   |some (ys,rd)=>bif rowsCell ys&&Nat.ble ((2*(([]:List (List AVal)).length+ys.length)+192)*32) (2 ^ 48) then SRes.ok (.sl 0 0 (([]:List (List AVal)).length+ys.length) false) rd ([]++[(0,ABlk.rows 4 ([]++ys))]) else SRes.stop
   | none=>.stop)=_
  have h1:Zq 4 [] (thV (x::l))=some ((x::l).map thC,[]):=rfl;have h2:∀q:List Th,rowsCell (q.map thC)=true:=by
   intro q; induction q with
   |nil=>rfl
   |cons y q ih=>simp only[List.map_cons,rowsCell,ih,Bool.and_true]; rfl
  have h3:Nat.ble ((2*(([]:List (List AVal)).length+((x::l).map thC).length)+192)*32) (2 ^ 48)=true:=Nat.ble_eq_true_of_le (by simp only[List.length_map,List.length_nil]; omega);simp only[h1,h2,h3,Bool.and_self,cond_true];simp
theorem d112{l:List Th}(hl:l.length≤1000000000){σ:List ABlk}{K:AVal→List Nat×List Nat→List ABlk→Prop}(hK:K (.sl σ.length 0 l.length false) ([],[σ.length]) (σ++[.rows 4 (l.map thC)])):VV.dcall (.call 60) [thV l] σ K:=by
 refine Qap (c112 l hl) rfl g60.ok.plain rfl ?_;simp only[Xp,List.map_cons,List.map_nil,Qaz,AVal.ren,Zw,Nat.zero_add,QV];exact hK
theorem c59(s:St)(hs:StLe 1000000000 s):NCall prog GL0 34 [stV s] (.agg (stO s 0)) (stB s):=by
 refine Yv hP g34.ok rfl ?_;rw[H1.e]; unfold g34; dsimp only;have w1:IntKind.i64.wrap (0+1)=1:=by decide
 have w2:IntKind.i64.wrap (1+1)=2:=by decide
 repeat first|refine Za rfl ?_|refine Zd rfl rfl ?_|refine Yg rfl ?_|refine Qe rfl rfl ?_
 refine w96 hs.attack ?_;simp only[List.length_cons,List.length_nil,List.nil_append,List.cons_append,Nat.zero_add,Nat.reduceAdd];repeat first|refine Za rfl ?_|refine Zd rfl rfl ?_|refine Yg rfl ?_|refine Qe rfl rfl ?_
 refine Zl 3 (Zf ?_);refine Za rfl (Xc ?_);repeat first|refine Za rfl ?_|refine Zd rfl rfl ?_|refine Yg rfl ?_|refine Qe rfl rfl ?_
 refine d96 hs.s0.deck ?_;simp only[List.length_cons,List.length_nil,List.nil_append,List.cons_append,Nat.zero_add,Nat.reduceAdd];repeat first|refine Za rfl ?_|refine Zd rfl rfl ?_|refine Yg rfl ?_|refine Qe rfl rfl ?_
 refine d96 hs.s0.hand ?_;simp only[List.length_cons,List.length_nil,List.nil_append,List.cons_append,Nat.zero_add,Nat.reduceAdd];repeat first|refine Za rfl ?_|refine Zd rfl rfl ?_|refine Yg rfl ?_|refine Qe rfl rfl ?_
 refine d96 hs.s0.grave ?_;simp only[List.length_cons,List.length_nil,List.nil_append,List.cons_append,Nat.zero_add,Nat.reduceAdd];repeat first|refine Za rfl ?_|refine Zd rfl rfl ?_|refine Yg rfl ?_|refine Qe rfl rfl ?_
 refine d96 hs.s0.told ?_;simp only[List.length_cons,List.length_nil,List.nil_append,List.cons_append,Nat.zero_add,Nat.reduceAdd];repeat first|refine Za rfl ?_|refine Zd rfl rfl ?_|refine Yg rfl ?_|refine Qe rfl rfl ?_
 refine d112 hs.s0.units ?_;simp only[List.length_cons,List.length_nil,List.nil_append,List.cons_append,Nat.zero_add,Nat.reduceAdd];repeat first|refine Za rfl ?_|refine Zd rfl rfl ?_|refine Yg rfl ?_|refine Qe rfl rfl ?_
 refine XX (by kernel_rfl) (Za rfl ?_);rw[w1];refine Zf ?_;refine Za rfl (Xc ?_);repeat first|refine Za rfl ?_|refine Zd rfl rfl ?_|refine Yg rfl ?_|refine Qe rfl rfl ?_
 refine d96 hs.s1.deck ?_;simp only[List.length_cons,List.length_nil,List.nil_append,List.cons_append,Nat.zero_add,Nat.reduceAdd];repeat first|refine Za rfl ?_|refine Zd rfl rfl ?_|refine Yg rfl ?_|refine Qe rfl rfl ?_
 refine d96 hs.s1.hand ?_;simp only[List.length_cons,List.length_nil,List.nil_append,List.cons_append,Nat.zero_add,Nat.reduceAdd];repeat first|refine Za rfl ?_|refine Zd rfl rfl ?_|refine Yg rfl ?_|refine Qe rfl rfl ?_
 refine d96 hs.s1.grave ?_;simp only[List.length_cons,List.length_nil,List.nil_append,List.cons_append,Nat.zero_add,Nat.reduceAdd];repeat first|refine Za rfl ?_|refine Zd rfl rfl ?_|refine Yg rfl ?_|refine Qe rfl rfl ?_
 refine d96 hs.s1.told ?_;simp only[List.length_cons,List.length_nil,List.nil_append,List.cons_append,Nat.zero_add,Nat.reduceAdd];repeat first|refine Za rfl ?_|refine Zd rfl rfl ?_|refine Yg rfl ?_|refine Qe rfl rfl ?_
 refine d112 hs.s1.units ?_;simp only[List.length_cons,List.length_nil,List.nil_append,List.cons_append,Nat.zero_add,Nat.reduceAdd];repeat first|refine Za rfl ?_|refine Zd rfl rfl ?_|refine Yg rfl ?_|refine Qe rfl rfl ?_
 refine XX (by kernel_rfl) (Za rfl ?_);rw[w2];refine Zf ?_;refine Za rfl (Xe ?_);repeat first|refine Za rfl ?_|refine Zd rfl rfl ?_|refine Yg rfl ?_|refine Qe rfl rfl ?_
 refine Zt rfl ?_;refine Tidy.gc [2,3,4,5,7,6,8,9,10,12,11] (by decide) (by simp) ?_ rfl;simp only[gcH,List.map_cons,List.map_nil,hget,ZP,Qaz]
end Go.Ah.Tz
end
section
namespace Go.Ah.Tz
open Go.Proofs.Tryz (prog)
def ilook{α:Type}(t:Int):List (Int×α)→Option α
 |[]=>none
 |p::l=>if t==p.1 then some p.2 else ilook t l
def mpG{α:Type}(f:α→AVal)(l:List (Int×α)):List (AVal×AVal):=l.map λp=>(iv p.1,f p.2)
theorem Zbl{α:Type}(f:α→AVal)(t:Int):∀l:List (Int×α),alook (iv t) (mpG f l)=some ((ilook t l).map f)
 |[]=>rfl
 |p::l=>by
  simp only[mpG,List.map_cons,alook,keyEq,ilook,ikEq,cond_true];cases h:t==p.1 with
  |true=>rfl
  |false=>exact Zbl f t l
theorem QbN{α:Type}(f:α→AVal)(t:Int)(v:α):∀l:List (Int×α),ilook t l=none→aput (iv t) (f v) (mpG f l)=some (mpG f (l++[(t,v)]))
 |[],_=>rfl
 |p::l,h=>by
  rw[ilook] at h;split at h
  ·cases h
  ·rename_i h2;have h2:(t==p.1)=false:=by simpa using h2
   have:=QbN f t v l h;simp only[mpG] at this;simp only[mpG,List.map_cons,List.cons_append,aput,keyEq,ikEq,cond_true,h2,this]
theorem QaD{α:Type}(t:Int):∀ (a b:List (Int × α)),ilook t (a ++ b)=(match ilook t a with
 |some v=>some v
 | none=>ilook t b)
 |[],b=>rfl
 |p::a,b=>by
  simp only[List.cons_append,ilook];split
  ·rfl
  ·exact QaD t a b
theorem Zay{α:Type}(t:Int):∀l:List (Int×α),(ilook t l).isSome=(l.map (·.1)).contains t
 |[]=>rfl
 |p::l=>by
  simp only[ilook,List.map_cons,List.contains_cons];cases h:t==p.1 with
  |true=>simp
  |false=>simp only[Bool.false_eq_true,if_false,Bool.false_or]; exact Zay t l
theorem XbC{α:Type}(f:α→AVal)(z:AVal)(ok:Bool){σ:List ABlk}{b:Nat}{l:List (Int×α)}(h:hget σ b=.map (mpG f l))(t:Int):Xr false ok z [.map b,iv t] σ=.ok (lookV ok z ((ilook t l).map f)) [b] []:=by
 simp only[Xr,X8,mapOf,h,Zbl,cond_true]
theorem QcR{α:Type}(f:α→AVal){σ:List ABlk}{b:Nat}{l:List (Int×α)}(h:hget σ b=.map (mpG f l))(t:Int)(v:α)(hn:ilook t l=none):Xy false [.map b,iv t,f v] σ=.ok .junk [] [(b,.map (mpG f (l++[(t,v)])))]:=by
 simp only[Xy,X8,h,QbN f t v l hn,cond_true]
structure SdAt (row:List AVal) (j:Nat) (x:Sd):Prop where
 h0:partA false (j+0) 1 row=some (iv x.life)
 h1:partA false (j+1) 1 row=some (iv x.mana)
 h2:partA false (j+2) 1 row=some (iv x.most)
 h3:partA false (j+3) 1 row=some (rowV x.deck)
 h4:partA false (j+4) 1 row=some (rowV x.hand)
 h5:partA false (j+5) 1 row=some (rowV x.grave)
 h6:partA false (j+6) 1 row=some (thV x.units)
 h7:partA false (j+7) 1 row=some (rowV x.told)
theorem sdAt0(s:St):SdAt (stC s) 7 s.s0:=⟨rfl,rfl,rfl,rfl,rfl,rfl,rfl,rfl⟩
theorem sdAt1(s:St):SdAt (stC s) 15 s.s1:=⟨rfl,rfl,rfl,rfl,rfl,rfl,rfl,rfl⟩
attribute [local irreducible] Ans.rd Ans.pu Ans.wr Ans.dr Ans.gr Ans.gw Ans.gl Ans.gd Ans.opt joinK W
set_option maxHeartbeats 2000000
theorem c120(l:List Int)(hl:l.length≤big)(id:FuncId)(fs cs:List AVal)(hp:Zh prog id=true)(f:Int→Bool)(hc:∀x∈l,PC id (fs++[iv x]++cs) (.bool (f x)))(hr:∀x,roL (fs++[iv x]++cs)=true) :
  PC 46 [rowV l,.func (.func id) fs cs] (iv (idxF f l 0)):=by
 rw[bigE] at hl;refine Yc hP g46.ok rfl rfl ?_;rw[H2.e]; unfold g46; dsimp only;refine Za (v:=iv l.length) (rd:=[]) (by simp[Ze]) ?_;refine Zg (ι:=Nat) (λi vs s=>vs=[iv i]∧i≤l.length∧idxF f l 0=idxF f (l.drop i) i) (λi=>l.length-i) 0 ⟨rfl,by omega,by simp⟩ ?_;rintro i vs s again ⟨rfl,hi,hr'⟩ hag;refine Za rfl (Zb (λh=>?_) (λh=>?_))
 ·have h:i<l.length:=by simpa using h
  refine Za (Yk _ cel _ _ _ l _ i h) (Za (ldr rfl) ?_);refine Xb (hc _ (List.getElem_mem h)) rfl hp (hr _) ?_;rw[YLD h,idxF] at hr';refine Zb (λh2=>?_) (λh2=>?_)
  ·rw[if_pos h2] at hr'; rw[hr']; rfl
  ·rw[if_neg (by rw[h2]; simp)] at hr';refine Za (Yf ..) ?_;rw[Qc (n:=i) (by omega)];exact hag (i+1) _ _ (by omega) ⟨rfl,by omega,by rw[hr']; push_cast; rfl⟩
 ·have h:i=l.length:=by simp at h; omega
  subst h;rw[List.drop_length,idxF] at hr';rw[hr']
theorem c185(l:List Int)(hl:l.length≤big)(id:FuncId)(fs cs:List AVal)(hp:Zh prog id=true)(f:Int→Bool)(hc:∀x∈l,PC id (fs++[iv x]++cs) (.bool (f x)))(hr:∀x,roL (fs++[iv x]++cs)=true)(hr2:roL [rowV l,.func (.func id) fs cs]=true) :
  PC 20 [rowV l,.func (.func id) fs cs] (.bool (l.any f)):=by
 refine Yc hP g20.ok rfl rfl ?_;rw[H2.e]; unfold g20; dsimp only;refine Xb (c120 l hl id fs cs hp f hc hr) rfl g46.ok.plain hr2 ?_;refine Za (XaG ..) ?_;rw[Ybg f l 0 (by omega)]
theorem c186(b:Bk)(x:Int):PC 209 [iv x,.rptr [.rptr [cdV b.cards,foV b.formats] 0] 0] (.bool (decide (x<0)||decide ((b.cards.length:Int)≤x))):=by
 refine Yc hP g209.ok rfl rfl ?_;rw[H2.e]; unfold g209; dsimp only;refine Za (XI ..) ?_;refine YcU (λ_=>rfl) (λ_=>ldr rfl) (λ_=>rfl) (λ_=>rfl) (λ_=>ldr rfl) (v6:=iv b.cards.length) (q6:=[]) (λ_=>by simp[Ze]) (λ_=>XaG ..) rfl
theorem Zb1(n:Nat)(l:List Int)(most:Int):(!(decide ((l.length:Int)>most)||l.any λx=>decide (x<0)||decide ((n:Int)≤x)))=Xi n l most:=by
 rw[Xi,Bool.not_or,Xcs]
 congr 1
 ·rw[Bool.eq_iff_iff]; simp
 ·congr 1; funext x
  rw[Bool.eq_iff_iff]; simp
end Go.Ah.Tz
end
section
namespace Go.Ah.Tz
open Go.Proofs.Tryz (prog)
theorem ZcK(f:Int→AVal)(z:AVal)(o:Option Int):lookV true z (o.map f)=.tup [(o.map f).getD z,.bool o.isSome]:=by cases o<;>rfl
theorem Qcd{σ:List ABlk}{b:Nat}{row:List AVal}(h:hget σ b=.box [.rptr row 0])(l:List Int)(id:FuncId):Xs σ 1000 [rowV l,.func (.func id) [] [.bptr b 0]]=some ([rowV l,.func (.func id) [] [.rptr [.rptr row 0] 0]],[b]):=by
 simp_all [Xs]
attribute [local irreducible] Ans.rd Ans.pu Ans.wr Ans.dr Ans.gr Ans.gw Ans.gl Ans.gd Ans.opt joinK W
set_option maxHeartbeats 4000000
@[reducible] def bkC(b:Bk):List AVal:=[cdV b.cards,foV b.formats]
theorem QbU(b:Bk)(l:List Int)(hl:l.length≤big)(most:Int){σ:List ABlk}{b4:Nat}(hb:hget σ b4=.box [.rptr (bkC b) 0]){R K:List ABlk→Prop}(hR:Xi b.cards.length l most=false→∀σ',Old σ σ'→R σ')(hK:Xi b.cards.length l most=true→∀σ',Old σ σ'→K σ') :
  VV.wr (XN [.nils,(.int .i64 0)] [] σ) σ λt11_62 σ=>VV.wr (ZH 2 [t11_62,.agg [rowV l,iv most]] σ) σ λ_ σ=>
  VV.rd (Ye 0 [t11_62] σ) λt88_63=>VV.rd (Qk false 1 [t88_63] σ) λt89_64=>VV.rd (Xo [t89_64] σ) λt90_65=>
  VV.rd (Ye 1 [t11_62] σ) λt91_66=>VV.rd (Qk false 1 [t91_66] σ) λt92_67=>VV.rd (Yn .gtr false [t90_65,t92_67] σ) λt93_68=>
  VV.gr t93_68 false (λk=>VV.rd (Ye 0 [t11_62] σ) k) λt95_69=>VV.gr t93_68 false (λk=>VV.rd (Qk false 1 [t95_69] σ) k) λt96_70=>
  VV.gr t93_68 false (λk=>VV.rd (QJ (.func 209) 0 [.bptr b4 0] σ) k) λt97_71=>VV.gw t93_68 false (λk=>VV.call (.call 20) [t96_70,t97_71] σ k) σ λt98_72 σ=>
  VV.rd (Zk [t93_68,(.bool true),t98_72] σ) λt99_73=>VV.test t99_73 (R σ) (K σ):=by
 refine Zy (row:=[rowV l,iv most]) rfl rfl rfl ?_;have hB:=Qi σ (ABlk.box [rowV l,iv most]);have hb':hget (σ++[ABlk.box [rowV l,iv most]]) b4=.box [.rptr (bkC b) 0]:=Xj _ hb (by simp);have ho:=Old.app σ [ABlk.box [rowV l,iv most]];generalize σ++[ABlk.box [rowV l,iv most]]=τ at hB hb' ho ⊢;generalize σ.length=c at hB ⊢;refine Za rfl (Za (ld hB rfl) (Za (v:=iv l.length) (rd:=[]) (by simp[Ze]) (Za rfl (Za (ld hB rfl) (Za (Xab ..) ?_)))));refine ZcB (d:=l.any λx=>decide (x<0)||decide ((b.cards.length:Int)≤x)) (λ_=>rfl) (λ_=>ld hB rfl) (λ_=>rfl) (λ_ k hk=>?_) ?_
 ·exact YD (c185 l hl 209 [] [.rptr [.rptr (bkC b) 0] 0] g209.ok.plain (λx=>decide (x<0)||decide ((b.cards.length:Int)≤x)) (λx _=>c186 b x) (λx=>rfl) rfl) rfl g20.ok.plain (Qcd hb' l 209) rfl hk
 have he:=Zb1 b.cards.length l most;refine Zb (λh=>hR ?_ _ ho) (λh=>hK ?_ _ ho)
 ·rw[←he,h]; rfl
 ·rw[←he,h]; rfl
theorem Yc5(b:Bk)(next:Int)(u:Th)(met:Bool) :
  (!((((((((met||decide (u.card<0))||decide ((b.cards.length:Int)≤u.card)) || !((b.cards[u.card.toNat]?).getD default).unit)||decide (u.harm<0))||decide (1000000<u.harm))||decide (u.id<1))||decide (next≤u.id))))=(Yq b next u && !met):=by
 rw[Yq]
 grind
theorem c144(b:Bk)(s:St)(side:Int)(j:Nat)(x:Sd)(hx:SdAt (stC s) j x)(hj:∀σ,Zr 2 8 [.rptr (stC s) (0+7),iv side] σ=.ok (.rptr (stC s) j) [] [])(hs:SdLe 1000000000 x)(ids:List (Int×Int)){m:Nat}{σ:List ABlk}(hm:hget σ m=.map (mpG iv ids)){K:AVal→List ABlk→Prop}
 (hF:(Qh b.cards.length x&&Zn b s.next (ids.map (·.1)) x.units)=false→∀σ',K (.bool false) σ')
 (hT:(Qh b.cards.length x&&Zn b s.next (ids.map (·.1)) x.units)=true→∀σ',Bt m σ σ'→hget σ' m=.map (mpG iv (ids++x.units.map λu=>(u.id,side)))→K (.bool true) σ') :
  g150.u VV [.rptr (bkC b) 0,.rptr (stC s) 0,iv side,.map m] σ K:=by
 rw[H4.e]; unfold g150; dsimp only;refine Zd rfl (QE _ _) ?_;have hB:=Qi σ (ABlk.box [.rptr (bkC b) 0]);have hm':hget (σ++[ABlk.box [.rptr (bkC b) 0]]) m=.map (mpG iv ids):=Xj _ hm (by simp);have ho:=Old.app σ [ABlk.box [.rptr (bkC b) 0]];have hml:=Qn hm (by simp);have hne:m≠σ.length:=by omega
 generalize σ++[ABlk.box [.rptr (bkC b) 0]]=τ at hB hm' ho ⊢;generalize σ.length=c at hB hne ⊢;refine Za rfl (Za rfl (Za (hj _) (Za rfl (Za rfl (Za (ldr hx.h0) ?_)))));refine Xb (c57 _) rfl g78.ok.plain rfl (Za rfl ?_);refine XcA (λ_=>rfl) (λ_=>rfl) (λ_=>rfl) (λ_=>ldr hx.h1) (λ_=>XI ..) ?_;refine YcB (λ_=>rfl) (λ_=>rfl) (λ_=>rfl) (λ_=>ldr hx.h1) (λ_ k hk=>Xb (c57 _) rfl g78.ok.plain rfl hk) (λ_=>rfl) ?_;refine XcA (λ_=>rfl) (λ_=>rfl) (λ_=>rfl) (λ_=>ldr hx.h2) (λ_=>XI ..) ?_;refine XcA (λ_=>rfl) (λ_=>rfl) (λ_=>rfl) (λ_=>ldr hx.h2) (λ_=>Xab ..) ?_;refine ZcU (λ_=>rfl) (λ_=>rfl) (λ_=>rfl) (λ_=>ldr hx.h6) (v5:=iv x.units.length) (q5:=[]) (λ_=>by simp[Ze]) (λ_=>Xab ..) ?_;refine Zb (λh=>hF ?_ _) (λh=>?_)
 ·have:Qh b.cards.length x=false:=by
   rw[Bool.eq_false_iff]; intro hh;simp only[Qh,Bool.and_eq_true,decide_eq_true_eq] at hh;obtain⟨p1,p2,p3,p4,p5,_,_,_,_,p6⟩:=hh;simp only[p1,p3,Bool.not_true,Bool.false_or,Bool.or_false,Bool.or_eq_true,decide_eq_true_eq] at h;omega
  rw[this]; rfl
 simp only[Bool.or_eq_false_iff,Bool.not_eq_false',decide_eq_false_iff_not] at h;obtain⟨⟨⟨⟨⟨p1,p2⟩,p3⟩,p4⟩,p5⟩,p6⟩:=h;have hh:Qh b.cards.length x=(Xi b.cards.length x.deck 60&&(Xi b.cards.length x.hand 10&&(Xi b.cards.length x.grave 1000000&&Xi b.cards.length x.told 1000000))):=by
  have q2:decide (0≤x.mana)=true:=by simp; omega
  have q4:decide (0≤x.most)=true:=by simp; omega
  have q5:decide (x.most≤10)=true:=by simp; omega
  have q6:decide (x.units.length≤7)=true:=by simp; omega
  rw[Qh,p1,p3,q2,q4,q5,q6]; simp
 rw[hh] at hF hT;clear hh p1 p2 p3 p4 p5 p6;refine Za rfl (Za rfl (Za (ldr hx.h3) (Za rfl (Za rfl (Za rfl (Za (ldr hx.h4) (Za rfl (Za rfl (Za rfl (Za (ldr hx.h5) (Za rfl (Za rfl (Za rfl (Za (ldr hx.h7) (Za rfl (Za rfl ?_))))))))))))))));have d1:=hs.deck;have d2:=hs.hand;have d3:=hs.grave;have d4:=hs.told;have d5:=hs.units;refine Zl 5 (Zf (Za rfl (Xc (Za rfl ?_))));refine QbU b x.deck (by rw[bigE]; omega) 60 hB (λh _ _=>hF (by rw[h]; rfl) _) (λa1 σ1 o1=>Za rfl (Zf (Za rfl (Xc (Za rfl ?_)))));refine QbU b x.hand (by rw[bigE]; omega) 10 (o1.get hB (by simp)) (λh _ _=>hF (by rw[a1,h]; rfl) _) (λa2 σ2 o2=>Za rfl (Zf (Za rfl (Xc (Za rfl ?_)))))
 replace o2:=o1.trans o2
 refine QbU b x.grave (by rw[bigE]; omega) 1000000 (o2.get hB (by simp)) (λh _ _=>hF (by rw[a1,a2,h]; rfl) _) (λa3 σ3 o3=>Za rfl (Zf (Za rfl (Xc (Za rfl ?_)))))
 replace o3:=o2.trans o3
 refine QbU b x.told (by rw[bigE]; omega) 1000000 (o3.get hB (by simp)) (λh _ _=>hF (by rw[a1,a2,a3,h]; rfl) _) (λa4 σ4 o4=>Za rfl (Zf (Za rfl (Xe ?_))))
 replace o4:=o3.trans o4
 rw[a1,a2,a3,a4] at hF hT;simp only[Bool.and_self,Bool.true_and] at hF hT;have hB4:=o4.get hB (by simp);have hm4:=o4.get hm' (by simp);have oo:=ho.trans o4;clear o1 o2 o3 o4 ho hB hm' hm;refine Za rfl (Za rfl (Za (ldr hx.h6) (Za (v:=iv x.units.length) (rd:=[]) (by simp[Ze]) ?_)));refine Zg (ι:=Nat) (λi vs τ=>vs=[iv i]∧i≤x.units.length∧hget τ c=.box [.rptr (bkC b) 0]∧hget τ m=.map (mpG iv (ids++(x.units.take i).map λu=>(u.id,side)))∧Bt m σ τ∧Zn b s.next (ids.map (·.1)) x.units=Zn b s.next ((ids++(x.units.take i).map λu=>(u.id,side)).map (·.1)) (x.units.drop i)) (λi=>x.units.length-i) 0
  ⟨rfl,by omega,hB4,by simpa using hm4,⟨oo.1,λc hc _=>oo.2 c hc⟩,by simp⟩ ?_
 clear hB4 hm4 oo;rintro i vs τ1 again ⟨rfl,hi,hB,hm,hbt,hr⟩ hag;refine Za rfl (Zb (λh=>?_) (λh=>?_));rotate_left
 ·have h:i=x.units.length:=by simp at h; omega
  subst h;rw[List.drop_length,Zn] at hr;rw[List.take_length] at hm;exact hT hr _ hbt hm
 have h:i<x.units.length:=by simpa using h
 have hix:=λ(s:List ABlk)=>Yk s thC false false 4 x.units .i64 i h;have htk:=Xu _ _ h;rw[YLD h,Zn] at hr;generalize x.units[i]=u at hix htk hr;generalize hq:ids++(x.units.take i).map (λu=>(u.id,side))=cur at hm hr;have hcur:ids++(x.units.take (i+1)).map (λu=>(u.id,side))=cur++[(u.id,side)]:=by rw[htk,List.map_append,←List.append_assoc,hq]; rfl
 refine Za (hix _) (Za (ldr rfl) (Zy (row:=thC u) (row':=thC u) rfl rfl rfl ?_));have hU:=Qi τ1 (ABlk.box (thC u));have hB':hget (τ1++[ABlk.box (thC u)]) c=.box [.rptr (bkC b) 0]:=Xj _ hB (by simp);have hm':hget (τ1++[ABlk.box (thC u)]) m=.map (mpG iv cur):=Xj _ hm (by simp);have hml':=Qn hm' (by simp);have hbt':Bt m σ (τ1++[ABlk.box (thC u)]):=hbt.trans (Bt.gr m (Old.app _ _).1 (Old.app _ _).2);generalize τ1++[ABlk.box (thC u)]=τ2 at hU hB' hm' hml' hbt' ⊢;generalize τ1.length=d at hU ⊢;refine Za rfl (Za (ld hU rfl) (Za (XbC iv _ _ hm' _) ?_));rw[ZcK];refine Za rfl (Za rfl ?_);refine Xbx (λ_=>rfl) (λ_=>ld hU rfl) (λ_=>XI ..) ?_;refine Xdf (λ_=>rfl) (λ_=>ld hU rfl) (λ_=>ld hB' rfl) (λ_=>rfl) (λ_=>rfl) (λ_=>ldr rfl) (v7:=iv b.cards.length) (q7:=[]) (λ_=>by simp[Ze]) (λ_=>XaG ..) ?_;refine Zc3 (d:=!((b.cards[u.card.toNat]?).getD default).unit) (λ_=>ld hB' rfl) (λ_=>rfl) (λ_=>rfl) (λ_=>ldr rfl) (λ_=>rfl) (λ_=>ld hU rfl) (v7:=.rptr (cdC ((b.cards[u.card.toNat]?).getD default)) 0) (q7:=[]) (λhc=>?_) (λ_=>rfl) (λ_=>ldr (cdLd1 _)) (λ_=>rfl) ?_
 ·simp only[Bool.or_eq_false_iff,decide_eq_false_iff_not] at hc;have e3:u.card.toNat<b.cards.length:=by omega
  rw[List.getElem?_eq_getElem e3];exact Qck _ cdC _ _ _ b.cards _ u.card (by omega) e3
 refine Xbx (λ_=>rfl) (λ_=>ld hU rfl) (λ_=>XI ..) ?_;refine Xbx (λ_=>rfl) (λ_=>ld hU rfl) (λ_=>Xab ..) ?_;refine Xbx (λ_=>rfl) (λ_=>ld hU rfl) (λ_=>XI ..) ?_;refine YcU (λ_=>rfl) (λ_=>ld hU rfl) (λ_=>rfl) (λ_=>rfl) (λ_=>rfl) (v6:=iv s.next) (q6:=[]) (λ_=>ldr rfl) (λ_=>XaG ..) ?_;have hue:=Yc5 b s.next u (ilook u.id cur).isSome;have hk:=Zay u.id cur;refine Zb (λh2=>hF ?_ _) (λh2=>?_)
 ·rw[h2] at hue;rw[hr,←hk];have hue:(Yq b s.next u && !(ilook u.id cur).isSome)=false:=hue.symm;cases h5:Yq b s.next u with
  |false=>rfl
  |true=>
   rw[h5] at hue;have:(ilook u.id cur).isSome=true:=by simpa using hue
   rw[this]; rfl
 ·rw[h2] at hue;have hue:(Yq b s.next u && !(ilook u.id cur).isSome)=true:=hue.symm;simp only[Bool.and_eq_true,Bool.not_eq_true'] at hue;have hnone:ilook u.id cur=none:=by
   have:=hue.2;cases h5:ilook u.id cur with
   |none=>rfl
   |some v=>rw[h5] at this; cases this
  rw[hue.1,←hk,hue.2,Bool.not_false,Bool.true_and,Bool.true_and] at hr;refine Za rfl (Za (ld hU rfl) (Zd (QcR iv hm' _ side hnone) (Zz _ hml') (Za (Yf ..) ?_)));rw[Qc (n:=i) (by omega)];refine hag (i+1) _ _ (by omega) ⟨rfl,by omega,Yp hB' (by simp) (λe=>hne e),?_,hbt'.trans ⟨by simp,λc hc hne=>Zo _ hc hne⟩,?_⟩
  ·rw[hcur]; exact Qs _ hml'
  ·rw[hcur,hr,List.map_append]; rfl
end Go.Ah.Tz
end
section
namespace Go.Ah.Tz
open Go.Proofs.Tryz (prog)
theorem Qbg(k:Int)(a:Int):∀l:List Th,ilook a (l.map λu=>(u.id,k))=(fnd l a).map λ_=>k
 |[]=>rfl
 |u::l=>by
  have:=Qbg k a l;simp only[List.map_cons,ilook,fnd,List.findIdx?_cons];by_cases h:u.id=a
  ·simp_all
  ·have h2:(a==u.id)=false:=by simp; exact λe=>h e.symm
   simp only[h2,Bool.false_eq_true,if_false,decide_eq_false h,this,fnd,Option.map_map];rfl
theorem Zcp(s:St)(a:Int):ilook a (s.s0.units.map (λu=>(u.id,(0:Int)))++s.s1.units.map (λu=>(u.id,(1:Int))))=if (unitR s a).2.2=true then some (unitR s a).1 else none:=by
 rw[QaD,Qbg,Qbg,unitR]
 grind
attribute [local irreducible] Ans.rd Ans.pu Ans.wr Ans.dr Ans.gr Ans.gw Ans.gl Ans.gd Ans.opt joinK W
set_option maxHeartbeats 4000000
theorem bkLd(b:Bk):partA true 0 2 (bkC b)=some (bkV b):=rfl
theorem Zs{e:Int}{b:Bk}{s:St}{bare:Bool}(h:mayR e b s bare=true):e=0∧1≤s.turn∧s.turn≤4096∧0≤s.mover∧s.mover≤1∧0≤s.phase∧s.phase≤2∧0≤s.result∧s.result≤3∧((s.result==0)==(s.phase != 2))=true∧1≤s.next∧s.next≤1000000∧s.attack.length≤7:=by
 simp only[mayR,Bool.and_eq_true,decide_eq_true_eq] at h
 grind
theorem Qco(o:Option Int):lookV true (iv 0) (o.map iv)=.tup [iv (o.getD 0),.bool o.isSome]:=by cases o<;>rfl
theorem Xco(o:Option Bool):lookV false (.bool false) (o.map AVal.bool)=.bool (o.getD false):=by cases o<;>rfl
theorem XbU(t:Int):∀l:List Int,(ilook t (l.map λa=>(a,true))).getD false=l.contains t
 |[]=>rfl
 |a::l=>by
  simp only[List.map_cons,ilook,List.contains_cons];cases h:t==a<;>simp_all [XbU]
theorem c111(b:Bk)(hf:bkFit b=true)(hsm:Zu b.cards)(s:St)(hs:StLe 1000000000 s)(bare:Bool):PC 102 [.rptr (bkC b) 0,.rptr (stC s) 0,.bool bare] (.bool (mayR (bkR b).1 b s bare)):=by
 have h143:=c143 b hf hsm;generalize (bkR b).1=e at h143 ⊢;generalize (bkR b).2=ep at h143;have hat:=hs.attack;refine Yc hP g102.ok rfl rfl ?_;rw[H3.e]; unfold g102; dsimp only;refine Za rfl (Za rfl (Za (ldr rfl) (Za (XI ..) ?_)));refine Yh λk4 hk4=>?_;have kbad:(mayR e b s bare=true→False)→k4 [.bool true] []:=by
  intro h; rw[hk4]; refine Xc ?_;rw[Bool.eq_false_iff.2 (λhm=>h hm)]
 apply cutF (R:=k4 [.bool false] []) (1≤s.turn∧s.turn≤4096∧0≤s.mover∧s.mover≤1∧0≤s.phase∧s.phase≤2∧0≤s.result∧s.result≤3∧((s.result==0)==(s.phase != 2))=true∧1≤s.next∧s.next≤1000000∧s.attack.length≤7∧e=0)
 ·intro hR;clear hk4;refine Zb (λh=>by rw[h]; exact kbad (λhm=>by have:=Zs hm; simp at h; omega)) (λb1=>Za rfl (Za rfl (Za (ldr rfl) (Za (Xab ..) ?_))));refine Zb (λh=>by rw[h]; exact kbad (λhm=>by have:=Zs hm; simp at h; omega)) (λb2=>Za rfl (Za rfl (Za (ldr rfl) (Za (XI ..) ?_))));refine Zb (λh=>by rw[h]; exact kbad (λhm=>by have:=Zs hm; simp at h; omega)) (λb3=>Za rfl (Za rfl (Za (ldr rfl) (Za (Xab ..) ?_))));refine Zb (λh=>by rw[h]; exact kbad (λhm=>by have:=Zs hm; simp at h; omega)) (λb4=>Za rfl (Za rfl (Za (ldr rfl) (Za (XI ..) ?_))));refine Zb (λh=>by rw[h]; exact kbad (λhm=>by have:=Zs hm; simp at h; omega)) (λb5=>Za rfl (Za rfl (Za (ldr rfl) (Za (Xab ..) ?_))));refine Zb (λh=>by rw[h]; exact kbad (λhm=>by have:=Zs hm; simp at h; omega)) (λb6=>Za rfl (Za rfl (Za (ldr rfl) (Za (XI ..) ?_))));refine Zb (λh=>by rw[h]; exact kbad (λhm=>by have:=Zs hm; simp at h; omega)) (λb7=>Za rfl (Za rfl (Za (ldr rfl) (Za (Xab ..) ?_))));refine Zb (λh=>by rw[h]; exact kbad (λhm=>by have:=Zs hm; simp at h; omega)) (λb8=>Za rfl (Za rfl (Za (ldr rfl) (Za (Yd ..) (Za rfl (Za rfl (Za (ldr rfl) (Za (QaG ..) (Za (Xda ..) ?_)))))))));have hx:(!(decide (s.result=0)==decide (s.phase≠2))) = !((s.result==0)==(s.phase != 2)):=by
   congr 1
   have e1:decide (s.result=0)=(s.result==0):=by rw[Bool.eq_iff_iff]; simp
   have e2:decide (s.phase≠2)=(s.phase != 2):=by rw[Bool.eq_iff_iff]; simp
   rw[e1,e2]
  rw[hx];refine Zb (λh=>by rw[h]; exact kbad (λhm=>by have:=(Zs hm).2.2.2.2.2.2.2.2.2.1; rw[this] at h; cases h)) (λb9=>Za rfl (Za rfl (Za (ldr rfl) (Za (XI ..) ?_))));refine Zb (λh=>by rw[h]; exact kbad (λhm=>by have:=Zs hm; simp at h; omega)) (λb10=>Za rfl (Za rfl (Za (ldr rfl) (Za (Xab ..) ?_))));refine Zb (λh=>by rw[h]; exact kbad (λhm=>by have:=Zs hm; simp at h; omega)) (λb11=>Za rfl (Za rfl (Za (ldr rfl) (Za (v:=iv s.attack.length) (rd:=[]) (by simp[Ze]) (Za (Xab ..) ?_)))));refine Zb (λh=>by rw[h]; exact kbad (λhm=>by have:=Zs hm; simp at h; omega)) (λb12=>Za rfl (Za (ldr (bkLd b)) ?_));refine Xb h143 rfl g19.ok.plain rfl (Za rfl (Za (QaG ..) ?_));by_cases he:e=0
  ·rw[show decide (e≠0)=false by simp[he]];simp at b1 b2 b3 b4 b5 b6 b7 b8 b10 b11 b12;exact hR ⟨by omega,by omega,by omega,by omega,by omega,by omega,by omega,by omega,by simpa using b9,by omega,by omega,by omega,he⟩
  ·rw[show decide (e≠0)=true by simp[he]];exact kbad (λhm=>he (Zs hm).1)
 rintro⟨p1,p2,p3,p4,p5,p6,p7,p8,p9,p10,p11,p12,p13⟩;rw[hk4]; clear hk4 kbad k4;have hmay:mayR e b s bare=(Qp b s&&(if s.phase≠1 then decide (s.attack.length=0) else !(decide (s.attack.length=0) && !bare)&&(s.struck&&attOk s [] s.attack))):=by
  rw[mayR,decide_eq_true p13,decide_eq_true p1,decide_eq_true p2,decide_eq_true p3,decide_eq_true p4,decide_eq_true p5,decide_eq_true p6,decide_eq_true p7,decide_eq_true p8,p9,decide_eq_true p10,decide_eq_true p11,decide_eq_true p12];rfl
 rw[hmay]; clear hmay h143 p1 p2 p3 p4 p5 p6 p7 p8 p9 p10 p11 p13;have w1:IntKind.i64.wrap (0+1)=1:=by decide
 have w2:IntKind.i64.wrap (1+1)=2:=by decide
 refine Xe (Zd rfl rfl (Zl 3 (Zf (Za rfl (Xc ?_)))));refine Qm hP rfl g150.ok rfl (c144 b s 0 7 s.s0 (sdAt0 s) (λ_=>rfl) hs.s0 [] (by rfl) (λh σ1=>?_) (λh σ1 t1 m1=>?_))
 ·refine Za rfl (Xc ?_);have h:(Qh b.cards.length s.s0&&Zn b s.next [] s.s0.units)=false:=h;have:Qp b s=false:=by
   rw[Qp,←Bool.and_assoc,h]; rfl
  rw[this]; rfl
 refine Za rfl (Xe (Za rfl ?_));rw[w1];refine Zf (Za rfl (Xc ?_));refine Qm hP rfl g150.ok rfl (c144 b s 1 15 s.s1 (sdAt1 s) (λ_=>rfl) hs.s1 _ m1 (λh2 σ2=>?_) (λh2 σ2 t2 m2=>?_))
 ·refine Za rfl (Xc ?_);have e0:(([]++s.s0.units.map λu=>(u.id,(0:Int))):List (Int×Int)).map (·.1)=s.s0.units.map Th.id:=by simp[Function.comp_def]
  rw[e0] at h2;have:Qp b s=false:=by
   rw[Qp,h2]; simp
  rw[this]; rfl
 have hso:Qp b s=true:=by
  have e0:(([]++s.s0.units.map λu=>(u.id,(0:Int))):List (Int×Int)).map (·.1)=s.s0.units.map Th.id:=by simp[Function.comp_def]
  rw[e0] at h2;have h:(Qh b.cards.length s.s0&&Zn b s.next [] s.s0.units)=true:=h;rw[Qp,←Bool.and_assoc,h,h2]; rfl
 rw[hso,Bool.true_and];clear hso h h2 m1 t1 t2;refine Za rfl (Xe (Za rfl ?_));rw[w2];refine Zf (Za rfl (Xe (Za rfl (Za rfl (Za (ldr rfl) (Za (QaG ..) ?_))))));refine Zb (λhp=>?_) (λhp=>?_)
 ·have hp:s.phase≠1:=by simpa using hp
  rw[if_pos hp];refine Za rfl (Za rfl (Za (ldr rfl) (Za (v:=iv s.attack.length) (rd:=[]) (by simp[Ze]) (Za (Yd ..) ?_))))
  congr 1
  rw[Bool.eq_iff_iff]; simp
 have hp:¬s.phase≠1:=by simpa using hp
 rw[if_neg hp];refine Zd rfl (QE _ _) (Za rfl (Za rfl (Za (ldr rfl) (Za (v:=iv s.attack.length) (rd:=[]) (by simp[Ze]) ?_))));have hnew:hget (σ2++[ABlk.map []]) σ2.length=.map (mpG AVal.bool (([]:List Int).map λa=>(a,true))):=Qi _ _;have hold:=Xj [ABlk.map []] m2 (by simp);have hne:σ2.length≠0:=by have:=Qn m2 (by simp); omega
 generalize σ2++[ABlk.map []]=τ at hnew hold ⊢;generalize σ2.length=mb at hnew hne ⊢;refine Zg (ι:=Nat) (λi vs τ=>vs=[iv i]∧i≤s.attack.length∧hget τ 0=.map (mpG iv (([]++s.s0.units.map λu=>(u.id,(0:Int)))++s.s1.units.map λu=>(u.id,(1:Int))))∧hget τ mb=.map (mpG AVal.bool ((s.attack.take i).map λa=>(a,true)))∧attOk s [] s.attack=attOk s (s.attack.take i) (s.attack.drop i)) (λi=>s.attack.length-i) 0
  ⟨rfl,by omega,hold,by simpa using hnew,by simp⟩ ?_
 clear hnew hold m2;rintro i vs τ1 again ⟨rfl,hi,hm0,hmb,hr⟩ hag;refine Za rfl (Zb (λh=>?_) (λh=>?_));rotate_left
 ·have h:i=s.attack.length:=by simp at h; omega
  subst h;rw[List.drop_length,attOk] at hr;rw[hr,Bool.and_true];refine Za rfl (Za rfl (Za (ldr rfl) ?_));cases hst:s.struck with
  |false=>
   refine Qa rfl (Qa rfl (Qb rfl (Qb rfl (Qb rfl (Qb rfl (Qb rfl (Qb rfl (Qa rfl (Za rfl ?_)))))))));simp
  |true=>
   refine Ya (Za rfl (Ya (Za rfl ?_)));cases bare with
   |true=>
    refine Qa rfl (Qa rfl (Qa rfl (Qa rfl (Qa rfl (Qa rfl (Ya (Za rfl (Za rfl ?_))))))));simp
   |false=>
    refine Ya (Za rfl (Ya (Za rfl (Ya (Za rfl (Ya (Za (ldr rfl) (Ya (Za (v:=iv s.attack.length) (rd:=[]) (by simp[Ze]) (Ya (Za (Xab ..) (Ya (Za rfl (Za rfl ?_))))))))))))));show AVal.bool _=_
    congr 1
    rw[Bool.eq_iff_iff];simp[List.length_pos_iff]
 have h:i<s.attack.length:=by simpa using h
 have htk:=Xu _ _ h;rw[YLD h,attOk] at hr;refine Za (Yk _ cel _ _ _ s.attack _ i h) (Za (ldr rfl) (Za (XbC iv _ _ hm0 _) ?_));rw[Qco,List.nil_append,Zcp];generalize s.attack[i]=a at htk hr ⊢;generalize ho:(if (unitR s a).2.2=true then some (unitR s a).1 else none)=o;have ho1:o.isSome=(unitR s a).2.2:=by rw[←ho]; cases (unitR s a).2.2<;>rfl
 have ho2:(unitR s a).2.2=true→o.getD 0=(unitR s a).1:=by intro q; rw[←ho,if_pos q]; rfl
 refine Za rfl (Za rfl (Za rfl ?_));refine ZcU (λ_=>rfl) (λ_=>rfl) (λ_=>rfl) (λ_=>rfl) (λ_=>ldr rfl) (λ_=>QaG ..) ?_;refine Xbx (d:=(ilook a ((s.attack.take i).map λa=>(a,true))).getD false) (λ_=>rfl) (λ_=>rfl) (λ_=>by rw[XbC AVal.bool _ _ hmb,Xco]) ?_;have hmet:=XbU a (s.attack.take i);refine Zb (λh2=>?_) (λh2=>?_)
 ·have:attOk s [] s.attack=false:=by
   rw[hr,Bool.eq_false_iff]; intro q;simp only[Bool.and_eq_true,decide_eq_true_eq,Bool.not_eq_true'] at q;obtain⟨⟨q1,q2⟩,q3,q4⟩:=q;rw[ho1,ho2 q1,q1,q2,hmet,q3] at h2;simp at h2
  rw[this]; simp
 ·simp only[Bool.or_eq_false_iff,Bool.not_eq_false',decide_eq_false_iff_not,Decidable.not_not] at h2;obtain⟨⟨q1,q2⟩,q3⟩:=h2;rw[ho1] at q1;rw[ho2 q1] at q2;have hnone:ilook a ((s.attack.take i).map λa=>(a,true))=none:=by
   have:=Zay a ((s.attack.take i).map λa=>(a,true));simp only[List.map_map,Function.comp_def,List.map_id'] at this;rw[←hmet,q3] at this;cases h5:ilook a ((s.attack.take i).map λa=>(a,true)) with
   |none=>rfl
   |some v=>rw[h5] at this; cases this
  rw[hmet] at q3;rw[q1,q2,q3] at hr;have hml:=Qn hmb (by simp);refine Zd (QcR AVal.bool hmb a true hnone) (Zz _ hml) (Za (Yf ..) ?_);rw[Qc (n:=i) (by omega)];refine hag (i+1) _ _ (by omega) ⟨rfl,by omega,Yp hm0 (by simp) (λe=>hne e),?_,?_⟩
  ·rw[htk,List.map_append]; exact Qs _ hml
  ·rw[htk,hr]; simp
end Go.Ah.Tz
end
section
namespace Go.Ah.Tz
open Go.Proofs.Tryz (prog)
def RI(σ:List ABlk)(rd:List Nat)(v:AVal)(l:List Int):Prop:=Bor (hp σ) rd v (rowV l)
def RT(σ:List ABlk)(rd:List Nat)(v:AVal)(l:List Th):Prop:=Bor (hp σ) rd v (thV l)
theorem ZcQ:∀ {l:List Int},∀r∈l.map cel,roL r=true:=by
 intro l r hr;obtain⟨x,_,rfl⟩:=List.mem_map.1 hr; rfl
theorem th_ro:∀ {l:List Th},∀r∈l.map thC,roL r=true:=by
 intro l r hr;obtain⟨x,_,rfl⟩:=List.mem_map.1 hr; rfl
theorem RI.own{σ:List ABlk}{rd:List Nat}{b:Nat}{ex:Bool}{l:List Int}{n:Nat}(hb:hget σ b=.rows 1 (l.map cel))(hin:b∈rd)(hn:n=l.length):RI σ rd (.sl b 0 n ex) l:=
 Bor.own hb hin (by simp[hn]) (YaO _ _ (by simp[hn])) ZcQ
theorem RI.tail{σ:List ABlk}{rd:List Nat}{b:Nat}{ex:Bool}{x:Int}{l:List Int}{n:Nat}(hb:hget σ b=.rows 1 ((x::l).map cel))(hin:b∈rd)(hn:n=l.length):RI σ rd (.sl b 1 n ex) l:=
 Bor.own hb hin (by simp[hn]; omega) (ZcH _ _ _ (by simp[hn])) ZcQ
theorem RI.ro{σ:List ABlk}{rd:List Nat}(l:List Int):RI σ rd (rowV l) l:=Bor.ro rfl
theorem RI.nils{σ:List ABlk}{rd:List Nat}:RI σ rd .nils []:=Bor.weak (Bor.ro rfl) (λM u d=>d.nils_rsl 1)
theorem RT.nils{σ:List ABlk}{rd:List Nat}:RT σ rd .nils []:=Bor.weak (Bor.ro rfl) (λM u d=>d.nils_rsl 4)
theorem RT.own{σ:List ABlk}{rd:List Nat}{b:Nat}{ex:Bool}{l:List Th}{n:Nat}(hb:hget σ b=.rows 4 (l.map thC))(hin:b∈rd)(hn:n=l.length):RT σ rd (.sl b 0 n ex) l:=
 Bor.own hb hin (by simp[hn]) (YaO _ _ (by simp[hn])) th_ro
@[reducible] def stQ(s:St)(a d0 h0 g0 u0 t0 d1 h1 g1 u1 t1:AVal):List AVal:=[iv s.turn,iv s.mover,iv8 s.phase,.bool s.struck,iv8 s.result,a,iv s.next,
 iv s.s0.life,iv s.s0.mana,iv s.s0.most,d0,h0,g0,u0,t0,iv s.s1.life,iv s.s1.mana,iv s.s1.most,d1,h1,g1,u1,t1]
def SB(σ:List ABlk)(rd:List Nat)(cs:List AVal)(s:St):Prop:=BorL (hp σ) rd cs (stC s)
theorem SB.mk{σ:List ABlk}{rd:List Nat}{s:St}{a d0 h0 g0 u0 t0 d1 h1 g1 u1 t1:AVal}(x1:RI σ rd a s.attack)(x2:RI σ rd d0 s.s0.deck)(x3:RI σ rd h0 s.s0.hand)(x4:RI σ rd g0 s.s0.grave)(x5:RT σ rd u0 s.s0.units)(x6:RI σ rd t0 s.s0.told)
 (y2:RI σ rd d1 s.s1.deck)(y3:RI σ rd h1 s.s1.hand)(y4:RI σ rd g1 s.s1.grave)(y5:RT σ rd u1 s.s1.units)(y6:RI σ rd t1 s.s1.told):SB σ rd (stQ s a d0 h0 g0 u0 t0 d1 h1 g1 u1 t1) s:=
 .cons (Bor.ro rfl) <| .cons (Bor.ro rfl) <| .cons (Bor.ro rfl) <| .cons (Bor.ro rfl) <| .cons (Bor.ro rfl) <| .cons x1 <| .cons (Bor.ro rfl) <| .cons (Bor.ro rfl) <| .cons (Bor.ro rfl) <| .cons (Bor.ro rfl) <| .cons x2 <| .cons x3 <| .cons x4 <| .cons x5 <| .cons x6 <|
 .cons (Bor.ro rfl) <| .cons (Bor.ro rfl) <| .cons (Bor.ro rfl) <| .cons y2 <| .cons y3 <| .cons y4 <| .cons y5 <| .cons y6 .nil
theorem SB.agg{σ:List ABlk}{rd:List Nat}{cs:List AVal}{s:St}(h:SB σ rd cs s):Bor (hp σ) rd (.agg cs) (stV s):=Bor.agg h
def zSd:Sd:=⟨0,0,0,[],[],[],[],[]⟩
def zSt:St:=⟨0,0,0,false,0,[],0,zSd,zSd⟩
theorem SB.zero{σ:List ABlk}{rd:List Nat}:SB σ rd (stQ zSt .nils .nils .nils .nils .nils .nils .nils .nils .nils .nils .nils) zSt:=SB.mk .nils .nils .nils .nils .nils .nils .nils .nils .nils .nils .nils
structure Ev where
 kind:Int
 side:Int
 card:Int
 id:Int
 other:Int
 n:Int
 cards:List Int
 deriving DecidableEq,Inhabited
@[reducible] def evC(e:Ev):List AVal:=[iv8 e.kind,iv e.side,iv e.card,iv e.id,iv e.other,iv e.n,rowV e.cards]
@[reducible] def evV(e:Ev):AVal:=.agg (evC e)
def zEv:Ev:=⟨0,0,0,0,0,0,[]⟩
theorem evB{σ:List ABlk}{rd:List Nat}{e:Ev}{v:AVal}(h:RI σ rd v e.cards):Bor (hp σ) rd (.agg [iv8 e.kind,iv e.side,iv e.card,iv e.id,iv e.other,iv e.n,v]) (evV e):=
 Bor.agg (.cons (Bor.ro rfl) <| .cons (Bor.ro rfl) <| .cons (Bor.ro rfl) <| .cons (Bor.ro rfl) <| .cons (Bor.ro rfl) <| .cons (Bor.ro rfl) <| .cons h .nil)
attribute [local irreducible] Ans.rd Ans.pu Ans.wr Ans.dr Ans.gr Ans.gw Ans.gl Ans.gd Ans.opt joinK W
set_option maxHeartbeats 1000000
theorem c56(b:Bk)(hf:bkFit b=true)(hsm:Zu b.cards)(s:St)(hs:StLe 1000000000 s){σ:List ABlk}{bb sb:Nat}(h1:hget σ bb=.box (bkC b))(h2:hget σ sb=.box (stC s)){K:AVal→List ABlk→Prop}
 (hF:mayR (bkR b).1 b s true=false→K .nilp σ)(hT:mayR (bkR b).1 b s true=true→K (.bptr (σ++stB s).length 0) (σ++stB s++[.box (.bptr bb 0::stO s σ.length)])):g77.u VV [.bptr bb 0,.bptr sb 0] σ K:=by
 rw[H2.e]; unfold g77; dsimp only;have hb1:hp σ bb=some (.box (bkC b)):=XG h1 (by simp);have hb2:hp σ sb=some (.box (stC s)):=XG h2 (by simp);refine Yap (rd:=[bb,sb]) (c111 b hf hsm s hs true) rfl g102.ok.plain (.cons (Bor.box hb1 (by simp) (BorL.ro rfl)) <| .cons (Bor.box hb2 (by simp) (BorL.ro rfl)) <| .cons (Bor.ro rfl) .nil) rfl ?_;refine Za rfl (Zb (λh=>?_) (λh=>?_))
 ·exact hF (by simpa using h)
 refine Za rfl (Za (ld h2 rfl) ?_);refine Xap (c59 s hs) rfl g34.ok.plain rfl ?_;have e1:(AVal.agg (stO s 0)).ren (Zw σ.length)=.agg (stO s σ.length):=by
  simp[AVal.ren,renL,Zw,Nat.add_comm]; omega
 have e2:Xp σ.length (stB s)=stB s:=by
  simp only[Xp,stB,sdB,List.map_cons,List.map_append,List.map_nil,ZP,Qaz]
 rw[e1,e2];refine Za rfl (Zd rfl (QE _ _) ?_);exact hT (by simpa using h)
def tailV(b:Nat):List Int→AVal
 |[]=>.rsl false true 1 []
 |y::l=>.sl b 1 (y::l).length false
theorem Zcy{τ:List ABlk}{bf:Nat}{x:Int}{l:List Int}(hbf:hget τ bf=.rows 1 ((x::l).map cel)):∃rd,Qt 1 [.sl bf 0 (l.length+1) false,iv 1] τ=.ok (tailV bf l) rd []:=by
 cases l with
 |nil=>
  refine⟨[],?_⟩;show (match hget τ bf with
   |.rows s _=>bif Nat.beq s 1 then (bif Nat.blt 1 1 then SRes.ok (.sl bf (0+1) (1-1) false) [bf] [] else bif Nat.beq 1 1 then .ok (.rsl false true 1 []) [] [] else .stop) else .stop
   | _=>.stop)=_
  rw[hbf]; rfl
 |cons y l=>
  refine⟨[bf],?_⟩;show (match hget τ bf with
   |.rows s _=>bif Nat.beq s 1 then (bif Nat.blt 1 ((y::l).length+1) then SRes.ok (.sl bf (0+1) ((y::l).length+1-1) false) [bf] [] else bif Nat.beq 1 ((y::l).length+1) then .ok (.rsl false true 1 []) [] [] else .stop) else .stop
   | _=>.stop)=_
  rw[hbf];rfl
theorem RI.tailV{σ:List ABlk}{rd:List Nat}{b:Nat}{x:Int}{l:List Int}(hb:hget σ b=.rows 1 ((x::l).map cel))(hin:b∈rd):RI σ rd (Tz.tailV b l) l:=by
 cases l with
 |nil=>
  refine Bor.weak (Bor.ro (x:=.rsl false true 1 []) rfl) (λM u d=>?_);cases d with
  |rsl _ _ _ _ _ a cap blk off f q1 q2 q3 q4 q5 q6 q7 q8=>exact .rsl _ _ _ _ _ a cap blk off f q1 (λh=>by cases h) q3 q4 q5 q6 q7 q8
 |cons y l=>exact RI.tail hb hin rfl
theorem c58{τ:List ABlk}{mb jf jt bf bt n k:Nat}{row row1 row2:List AVal}{x:Int}{l t:List Int}{vf:AVal}(hm:hget τ mb=.box row)(hf:partA false jf 1 row=some (.sl bf 0 n false))(hn:n=l.length+1)(ht:partA false jt 1 row1=some (.sl bt 0 k false))(hk:k=t.length)(hkl:t.length≤1000000000)
 (hbf:hget τ bf=.rows 1 ((x::l).map cel))(hbt:hget τ bt=.rows 1 (t.map cel))(hne:mb≠bf)(hne2:mb≠bt)(hvf:vf=tailV bf l)
 (h1:splice jf [vf] row=some row1)(h2:splice jt [.sl (τ.length+1) 0 (k+1) false] row1=some row2){K:AVal→List ABlk→Prop}
 (hK:K (iv x) (((((τ.set mb (.box row1)).set bt .dead)++[ABlk.rows 1 [cel x]])++[ABlk.rows 1 ((t++[x]).map cel)]).set mb (.box row2))):g79.u VV [.bptr mb jf,.bptr mb jt] τ K:=by
 subst hn; subst hk;have hml:=Qn hm (by simp);have hbl:=Qn hbt (by simp);rw[H2.e]; unfold g79; dsimp only;refine Za rfl (Za (ld hm hf) ?_);have hx:Zj 1 [.sl bf 0 (l.length+1) false,iv ((0:Nat):Int)] τ=.ok (.ptr bf (0+0) 0) [bf] []:=YbC τ bf 0 _ false 1 _ .i64 0 (by omega) hbf;refine Za hx ?_;refine Za (v:=iv x) (rd:=[bf]) ?_ ?_
 ·show (match hget τ bf with
   |.rows _ rs=>match nth rs 0 with
    |some row=>match partA false 0 1 row with
     |some v=>SRes.ok v [bf] []
     |none=>.stop
    |none=>.stop
   | _=>.stop)=_
  rw[hbf]; rfl
 refine Za rfl (Za (ld hm hf) ?_);have hvc:cellsOf vf=some [vf]:=by subst hvf; cases l<;>rfl
 obtain⟨rd,hsl⟩:=Zcy hbf;rw[←hvf] at hsl;refine Za hsl ?_;refine Za rfl (Zd (stv hm hvc rfl h1) (Zz _ hml) (Za rfl (Za (ld (Qs _ hml) ht) ?_)));have hbt':hget (τ.set mb (.box row1)) bt=.rows 1 (t.map cel):=Yp hbt (by simp) hne2;rw[Y3 _ _ _ _ _ (cel x) rfl rfl,Xba _ 1 8 (τ.set mb (.box row1)) bt t.length false _ (cel x) hbt' (by simp) rfl (by omega)];refine Za rfl ?_;have hz:t.map cel++[cel x]=(t++[x]).map cel:=by simp
 have hlen:(τ.set mb (ABlk.box row1)).length=τ.length:=by simp
 have hm3:hget ((((τ.set mb (.box row1)).set bt .dead)++[ABlk.rows 1 [cel x]])++[ABlk.rows 1 ((t++[x]).map cel)]) mb=.box row1:=by
  grind [QG,Zo,Qs]
 rw[hz,hlen];refine Zd (stv hm3 rfl rfl h2) (Zz _ (by simp; omega)) ?_;exact hK
end Go.Ah.Tz
end
section
namespace Go.Ah.Tz
open Go.Proofs.Tryz (prog)
theorem Xcy(s:St)(n:Nat):(AVal.agg (stO s 0)).ren (Zw n)=.agg (stO s n):=by
 simp[AVal.ren,renL,Zw,Nat.add_comm]; omega
theorem Ycy(s:St)(n:Nat):Xp n (stB s)=stB s:=by
 simp only[Xp,stB,sdB,List.map_cons,List.map_append,List.map_nil,ZP,Qaz]
theorem Xbh:∀l:List Int,XR (l.map cel)=true
 |[]=>rfl
 |x::l=>by simp only[List.map_cons,XR,Xbh l,Bool.and_true]; rfl
theorem Ycs:∀l:List Th,XR (l.map thC)=true
 |[]=>rfl
 |x::l=>by simp only[List.map_cons,XR,Ycs l,Bool.and_true]; rfl
theorem QcO(s:St):Xak (stB s)=true:=by
 simp only[stB,sdB,List.cons_append,List.nil_append,Xak,ABlk.nosh,Xbh,Ycs,Bool.and_self]
theorem d59{s:St}(hs:StLe 1000000000 s){σ:List ABlk}{rd:List Nat}{cs:List AVal}(h:SB σ rd cs s){K:AVal→List Nat×List Nat→List ABlk→Prop}(hK:K (.agg (stO s σ.length)) (rd,QV σ.length (stB s)) (σ++stB s)):VV.dcall (.call 34) [.agg cs] σ K:=by
 refine QbZ (c59 s hs) rfl g34.ok.plain (.cons (SB.agg h) .nil) rfl (QcO s) ?_;rw[Xcy,Ycy]; exact hK
theorem SdLe.mono{n m:Nat}{s:Sd}(h:SdLe n s)(k:n≤m):SdLe m s:=⟨Nat.le_trans h.1 k,Nat.le_trans h.2 k,Nat.le_trans h.3 k,Nat.le_trans h.4 k,Nat.le_trans h.5 k⟩
theorem StLe.mono{n m:Nat}{s:St}(h:StLe n s)(k:n≤m):StLe m s:=⟨Nat.le_trans h.1 k,h.2.mono k,h.3.mono k⟩
theorem Xat{e:Int}{b:Bk}{s:St}{bare:Bool}(h:mayR e b s bare=true):Qp b s=true:=by
 simp only[mayR,Bool.and_eq_true] at h;exact h.2.2.2.2.2.2.2.2.2.2.2.2.1
theorem Qbr{e:Int}{b:Bk}{s:St}{bare:Bool}(h:mayR e b s bare=true):wIn s.s0.life=true:=by
 have:=Xat h;simp only[Qp,Qh,Bool.and_eq_true] at this;exact this.1.1
theorem Zbs{e:Int}{b:Bk}{s:St}{bare:Bool}(h:mayR e b s bare=true):wIn s.s1.life=true:=by
 have:=Xat h;simp only[Qp,Qh,Bool.and_eq_true] at this;exact this.2.2.1.1
theorem QaY{n:Int}:wIn n=true↔-1000000≤n∧n≤1000000:=by simp[wIn]
theorem SB.copy{σ:List ABlk}{rd:List Nat}{s:St}{n:Nat}(key:∀i x,(stB s)[i]?=some x→hget σ (n+i)=x)(hin:∀i,i<11→n+i∈rd):SB σ rd (stO s n) s:=
 SB.mk (RI.own (key 0 _ rfl) (hin 0 (by decide)) rfl) (RI.own (key 1 _ rfl) (hin 1 (by decide)) rfl) (RI.own (key 2 _ rfl) (hin 2 (by decide)) rfl) (RI.own (key 3 _ rfl) (hin 3 (by decide)) rfl) (RT.own (key 4 _ rfl) (hin 4 (by decide)) rfl) (RI.own (key 5 _ rfl) (hin 5 (by decide)) rfl)
  (RI.own (key 6 _ rfl) (hin 6 (by decide)) rfl) (RI.own (key 7 _ rfl) (hin 7 (by decide)) rfl) (RI.own (key 8 _ rfl) (hin 8 (by decide)) rfl) (RT.own (key 9 _ rfl) (hin 9 (by decide)) rfl) (RI.own (key 10 _ rfl) (hin 10 (by decide)) rfl)
theorem c56n(b:Bk)(hf:bkFit b=true)(hsm:Zu b.cards)(s:St)(hs:StLe 1000000000 s){σ:List ABlk}{bb sb n0 n:Nat}(hn0:σ.length=n0)(hn:n0+11=n)(h1:hget σ bb=.box (bkC b))(h2:hget σ sb=.box (stC s)){K:AVal→List ABlk→Prop}
 (hF:mayR (bkR b).1 b s true=false→K .nilp σ)(hT:mayR (bkR b).1 b s true=true→K (.bptr n 0) (σ++stB s++[.box (.bptr bb 0::stO s n0)])):VV.call (.call 77) [.bptr bb 0,.bptr sb 0] σ K:=by
 subst hn0; subst hn;refine Qm hP rfl g77.ok rfl (c56 b hf hsm s hs h1 h2 hF (λh=>?_));have:(σ++stB s).length=σ.length+11:=by simp[stB,sdB]
 rw[this]; exact hT h
def St.side(s:St)(k:Int):Sd:=if k=0 then s.s0 else s.s1
def St.put(s:St)(k:Int)(d:Sd):St:=if k=0 then { s with s0:=d } else { s with s1:=d }
@[reducible] def resX(s:St)(e:Ev)(x:AVal):AVal:=.tup [stV s,evV e,x]
@[reducible] def resV(r:St×Ev×Int):AVal:=resX r.1 r.2.1 (iv r.2.2)
theorem resXB{σ:List ABlk}{rd:List Nat}{cs ec:List AVal}{s:St}{e:Ev}{x:AVal}(h1:SB σ rd cs s)(h2:Bor (hp σ) rd (.agg ec) (evV e))(hx:x.ro=true):Bor (hp σ) rd (.tup [.agg cs,.agg ec,x]) (resX s e x):=
 Bor.tup (.cons (SB.agg h1) <| .cons h2 <| .cons (Bor.ro hx) .nil)
theorem resB{σ:List ABlk}{rd:List Nat}{cs ec:List AVal}{r:St×Ev×Int}(h1:SB σ rd cs r.1)(h2:Bor (hp σ) rd (.agg ec) (evV r.2.1)):Bor (hp σ) rd (.tup [.agg cs,.agg ec,iv r.2.2]) (resV r):=resXB h1 h2 rfl
@[reducible] def zStC:List AVal:=stQ zSt .nils .nils .nils .nils .nils .nils .nils .nils .nils .nils .nils
@[reducible] def zEvC:List AVal:=[iv8 0,iv 0,iv 0,iv 0,iv 0,iv 0,.nils]
theorem resZ{σ:List ABlk}{rd:List Nat}(e:Int):Bor (hp σ) rd (.tup [.agg zStC,.agg zEvC,iv e]) (resV (zSt,zEv,e)):=
 resB (r:=(zSt,zEv,e)) SB.zero (evB (e:=zEv) RI.nils)
end Go.Ah.Tz
end
section
namespace Go.Ah
theorem Zan:∀ {rs:List (List AVal)},(∀r∈rs,r.all AVal.cell=true)→rowsCell rs=true
 |[],_=>rfl
 |r::rs,h=>by simp only[rowsCell,Bool.and_eq_true]; exact⟨h r (by simp),Zan λx hx=>h x (by simp[hx])⟩
theorem YbM{σ:List ABlk}{n c k:Nat}{ex2:Bool}{rs2:List (List AVal)}(hc:hget σ c=.rows n rs2)(hl2:rs2.length=k):Zq n σ (.sl c 0 k ex2)=some (rs2,[c]):=by
 simp only[Zq,hc];simp[cut,hl2];rw[show Nat.ble k k=true from Nat.ble_eq_true_of_le (Nat.le_refl _)];simp[←hl2]
theorem Xbn(n by_:Nat){σ:List ABlk}{b c len k:Nat}{ex ex2:Bool}{rs rs2:List (List AVal)}(hb:hget σ b=.rows n rs)(hc:hget σ c=.rows n rs2)(hl:rs.length=len)(hl2:rs2.length=k)(hr:rowsCell rs2=true)(hroom:(2*(len+k)+192)*by_≤2 ^ 48) :
  Yl n by_ [.sl b 0 len ex,.sl c 0 k ex2] σ=.ok (.sl σ.length 0 (len+k) false) [c] ([(b,.dead)]++[(σ.length,.rows n (rs++rs2))]):=by
 have h2:Nat.ble ((2*(len+k)+192)*by_) (2 ^ 48)=true:=Nat.ble_eq_true_of_le hroom;have:Yl n by_ [.sl b 0 len ex,.sl c 0 k ex2] σ=QL n by_ σ rs [(b,.dead)] (.sl c 0 k ex2):=by
  simp[Yl,XaY,hb,hl]
 rw[this];unfold QL;simp only[YbM hc hl2,hr,hl2,h2,Bool.and_self,cond_true,hl]
end Go.Ah
namespace Go.Ah.Tz
open Go.Proofs.Tryz (prog)
set_option maxRecDepth 100000
theorem in40{n:Nat}(h:Nat.blt n 40=true):n∈List.range 40:=List.mem_range.2 (YNL h)
theorem SB.lit{σ:List ABlk}{rd:List Nat}{cs:List AVal}{s:St}{a d0 h0 g0 u0 t0 d1 h1 g1 u1 t1:AVal}(e:cs=stQ s a d0 h0 g0 u0 t0 d1 h1 g1 u1 t1)
 (x0:RI σ rd a s.attack:=by exact RI.own rfl (in40 rfl) rfl)
 (x1:RI σ rd d0 s.s0.deck:=by exact RI.own rfl (in40 rfl) rfl)
 (x2:RI σ rd h0 s.s0.hand:=by exact RI.own rfl (in40 rfl) rfl)
 (x3:RI σ rd g0 s.s0.grave:=by exact RI.own rfl (in40 rfl) rfl)
 (x4:RT σ rd u0 s.s0.units:=by exact RT.own rfl (in40 rfl) rfl)
 (x5:RI σ rd t0 s.s0.told:=by exact RI.own rfl (in40 rfl) rfl)
 (x6:RI σ rd d1 s.s1.deck:=by exact RI.own rfl (in40 rfl) rfl)
 (x7:RI σ rd h1 s.s1.hand:=by exact RI.own rfl (in40 rfl) rfl)
 (x8:RI σ rd g1 s.s1.grave:=by exact RI.own rfl (in40 rfl) rfl)
 (x9:RT σ rd u1 s.s1.units:=by exact RT.own rfl (in40 rfl) rfl)
 (x10:RI σ rd t1 s.s1.told:=by exact RI.own rfl (in40 rfl) rfl):SB σ rd cs s:=by
 subst e; exact SB.mk x0 x1 x2 x3 x4 x5 x6 x7 x8 x9 x10
theorem ZaX{σ:List ABlk}{b c len:Nat}{ex ex2:Bool}{l:List Int}{x:Int}{K:AVal→List ABlk→Prop}(hb:hget σ b=.rows 1 (l.map cel))(hc:hget σ c=.rows 1 [[iv x]])(hl:len=l.length)(hroom:l.length≤1000000000)(hK:K (.sl σ.length 0 (l++[x]).length false) (σ.set b .dead++[.rows 1 ((l++[x]).map cel)])) :
  VV.wr (Yl 1 8 [.sl b 0 len ex,.sl c 0 1 ex2] σ) σ K:=by
 refine Zd (Xbn 1 8 (rs2:=[[iv x]]) hb hc (by simp[hl]) rfl rfl (by omega)) (Zbk _ _ (Qn hb (by simp))) ?_;rw[hl];simpa[cel] using hK
theorem Ybj{σ:List ABlk}{b c len:Nat}{ex ex2:Bool}{l:List Int}{x:Int}{K:AVal→List Nat×List Nat→List ABlk→Prop}(hb:hget σ b=.rows 1 (l.map cel))(hc:hget σ c=.rows 1 [[iv x]])(hl:len=l.length)(hroom:l.length≤1000000000)(hK:K (.sl σ.length 0 (l++[x]).length false) ([c],[b,σ.length]) (σ.set b .dead++[.rows 1 ((l++[x]).map cel)])) :
  VV.dr (Yl 1 8 [.sl b 0 len ex,.sl c 0 1 ex2] σ) σ K:=by
 refine Qe (Xbn 1 8 (rs2:=[[iv x]]) hb hc (by simp[hl]) rfl rfl (by omega)) (Zbk _ _ (Qn hb (by simp))) ?_;rw[hl];simpa[cel] using hK
attribute [local irreducible] Ans.rd Ans.pu Ans.wr Ans.dr Ans.gr Ans.gw Ans.gl Ans.gd Ans.opt joinK W
set_option maxHeartbeats 8000000
theorem au{A B:Prop}(k:B)(h:B→A:=by intro k; (repeat (first|refine Za (Zda ..) ?_|refine Za (Y4 ..) ?_|refine Za rfl ?_|refine Zd rfl rfl ?_|refine Zt rfl ?_|refine Yg rfl ?_|refine Qe rfl rfl ?_|refine Xc ?_|refine Xe ?_|refine Ya ?_|refine Qa rfl ?_|refine Xa ?_|refine Yb rfl ?_|refine XX rfl ?_|refine Xag ?_)); exact k):A:=h k
end Go.Ah.Tz
end
section
namespace Go.Ah.Tz
open Go.Proofs.Tryz (prog)
set_option maxRecDepth 100000
def drawF(s:St)(k:Int):St×Ev×Int:=
 match (s.side k).deck with
 |[]=>if wIn ((s.side k).life-1) then (s.put k { s.side k with life:=(s.side k).life-1 },⟨3,k,-1,0,0,0,[]⟩,0) else (zSt,zEv,171)
 |c::l=>if 10≤(s.side k).hand.length then
   ({ s with s0:={ s.s0 with told:=s.s0.told++[c] },s1:={ s.s1 with told:=s.s1.told++[c] } } |> λs'=>s'.put k { s'.side k with deck:=l,grave:=(s.side k).grave++[c] },⟨4,k,c,0,0,0,[]⟩,0)
  else (s.put k { s.side k with deck:=l,hand:=(s.side k).hand++[c],told:=(s.side k).told++[c] },⟨3,k,c,0,0,0,[]⟩,0)
attribute [local irreducible] Ans.rd Ans.pu Ans.wr Ans.dr Ans.gr Ans.gw Ans.gl Ans.gd Ans.opt joinK W
set_option maxHeartbeats 8000000
theorem c18(b:Bk)(hf:bkFit b=true)(hsm:Zu b.cards)(s:St)(hs:StLe 2000000 s)(hm:mayR (bkR b).1 b s true=true)(k:Int)(h01:k=0∨k=1):PC 48 [bkV b,stV s,iv k] (resV (drawF s k)):=by
 have hl0:=QaY.1 (Qbr hm);have hl1:=QaY.1 (Zbs hm);have hs9:StLe 1000000000 s:=hs.mono (by decide);have hm':=hm;refine Xm hP g48.ok rfl ?_;rcases h01 with rfl|rfl
 rotate_left;obtain⟨tu,mo,ph,st,re,at_,ne,⟨l',m',o',d',h',g',u',t'⟩,⟨l,m,o,d,h,g,u,t⟩⟩:=s;obtain⟨ha,⟨p1,p2,p3,p4,p5⟩,⟨q1,q2,q3,q4,q5⟩⟩:=hs;have hl:=hl1
 let mk:Sd→List Int→St:=λx y=>⟨tu,mo,ph,st,re,at_,ne,⟨l',m',o',d',h',g',u',y⟩,x⟩
 have hmk:∀l m o (d h g:List Int) u (t y:List Int),d.length≤1000000000→h.length≤1000000000→g.length≤1000000000→u.length≤1000000000→t.length≤1000000000→y.length≤1000000000→StLe 1000000000 (mk ⟨l,m,o,d,h,g,u,t⟩ y):=λ_ _ _ _ _ _ _ _ _ a b c d e f=>⟨hs9.1,⟨hs9.2.1,hs9.2.2,hs9.2.3,hs9.2.4,f⟩,⟨a,b,c,d,e⟩⟩;rotate_left;obtain⟨tu,mo,ph,st,re,at_,ne,⟨l,m,o,d,h,g,u,t⟩,⟨l',m',o',d',h',g',u',t'⟩⟩:=s;obtain⟨ha,⟨q1,q2,q3,q4,q5⟩,⟨p1,p2,p3,p4,p5⟩⟩:=hs;have hl:=hl0
 let mk:Sd→List Int→St:=λx y=>⟨tu,mo,ph,st,re,at_,ne,x,⟨l',m',o',d',h',g',u',y⟩⟩
 have hmk:∀l m o (d h g:List Int) u (t y:List Int),d.length≤1000000000→h.length≤1000000000→g.length≤1000000000→u.length≤1000000000→t.length≤1000000000→y.length≤1000000000→StLe 1000000000 (mk ⟨l,m,o,d,h,g,u,t⟩ y):=λ_ _ _ _ _ _ _ _ _ a b c d e f=>⟨hs9.1,⟨a,b,c,d,e⟩,⟨hs9.3.1,hs9.3.2,hs9.3.3,hs9.3.4,f⟩⟩
 all_goals
  simp only at ha q1 q2 q3 q4 q5 p1 p2 p3 p4 p5 hl;rw[H3.e]; unfold g48; dsimp only[stV,stC];refine au ?_;refine c56n b hf hsm _ hs9 (n0:=4) (n:=15) (bb:=0) (sb:=1) rfl rfl rfl rfl (λh=>by rw[hm] at h; cases h) (λ_=>?_);dsimp only[stO,stB,sdO,sdB];cases d with
  |nil=>
   refine au ?_;refine Xb (c57 _) rfl g78.ok.plain rfl ?_;refine au ?_;have e:IntKind.i64.wrap (l-1)=l-1:=wrapI (by omega) (by omega);refine Zb (λhw=>?_) (λhw=>?_)
   ·have hw:wIn (l-1)=false:=by rw[←e]; simpa using hw
    refine au ?_;refine⟨[],?_⟩;show Bor _ _ _ (resV (if wIn (l-1) then _ else (zSt,zEv,171)));rw[hw];exact resZ 171
   ·have hw:wIn (l-1)=true:=by rw[←e]; simpa using hw
    rw[e];refine au ?_;refine d59 (s:=mk ⟨l-1,m,o,[],h,g,u,t⟩ t') (rd:=List.range 40) (hmk _ _ _ _ _ _ _ _ _ (by simp) (by omega) (by omega) (by omega) (by omega) (by omega)) (SB.lit rfl) ?_;dsimp only[stO,stB,sdO,sdB,mk];refine au ?_;show ∃rd,Bor _ rd _ (resV (if wIn (l-1) then (_,(⟨3,_,-1,0,0,0,[]⟩:Ev),0) else (zSt,zEv,171)));rw[if_pos hw];exact⟨List.range 40,resB (r:=(_,⟨3,_,-1,0,0,0,[]⟩,0)) (SB.lit rfl) (evB (e:=⟨3,_,-1,0,0,0,[]⟩) RI.nils)⟩
  |cons c d2=>
   simp only[List.length_cons] at q1;refine au ?_;refine Zb (λhw=>?_) (λhw=>?_)
   ·have hw:10≤h.length:=by simp at hw; omega
    refine au ?_;refine Qm hP rfl g79.ok rfl (c58 (x:=c) (l:=d2) (t:=g) rfl rfl rfl rfl rfl (by omega) rfl rfl (by decide) (by decide) rfl rfl rfl ?_);rw[show g.length+1=(g++[c]).length by simp];refine au ?_;refine Zl 3 (Zf ?_);refine au ?_;refine Ybj rfl rfl rfl (by omega) ?_;refine au ?_;refine Ybj rfl rfl rfl (by omega) ?_;refine au ?_;refine d59 (s:=mk ⟨l,m,o,d2,h,g++[c],u,t++[c]⟩ (t'++[c])) (rd:=List.range 40) (hmk _ _ _ _ _ _ _ _ _ (by omega) (by omega) (by simp; omega) (by omega) (by simp; omega) (by simp; omega)) (by first|exact SB.lit rfl (x1:=RI.tailV rfl (in40 rfl))|exact SB.lit rfl (x6:=RI.tailV rfl (in40 rfl))) ?_;dsimp only[stO,stB,sdO,sdB,mk];refine au ?_;show ∃rd,Bor _ rd _ (resV (if 10≤h.length then (_,(⟨4,_,c,0,0,0,[]⟩:Ev),0) else _));rw[if_pos hw];exact⟨List.range 40,resB (r:=(_,⟨4,_,c,0,0,0,[]⟩,0)) (SB.lit rfl) (evB (e:=⟨4,_,c,0,0,0,[]⟩) RI.nils)⟩
   ·have hw:¬10≤h.length:=by simp at hw; omega
    refine au ?_;refine Qm hP rfl g79.ok rfl (c58 (x:=c) (l:=d2) (t:=h) rfl rfl rfl rfl rfl (by omega) rfl rfl (by decide) (by decide) rfl rfl rfl ?_);rw[show h.length+1=(h++[c]).length by simp];refine au ?_;refine Ybj rfl rfl rfl (by omega) ?_;refine au ?_;refine d59 (s:=mk ⟨l,m,o,d2,h++[c],g,u,t++[c]⟩ t') (rd:=List.range 40) (hmk _ _ _ _ _ _ _ _ _ (by omega) (by simp; omega) (by omega) (by omega) (by simp; omega) (by omega)) (by first|exact SB.lit rfl (x1:=RI.tailV rfl (in40 rfl))|exact SB.lit rfl (x6:=RI.tailV rfl (in40 rfl))) ?_;dsimp only[stO,stB,sdO,sdB,mk];refine au ?_;show ∃rd,Bor _ rd _ (resV (if 10≤h.length then _ else (_,(⟨3,_,c,0,0,0,[]⟩:Ev),0)));rw[if_neg hw];exact⟨List.range 40,resB (r:=(_,⟨3,_,c,0,0,0,[]⟩,0)) (SB.lit rfl) (evB (e:=⟨3,_,c,0,0,0,[]⟩) RI.nils)⟩
theorem c18_0(b:Bk)(hf:bkFit b=true)(hsm:Zu b.cards)(s:St)(hs:StLe 2000000 s)(hm:mayR (bkR b).1 b s true=true):PC 48 [bkV b,stV s,iv 0] (resV (drawF s 0)):=c18 b hf hsm s hs hm 0 (.inl rfl)
end Go.Ah.Tz
end
section
namespace Go.Ah.Tz
open Go.Proofs.Tryz (prog)
attribute [local irreducible] Ans.rd Ans.pu Ans.wr Ans.dr Ans.gr Ans.gw Ans.gl Ans.gd Ans.opt joinK W
set_option maxHeartbeats 4000000
def QbY(b:Bk)(c:Int):Int:=((b.cards[c.toNat]?).getD default).shield
def hurt(b:Bk)(u:Th)(n:Int):Int:=max (IntKind.i64.wrap (n-QbY b u.card)) 0
end Go.Ah.Tz
end
section
namespace Go.Ah.Tz
open Go.Proofs.Tryz (prog)
def cap4(n:Int):Int:=min (max n 0) 4000000
def chgU(s:St)(kd k:Int)(i:Nat)(id:Int)(u:Th)(v:Int×Int):St×Ev×Int:=
 if wIn v.1 then (s.put k { s.side k with units:=(s.side k).units.set i { u with harm:=v.1 } },⟨kd,k,0,id,0,v.2,[]⟩,0) else (zSt,zEv,171)
def chgP(s:St)(kd k:Int)(v:Int×Int):St×Ev×Int:=
 if wIn v.1 then (s.put k { s.side k with life:=v.1 },⟨kd,k,0,0,0,v.2,[]⟩,0) else (zSt,zEv,171)
def chgF(kd:Int)(fP:Int→Int×Int)(fU:Th→Int×Int)(s:St)(id k:Int):St×Ev×Int:=
 if id=0 then chgP s kd k (fP (s.side k).life) else if id<0 then (zSt,zEv,4) else match fnd s.s0.units id with
  |some i=>chgU s kd 0 i id ((s.s0.units[i]?).getD default) (fU ((s.s0.units[i]?).getD default))
  |none=>match fnd s.s1.units id with
   |some i=>chgU s kd 1 i id ((s.s1.units[i]?).getD default) (fU ((s.s1.units[i]?).getD default))
   |none=>(zSt,zEv,4)
def harmF(b:Bk)(s:St)(id k n:Int):St×Ev×Int:=
 chgF 5 (λl=>(IntKind.i64.wrap (l-cap4 n),cap4 n)) (λu=>(IntKind.i64.wrap (u.harm+hurt b u (cap4 n)),hurt b u (cap4 n))) s id k
def mendF(s:St)(id k n:Int):St×Ev×Int:=
 chgF 6 (λl=>(IntKind.i64.wrap (l+cap4 n),cap4 n)) (λu=>(IntKind.i64.wrap (u.harm-min (cap4 n) u.harm),min (cap4 n) u.harm)) s id k
theorem Xao{b:Bk}{next:Int}:∀ {l:List Th} {ids:List Int},Zn b next ids l=true→∀u∈l,Yq b next u=true
 |v::l,ids,h,u,hu=>by
  simp only[Zn,Bool.and_eq_true] at h;rcases List.mem_cons.1 hu with rfl|hu
  ·exact h.1
  ·exact Xao h.2.2 u hu
theorem ZaY{b:Bk}{next:Int}{u:Th}(h:Yq b next u=true):0≤u.card∧u.card.toNat<b.cards.length:=by
 simp_all [Yq]
theorem Zcq{e:Int}{b:Bk}{s:St}{bare:Bool}(h:mayR e b s bare=true):∀u∈s.s0.units,0≤u.card∧u.card.toNat<b.cards.length:=by
 have:=Xat h;simp only[Qp,Bool.and_eq_true] at this;exact λu hu=>ZaY (Xao this.2.1 u hu)
theorem Ycq{e:Int}{b:Bk}{s:St}{bare:Bool}(h:mayR e b s bare=true):∀u∈s.s1.units,0≤u.card∧u.card.toNat<b.cards.length:=by
 have:=Xat h;simp only[Qp,Bool.and_eq_true] at this;exact λu hu=>ZaY (Xao this.2.2.2 u hu)
theorem XcS{l:List Th}{id:Int}{k:Nat}(h:fnd l id=some k):∃u,l[k]?=some u∧u.id=id:=by
 obtain⟨hk,h2,_⟩:=List.findIdx?_eq_some_iff_getElem.1 h;simp_all
end Go.Ah.Tz
end
section
namespace Go.Ah.Tz
open Go.Proofs.Tryz (prog)
abbrev mv2(s:St):List AVal:=[.bptr 0 0,iv s.turn,iv s.mover,iv8 s.phase,.bool s.struck,iv8 s.result,.sl 2 0 s.attack.length false,iv s.next,iv s.s0.life,iv s.s0.mana,iv s.s0.most,.sl 3 0 s.s0.deck.length false,.sl 4 0 s.s0.hand.length false,.sl 5 0 s.s0.grave.length false,.sl 6 0 s.s0.units.length false,.sl 7 0 s.s0.told.length false,iv s.s1.life,iv s.s1.mana,iv s.s1.most,.sl 8 0 s.s1.deck.length false,.sl 9 0 s.s1.hand.length false,.sl 10 0 s.s1.grave.length false,.sl 11 0 s.s1.units.length false,.sl 12 0 s.s1.told.length false]
abbrev sg2(b:Bk)(s:St):List ABlk:=[.box (bkC b),.box (stC s),.rows 1 (s.attack.map cel),.rows 1 (s.s0.deck.map cel),.rows 1 (s.s0.hand.map cel),.rows 1 (s.s0.grave.map cel),.rows 4 (s.s0.units.map thC),.rows 1 (s.s0.told.map cel),.rows 1 (s.s1.deck.map cel),.rows 1 (s.s1.hand.map cel),.rows 1 (s.s1.grave.map cel),.rows 4 (s.s1.units.map thC),.rows 1 (s.s1.told.map cel)]
def ZaC(b:Bk)(c:Int):Cd:=(b.cards[c.toNat]?).getD default
def powGo(b:Bk)(place:Int):List Th→Int→Int×Int→Int×Int
 |[],_,a=>a
 |u::l,i,a=>powGo b place l (i+1) (if i=place then (IntKind.i64.wrap (a.1+(ZaC b u.card).power),IntKind.i64.wrap (a.2+(ZaC b u.card).health)) else (IntKind.i64.wrap (a.1+(ZaC b u.card).aurap),IntKind.i64.wrap (a.2+(ZaC b u.card).aurah)))
def powF(b:Bk)(l:List Th)(place:Int):Int×Int:=powGo b place l 0 (0,0)
def Yac(b:Bk)(all:List Th):List Th→Int→List Int
 |[],_=>[]
 |u::l,i=>if (powF b all i).2≤u.harm then u.id::Yac b all l (i+1) else Yac b all l (i+1)
def Q3(b:Bk)(d:Sd):List Int:=Yac b d.units d.units 0
theorem Qa2(b:Bk)(all:List Th):∀(l:List Th) (i:Int),(Yac b all l i).length≤l.length
 |[],_=>Nat.le_refl _
 |u::l,i=>by
  have:=Qa2 b all l (i+1);unfold Yac;split<;>simp<;>omega
def deadF(b:Bk)(s:St):List Int:=if s.mover=0 then Q3 b s.s0++Q3 b s.s1 else Q3 b s.s1++Q3 b s.s0
theorem cdLd3(x:Cd):partA false 3 1 (cdC x)=some (iv x.power):=rfl
theorem cdLd4(x:Cd):partA false 4 1 (cdC x)=some (iv x.health):=rfl
theorem cdLd6(x:Cd):partA false 6 1 (cdC x)=some (iv x.aurap):=rfl
theorem cdLd7(x:Cd):partA false 7 1 (cdC x)=some (iv x.aurah):=rfl
theorem ldp{σ:List ABlk}{b i j n sz:Nat}{agg:Bool}{rs:List (List AVal)}{row:List AVal}{v:AVal}(hb:hget σ b=.rows sz rs)(hi:rs[i]?=some row)(hv:partA agg j n row=some v):Qk agg n [.ptr b i j] σ=.ok v [b] []:=by
 show (match hget σ b with
   |.rows _ rs=>match nth rs i with
    |some row=>match partA agg j n row with
     |some v=>SRes.ok v [b] []
     |none=>.stop
    |none=>.stop
   | _=>.stop)=_
 rw[hb];simp only[X5,hi,hv]
theorem Gr.more{σ0 σ:List ABlk}{n k:Nat}{rows:List (List AVal)}{v:AVal}(h:Gr σ0 n rows k v σ)(l:List ABlk):Gr σ0 n rows k v (σ++l):=by
 obtain⟨h1,h2,h3⟩:=h;refine⟨by simp; omega,λc hc=>by rw[QG l (by omega),h2 c hc],?_⟩;rcases h3 with h3|⟨q1,b,q2,q3,q4,q5⟩
 ·exact .inl h3
 ·exact .inr ⟨q1,b,q2,q3,Xj l q4 (by simp),q5⟩
theorem Gr.ri{σ0 σ:List ABlk}{l:List Int}{v:AVal}(h:Gr σ0 1 (l.map cel) l.length v σ):∃rd,RI σ rd v l:=by
 rcases h.2.2 with ⟨h1,h2,_⟩|⟨_,b,_,h2,h3,_⟩
 ·simp_all [RI.nils]
 ·subst h2;exact⟨[b],RI.own h3 (by simp) rfl⟩
attribute [local irreducible] Ans.rd Ans.pu Ans.wr Ans.dr Ans.gr Ans.gw Ans.gl Ans.gd Ans.opt joinK W
set_option maxHeartbeats 4000000
theorem c75_0(b:Bk)(s:St)(hl:s.s0.units.length≤1000000000)(hu:∀u∈s.s0.units,0≤u.card∧u.card.toNat<b.cards.length)(place:Int):PC 129 [.rptr (.rptr (bkC b) 0::stC s) 0,iv 0,iv place] (.tup [iv (powF b s.s0.units place).1,iv (powF b s.s0.units place).2]):=by
 refine Yc hP g129.ok rfl rfl ?_;rw[H3.e]; unfold g129; dsimp only;refine Za rfl (Za rfl (Za rfl (Za rfl (Za rfl (Za (v:=thV s.s0.units) (rd:=[]) (ldr rfl) (Za (v:=iv s.s0.units.length) (rd:=[]) (by simp[Ze]) ?_))))));refine Zg (ι:=Nat) (λi vs _=>(∃a:Int×Int,vs=[iv i,iv a.1,iv a.2]∧powF b s.s0.units place=powGo b place (s.s0.units.drop i) i a)∧i≤s.s0.units.length) (λi=>s.s0.units.length-i) 0 ⟨⟨(0,0),rfl,by simp[powF]⟩,by omega⟩ ?_;rintro i vs σ again ⟨⟨a,rfl,hr⟩,hi⟩ hag;refine Za rfl (Zb (λh=>?_) (λh=>?_));rotate_left
 ·have h:i=s.s0.units.length:=by simp at h; omega
  simp_all [powGo]
 have h:i<s.s0.units.length:=by simpa using h
 have hmem:=List.getElem_mem h;rw[YLD h,powGo] at hr;have hix:=λ(t:List ABlk)=>Yk t thC false false 4 s.s0.units .i64 i h;generalize s.s0.units[i]=u at hmem hr hix;have hcu:=hu u hmem;have hcx:=λ(t:List ABlk)=>Qck t cdC false false 12 b.cards .i64 u.card hcu.1 hcu.2;have hcd:ZaC b u.card=b.cards[u.card.toNat]:=by simp_all [ZaC]
 rw[hcd] at hr;generalize b.cards[u.card.toNat]=c at hr hcx;refine Yh λk10 hk10=>?_;refine Za (hix _) (Za (ldr rfl) (Zy (row:=thC u) (row':=thC u) rfl rfl rfl ?_));have hB:=Qi σ (.box (thC u));refine Za rfl (Za rfl (Za (ldr rfl) (Za rfl (Za rfl (Za (ldr rfl) (Za rfl (Za (ld hB rfl) (Za (hcx _) (Za (Yd ..) ?_)))))))));refine Zb (λhp=>?_) (λhp=>?_)
 ·rw[if_pos (of_decide_eq_true hp)] at hr;refine Za rfl (Za rfl (Za (ldr (cdLd3 _)) (Za (Yf ..) (Za rfl (Za rfl (Za (ldr (cdLd4 _)) (Za (Yf ..) ?_)))))));rw[hk10];refine Za (Yf ..) ?_;rw[Qc (n:=i) (by omega)];exact hag (i+1) _ _ (by omega) ⟨⟨_,rfl,by rw[hr]; push_cast; rfl⟩,by omega⟩
 ·rw[if_neg (of_decide_eq_false hp)] at hr;refine Za rfl (Za rfl (Za (ldr (cdLd6 _)) (Za (Yf ..) (Za rfl (Za rfl (Za (ldr (cdLd7 _)) (Za (Yf ..) ?_)))))));rw[hk10];refine Za (Yf ..) ?_;rw[Qc (n:=i) (by omega)];exact hag (i+1) _ _ (by omega) ⟨⟨_,rfl,by rw[hr]; push_cast; rfl⟩,by omega⟩
theorem c75_1(b:Bk)(s:St)(hl:s.s1.units.length≤1000000000)(hu:∀u∈s.s1.units,0≤u.card∧u.card.toNat<b.cards.length)(place:Int):PC 129 [.rptr (.rptr (bkC b) 0::stC s) 0,iv 1,iv place] (.tup [iv (powF b s.s1.units place).1,iv (powF b s.s1.units place).2]):=by
 refine Yc hP g129.ok rfl rfl ?_;rw[H3.e]; unfold g129; dsimp only;refine Za rfl (Za rfl (Za rfl (Za rfl (Za rfl (Za (v:=thV s.s1.units) (rd:=[]) (ldr rfl) (Za (v:=iv s.s1.units.length) (rd:=[]) (by simp[Ze]) ?_))))));refine Zg (ι:=Nat) (λi vs _=>(∃a:Int×Int,vs=[iv i,iv a.1,iv a.2]∧powF b s.s1.units place=powGo b place (s.s1.units.drop i) i a)∧i≤s.s1.units.length) (λi=>s.s1.units.length-i) 0 ⟨⟨(0,0),rfl,by simp[powF]⟩,by omega⟩ ?_;rintro i vs σ again ⟨⟨a,rfl,hr⟩,hi⟩ hag;refine Za rfl (Zb (λh=>?_) (λh=>?_));rotate_left
 ·have h:i=s.s1.units.length:=by simp at h; omega
  simp_all [powGo]
 have h:i<s.s1.units.length:=by simpa using h
 have hmem:=List.getElem_mem h;rw[YLD h,powGo] at hr;have hix:=λ(t:List ABlk)=>Yk t thC false false 4 s.s1.units .i64 i h;generalize s.s1.units[i]=u at hmem hr hix;have hcu:=hu u hmem;have hcx:=λ(t:List ABlk)=>Qck t cdC false false 12 b.cards .i64 u.card hcu.1 hcu.2;have hcd:ZaC b u.card=b.cards[u.card.toNat]:=by simp_all [ZaC]
 rw[hcd] at hr;generalize b.cards[u.card.toNat]=c at hr hcx;refine Yh λk10 hk10=>?_;refine Za (hix _) (Za (ldr rfl) (Zy (row:=thC u) (row':=thC u) rfl rfl rfl ?_));have hB:=Qi σ (.box (thC u));refine Za rfl (Za rfl (Za (ldr rfl) (Za rfl (Za rfl (Za (ldr rfl) (Za rfl (Za (ld hB rfl) (Za (hcx _) (Za (Yd ..) ?_)))))))));refine Zb (λhp=>?_) (λhp=>?_)
 ·rw[if_pos (of_decide_eq_true hp)] at hr;refine Za rfl (Za rfl (Za (ldr (cdLd3 _)) (Za (Yf ..) (Za rfl (Za rfl (Za (ldr (cdLd4 _)) (Za (Yf ..) ?_)))))));rw[hk10];refine Za (Yf ..) ?_;rw[Qc (n:=i) (by omega)];exact hag (i+1) _ _ (by omega) ⟨⟨_,rfl,by rw[hr]; push_cast; rfl⟩,by omega⟩
 ·rw[if_neg (of_decide_eq_false hp)] at hr;refine Za rfl (Za rfl (Za (ldr (cdLd6 _)) (Za (Yf ..) (Za rfl (Za rfl (Za (ldr (cdLd7 _)) (Za (Yf ..) ?_)))))));rw[hk10];refine Za (Yf ..) ?_;rw[Qc (n:=i) (by omega)];exact hag (i+1) _ _ (by omega) ⟨⟨_,rfl,by rw[hr]; push_cast; rfl⟩,by omega⟩
theorem c28_0(b:Bk)(hf:bkFit b=true)(hsm:Zu b.cards)(s:St)(hs:StLe 2000000 s)(hm:mayR (bkR b).1 b s true=true)(hmv:s.mover=0):PC 82 [bkV b,stV s] (rowV (deadF b s)):=by
 have w1:IntKind.i64.wrap (0+1)=1:=by decide
 have w2:IntKind.i64.wrap (1+1)=2:=by decide
 have z0:=hs.s0.units;have z1:=hs.s1.units;refine Xm hP g82.ok rfl ?_;rw[H2.e]; unfold g82; dsimp only;refine Zd (v:=.bptr 0 0) (rd:=[]) (up:=[(0,.box (bkC b))]) rfl rfl ?_;refine Zd (v:=.bptr 1 0) (rd:=[]) (up:=[(1,.box (stC s))]) rfl rfl ?_;refine c56n b hf hsm s (hs.mono (by decide)) (n0:=2) (n:=13) rfl rfl rfl rfl (λh=>by rw[hm] at h; cases h) (λ_=>?_);have hld:∀σ,hget σ 1=.box (stC s)→Qk false 1 [.bptr 1 1] σ=.ok (iv 0) [1] []:=λσ h=>by
  have:=ld (σ:=σ) (b:=1) (j:=1) (n:=1) (agg:=false) (v:=iv s.mover) h rfl;rw[hmv] at this; exact this
 refine Za rfl (Xe (Za rfl (Za (hld _ rfl) (Za rfl (Za (hld _ rfl) (Za (v:=iv 1) (rd:=[]) rfl (Za (v:=.agg [iv 0,iv 1]) (rd:=[]) rfl ?_)))))));refine Zl 3 (Zf ?_);have hG0:Gr (((sg2 b s).append [.box (mv2 s)])) 1 ([].map cel) ([]:List Int).length .nils (((sg2 b s).append [.box (mv2 s)])):=Gr.nil 1 _;have hpre0:(([]:List Int)).length≤2000000:=by simp
 refine Za rfl (Xc (Za rfl (Za rfl (Za rfl (Za rfl (Za rfl (Za rfl (Za (ld (row:=mv2 s) (hG0.old rfl (by simp)) rfl) (Za rfl ?_)))))))));refine Zg (ι:=Nat) (λi vs τ=>(∃(done:List Int) (v:AVal),vs=[iv i,v]∧Gr (((sg2 b s).append [.box (mv2 s)])) 1 (done.map cel) done.length v τ∧([]:List Int)++Q3 b s.s0=done++Yac b s.s0.units (s.s0.units.drop i) i∧done.length≤(([]:List Int)).length+i)∧i≤s.s0.units.length) (λi=>s.s0.units.length-i) 0 ⟨⟨([]:List Int),_,rfl,hG0,rfl,Nat.le_refl _⟩,by omega⟩ ?_;rintro i vs τ again ⟨⟨done,v,rfl,hG,hr,hdl⟩,hi⟩ hag;refine Za rfl (Zb (λh=>?_) (λh=>?_))
 ·have h:i<s.s0.units.length:=by simpa using h
  have hmem:=List.getElem_mem h;have hgt:(s.s0.units.map thC)[i]?=some (thC s.s0.units[i]):=by simp[h]
  rw[YLD h,Yac] at hr;generalize s.s0.units[i]=u at hmem hr hgt;refine Yh λk24 hk24=>?_;have hU:hget τ 6=.rows 4 (s.s0.units.map thC):=hG.old rfl (by simp);refine Za (v:=.ptr 6 i 0) (rd:=[6]) ?_ ?_
  ·have:=YbC τ 6 0 s.s0.units.length false 4 (s.s0.units.map thC) .i64 i h hU;rw[Nat.zero_add] at this; exact this
  refine Za (ldp hU hgt rfl) (Zy (row:=thC u) (row':=thC u) rfl rfl rfl ?_);have hB:=Qi τ (.box (thC u));have hG2:=hG.more [.box (thC u)];have hO:∀c y,y≠ABlk.dead→hget (((sg2 b s).append [.box (mv2 s)])) c=y→hget (τ++[.box (thC u)]) c=y:=λc y hy hc=>hG2.old hc hy;refine Yap (rd:=[0,2,3,4,5,6,7,8,9,10,11,12,13]) (c75_0 b s (by omega) (Zcq hm) i) rfl g129.ok.plain (.cons (Bor.box (row:=mv2 s) (XG (hO 13 _ (by simp) rfl) (by simp)) (by decide) (.cons (Bor.box (row:=bkC b) (XG (hO 0 _ (by simp) rfl) (by simp)) (by decide) (BorL.ro rfl)) ?_)) <| .cons (Bor.ro rfl) <| .cons (Bor.ro rfl) .nil) rfl ?_
  ·exact SB.mk (s:=s) (RI.own (hO 2 _ (by simp) rfl) (by decide) rfl) (RI.own (hO 3 _ (by simp) rfl) (by decide) rfl) (RI.own (hO 4 _ (by simp) rfl) (by decide) rfl) (RI.own (hO 5 _ (by simp) rfl) (by decide) rfl) (RT.own (hO 6 _ (by simp) rfl) (by decide) rfl) (RI.own (hO 7 _ (by simp) rfl) (by decide) rfl) (RI.own (hO 8 _ (by simp) rfl) (by decide) rfl) (RI.own (hO 9 _ (by simp) rfl) (by decide) rfl) (RI.own (hO 10 _ (by simp) rfl) (by decide) rfl) (RT.own (hO 11 _ (by simp) rfl) (by decide) rfl) (RI.own (hO 12 _ (by simp) rfl) (by decide) rfl)
  refine Za rfl (Za rfl (Za rfl (Za (ld hB rfl) (Za (XaG ..) ?_))));refine Zb (λhp=>?_) (λhp=>?_)
  ·rw[if_pos (of_decide_eq_true hp)] at hr;refine Za rfl (Za (ld hB rfl) ?_);refine hG2.put (by_:=8) rfl rfl rfl (by omega) (λv' τ' hG3=>?_);rw[hk24];refine Za (Yf ..) ?_;rw[Qc (n:=i) (by omega)];refine hag (i+1) _ _ (by omega) ⟨⟨done++[u.id],v',rfl,?_,?_,?_⟩,by omega⟩
   ·rw[List.map_append,List.length_append]; exact hG3
   ·rw[hr,List.append_assoc]; push_cast; rfl
   ·rw[List.length_append,List.length_singleton]; omega
  ·rw[if_neg (of_decide_eq_false hp)] at hr;rw[hk24];refine Za (Yf ..) ?_;rw[Qc (n:=i) (by omega)];exact hag (i+1) _ _ (by omega) ⟨⟨done,v,rfl,hG2,by rw[hr]; push_cast; rfl,by omega⟩,by omega⟩
 have h:i=s.s0.units.length:=by simp at h; omega
 subst h;rw[List.drop_length,Yac,List.append_nil] at hr;subst hr;have hG1:=hG;clear hag again hdl hG;refine Za rfl ?_;rw[w1];refine Zf ?_;have hpre1:((([]:List Int)++Q3 b s.s0)).length≤2000000:=by have:=Qa2 b s.s0.units s.s0.units 0; simp[Q3]; omega
 refine Za rfl (Xc (Za rfl (Za rfl (Za rfl (Za rfl (Za rfl (Za rfl (Za (ld (row:=mv2 s) (hG1.old rfl (by simp)) rfl) (Za rfl ?_)))))))));refine Zg (ι:=Nat) (λi vs τ=>(∃(done:List Int) (v:AVal),vs=[iv i,v]∧Gr (((sg2 b s).append [.box (mv2 s)])) 1 (done.map cel) done.length v τ∧(([]:List Int)++Q3 b s.s0)++Q3 b s.s1=done++Yac b s.s1.units (s.s1.units.drop i) i∧done.length≤((([]:List Int)++Q3 b s.s0)).length+i)∧i≤s.s1.units.length) (λi=>s.s1.units.length-i) 0 ⟨⟨(([]:List Int)++Q3 b s.s0),_,rfl,hG1,rfl,Nat.le_refl _⟩,by omega⟩ ?_;rintro i vs τ again ⟨⟨done,v,rfl,hG,hr,hdl⟩,hi⟩ hag;refine Za rfl (Zb (λh=>?_) (λh=>?_))
 ·have h:i<s.s1.units.length:=by simpa using h
  have hmem:=List.getElem_mem h;have hgt:(s.s1.units.map thC)[i]?=some (thC s.s1.units[i]):=by simp[h]
  rw[YLD h,Yac] at hr;generalize s.s1.units[i]=u at hmem hr hgt;refine Yh λk24 hk24=>?_;have hU:hget τ 11=.rows 4 (s.s1.units.map thC):=hG.old rfl (by simp);refine Za (v:=.ptr 11 i 0) (rd:=[11]) ?_ ?_
  ·have:=YbC τ 11 0 s.s1.units.length false 4 (s.s1.units.map thC) .i64 i h hU;rw[Nat.zero_add] at this; exact this
  refine Za (ldp hU hgt rfl) (Zy (row:=thC u) (row':=thC u) rfl rfl rfl ?_);have hB:=Qi τ (.box (thC u));have hG2:=hG.more [.box (thC u)];have hO:∀c y,y≠ABlk.dead→hget (((sg2 b s).append [.box (mv2 s)])) c=y→hget (τ++[.box (thC u)]) c=y:=λc y hy hc=>hG2.old hc hy;refine Yap (rd:=[0,2,3,4,5,6,7,8,9,10,11,12,13]) (c75_1 b s (by omega) (Ycq hm) i) rfl g129.ok.plain (.cons (Bor.box (row:=mv2 s) (XG (hO 13 _ (by simp) rfl) (by simp)) (by decide) (.cons (Bor.box (row:=bkC b) (XG (hO 0 _ (by simp) rfl) (by simp)) (by decide) (BorL.ro rfl)) ?_)) <| .cons (Bor.ro rfl) <| .cons (Bor.ro rfl) .nil) rfl ?_
  ·exact SB.mk (s:=s) (RI.own (hO 2 _ (by simp) rfl) (by decide) rfl) (RI.own (hO 3 _ (by simp) rfl) (by decide) rfl) (RI.own (hO 4 _ (by simp) rfl) (by decide) rfl) (RI.own (hO 5 _ (by simp) rfl) (by decide) rfl) (RT.own (hO 6 _ (by simp) rfl) (by decide) rfl) (RI.own (hO 7 _ (by simp) rfl) (by decide) rfl) (RI.own (hO 8 _ (by simp) rfl) (by decide) rfl) (RI.own (hO 9 _ (by simp) rfl) (by decide) rfl) (RI.own (hO 10 _ (by simp) rfl) (by decide) rfl) (RT.own (hO 11 _ (by simp) rfl) (by decide) rfl) (RI.own (hO 12 _ (by simp) rfl) (by decide) rfl)
  refine Za rfl (Za rfl (Za rfl (Za (ld hB rfl) (Za (XaG ..) ?_))));refine Zb (λhp=>?_) (λhp=>?_)
  ·rw[if_pos (of_decide_eq_true hp)] at hr;refine Za rfl (Za (ld hB rfl) ?_);refine hG2.put (by_:=8) rfl rfl rfl (by omega) (λv' τ' hG3=>?_);rw[hk24];refine Za (Yf ..) ?_;rw[Qc (n:=i) (by omega)];refine hag (i+1) _ _ (by omega) ⟨⟨done++[u.id],v',rfl,?_,?_,?_⟩,by omega⟩
   ·rw[List.map_append,List.length_append]; exact hG3
   ·rw[hr,List.append_assoc]; push_cast; rfl
   ·rw[List.length_append,List.length_singleton]; omega
  ·rw[if_neg (of_decide_eq_false hp)] at hr;rw[hk24];refine Za (Yf ..) ?_;rw[Qc (n:=i) (by omega)];exact hag (i+1) _ _ (by omega) ⟨⟨done,v,rfl,hG2,by rw[hr]; push_cast; rfl,by omega⟩,by omega⟩
 have h:i=s.s1.units.length:=by simp at h; omega
 subst h;rw[List.drop_length,Yac,List.append_nil] at hr;subst hr;have hG2:=hG;clear hag again hdl hG;refine Za rfl ?_;rw[w2];refine Zf (Za rfl (Xe ?_));obtain⟨rd,hri⟩:=hG2.ri;refine⟨rd,?_⟩;have e:deadF b s=[]++Q3 b s.s0++Q3 b s.s1:=by simp[deadF,hmv]
 rw[e]; exact hri
end Go.Ah.Tz
end
section
namespace Go.Ah.Tz
open Go.Proofs.Tryz (prog)
attribute [local irreducible] Ans.rd Ans.pu Ans.wr Ans.dr Ans.gr Ans.gw Ans.gl Ans.gd Ans.opt joinK W
set_option maxHeartbeats 4000000
theorem ZaK{σ:List ABlk}{b m:Nat}{L:List Int}(hb:hget σ b=.rows 1 (L.map cel))(hm:m<L.length)(x:Int):ZH 1 [.ptr b m 0,iv x] σ=.ok .junk [] [(b,.rows 1 ((L.set m x).map cel))]:=by
 have hl:m<(L.map cel).length:=by simpa using hm
 have h1:nth (L.map cel) m=some (cel L[m]):=by simp_all [X5]
 have h2:QK m [iv x] (L.map cel)=some ((L.set m x).map cel):=by
  rw[Xav hl,List.map_set]; rfl
 show (match hget σ b with
   |.rows sz rs=>match nth rs m with
    |some row=>match cellsOf (iv x) with
     | some cs=>bif Nat.beq cs.length 1 then (match splice 0 cs row with
      |some row'=>match QK m row' rs with
       |some rs'=>SRes.ok .junk [] [(b,.rows sz rs')]
       |none=>.stop
      | none=>.stop) else .stop
     |none=>.stop
    |none=>.stop
   | _=>.stop)=_
 simp_all [cel]
end Go.Ah.Tz
end
section
namespace Go.Ah.Tz
open Go.Proofs.Tryz (prog)
set_option maxRecDepth 100000
theorem QaP{ib:Bool}{σ:List ABlk}{a:Int}{n:Nat}(h:0<n):Yn .rem ib [iv a,iv (n:Int)] σ=.ok (iv (a.tmod n)) [] []:=by
 have h0:Nat.beq n 0=false:=by
  cases e:Nat.beq n 0 with
  |false=>rfl
  |true=>have:=YNB e; omega
 have e:binX .rem .i64 .i64 a (Int.ofNat n)=(bif Nat.beq n 0 then none else bif ikEq .i64 .i64 then some (.int .i64 (a.tmod (.ofNat n))) else none):=rfl;show (match binX .rem .i64 .i64 a (Int.ofNat n) with
  |some v=>SRes.ok v [] []
  | none=>.stop)=_
 rw[e,h0]; rfl
theorem Yc4{n:Nat}(h:0<n)(hn:n≤2000000000)(a:Int):∃j:Nat,j<n∧(IntKind.i64.wrap (a.tmod n+n)).tmod n=(j:Int):=by
 have h1:=Int.tmod_lt_of_pos a (b:=(n:Int)) (by omega);have h2:=Int.lt_tmod_of_pos a (b:=(n:Int)) (by omega);rw[wrapI (by omega) (by omega)];have h3:=Int.tmod_nonneg (a:=a.tmod n+n) n (by omega);have h4:=Int.tmod_lt_of_pos (a.tmod n+n) (b:=(n:Int)) (by omega);exact⟨((a.tmod n+n).tmod n).toNat,by omega,by omega⟩
theorem Zcb(L:List Int)(i j:Nat)(hi:i<L.length)(hj:j<L.length)(x:Int):((L.set i L[j]).set j L[i]).count x=L.count x:=by
 have hj':j<(L.set i L[j]).length:=by simpa using hj
 rw[List.count_set hj',List.count_set hi];have h1:(L.set i L[j])[j]=L[j]:=by
  rw[List.getElem_set]; split<;>simp_all
 rw[h1];have p1:(if (L[i]==x)=true then 1 else 0)≤L.count x:=by
  split
  ·rename_i h;have:L[i]=x:=by simpa using h
   exact List.one_le_count_iff.2 (this▸List.getElem_mem hi)
  ·exact Nat.zero_le _
 by_cases e1:L[i]==x<;>by_cases e2:L[j]==x<;>simp only[e1,e2,if_true,if_false,Bool.false_eq_true] at p1 ⊢ <;> omega
def SameCt(L D:List Int):Prop:=L.length=D.length∧∀x,L.count x=D.count x
theorem SameCt.swap{L D:List Int}(h:SameCt L D){i j:Nat}(hi:i<L.length)(hj:j<L.length):SameCt ((L.set i L[j]).set j L[i]) D:=
 ⟨by simpa using h.1,λx=>by rw[Zcb L i j hi hj,h.2]⟩
attribute [local irreducible] Ans.rd Ans.pu Ans.wr Ans.dr Ans.gr Ans.gw Ans.gl Ans.gd Ans.opt joinK W
set_option maxHeartbeats 4000000
def modF(x:Int)(n:Nat):Int:=(IntKind.i64.wrap (x.tmod n+n)).tmod n
theorem XaT{n:Nat}(h:0<n)(hn:n≤2000000000)(x:Int):∃j:Nat,j<n∧modF x n=(j:Int):=Yc4 h hn x
theorem j223(x:Int)(n:Nat)(h:0<n):PC 26 [iv x,iv n] (iv (modF x n)):=by
 refine Yc hP g26.ok rfl rfl ?_;rw[H2.e]; unfold g26; dsimp only;exact Za (QaP h) (Za (Yf ..) (Za (QaP h) rfl))
theorem w185{l:List Int}(hl:l.length≤1000000000){σ:List ABlk}{K:AVal→List ABlk→Prop}(hK:K (.sl σ.length 0 l.length false) (σ++[.rows 1 (l.map cel)])):VV.call (.call 22) [rowV l] σ K:=by
 refine Xap (c96 l hl) rfl g22.ok.plain rfl ?_;simp only[Xp,List.map_cons,List.map_nil,ZP,AVal.ren,Zw,Nat.zero_add];exact hK
def AtOk(d:List Int)(a:Int):Prop:=0≤a∧(a=0∨a<d.length)∧(d≠[]→a<d.length)
theorem AtOk.zero(d:List Int):AtOk d 0:=⟨by omega,.inl rfl,λh=>by cases d with|nil=>exact(h rfl).elim|cons x l=>simp⟩
theorem AtOk.nat{d:List Int}{j:Nat}(h:j<d.length):AtOk d (j:Int):=⟨by omega,.inr (by omega),λ_=>by omega⟩
def drwF(d:List Int)(a:Int):Int×Int:=if d.length=0 then (0,a) else ((d[a.toNat]?).getD 0,modF (a+1) d.length)
theorem ZbC{d:List Int}(hd:d.length≤1000000000){a:Int}(h:AtOk d a):AtOk d (drwF d a).2:=by
 unfold drwF;split
 ·exact h
 ·obtain⟨j,j1,j2⟩:=XaT (n:=d.length) (by omega) (by omega) (a+1);simp only[j2]; exact AtOk.nat j1
theorem drwW(d:List Int)(hd:d.length≤1000000000){a:Int}(ha:AtOk d a){r:ABlk}{K:AVal→List ABlk→Prop}(hK:K (iv (drwF d a).1) [.box [iv (drwF d a).2],.box [rowV d],.box [.bptr 0 0],r]) :
  VV.call .callv [.func (.func 57) [] [.bptr 1 0,.bptr 2 0]] [.box [iv a],.box [rowV d],.box [.bptr 0 0],r] K:=by
 refine Qm hP rfl g57.ok rfl ?_;show g57.u VV [.bptr 1 0,.bptr 2 0] _ K;rw[H2.e]; unfold g57; dsimp only;refine Za (v:=rowV d) (ld (row:=[rowV d]) rfl rfl) (Za (v:=iv d.length) (rd:=[]) (by simp[Xo]) (Za (Yd ..) (Zb (λh=>?_) (λh=>?_))))
 ·have h:d.length=0:=by simpa using h
  have e:drwF d a=(0,a):=by unfold drwF; rw[if_pos h]
  rw[e] at hK;exact hK
 have h:0<d.length:=by
  have:d.length≠0:=by simpa using h
  omega
 obtain⟨a1,a2,a3⟩:=ha;have a4:=a3 (List.length_pos_iff.1 h);obtain⟨k,rfl⟩:∃k:Nat,a=k:=⟨a.toNat,by omega⟩;have hk:k<d.length:=by omega
 have e:drwF d k=(d[k],modF ((k+1:Nat):Int) d.length):=by unfold drwF; rw[if_neg (by omega)]; simp[hk]
 rw[e] at hK;refine Za (v:=rowV d) (ld (row:=[rowV d]) rfl rfl) (Za (v:=.bptr 0 0) (ld (row:=[.bptr 0 0]) rfl rfl) (Za rfl (Za (v:=iv k) (ld (row:=[iv k]) rfl rfl) (Za (Yk _ cel _ _ _ d _ k hk) (Za (v:=iv d[k]) (ldr rfl) ?_)))));refine Qe (v:=.bptr 0 0) (ld (row:=[.bptr 0 0]) rfl rfl) rfl (Qe (v:=.bptr 0 0) (ld (row:=[.bptr 0 0]) rfl rfl) rfl (Yg rfl (Qe (v:=iv k) (ld (row:=[iv k]) rfl rfl) rfl (Yg (Yf ..) ?_))));rw[Qc (n:=k) (by omega)];refine Qe (v:=rowV d) (ld (row:=[rowV d]) rfl rfl) rfl (Yg (v:=iv d.length) (by simp[Xo]) ?_);refine Qg (j223 ((k+1:Nat):Int) d.length h) rfl g26.ok.plain rfl (Yg rfl (Qe (stv (row:=[iv k]) rfl rfl rfl rfl) rfl (XX (by kernel_rfl) ?_)));exact hK
def swp(L:List Int)(i j:Nat):List Int:=(L.set i ((L[j]?).getD 0)).set j ((L[i]?).getD 0)
theorem ZcC{L D:List Int}(h:SameCt L D){i j:Nat}(hi:i<L.length)(hj:j<L.length):SameCt (swp L i j) D:=by
 have e:swp L i j=(L.set i L[j]).set j L[i]:=by simp[swp,hi,hj]
 rw[e]; exact h.swap hi hj
def shufF(d:List Int):Nat→List Int→Int→List Int×Int
 |0,L,a=>(L,a)
 |i+1,L,a=>shufF d i (swp L (i+1) (modF (drwF d a).1 (i+2)).toNat) (drwF d a).2
theorem ZbZ{d D:List Int}(hd:d.length≤1000000000)(hD:D.length≤1000000000):∀(i:Nat) (L:List Int) (a:Int),SameCt L D→AtOk d a→(i=0∨i<L.length)→SameCt (shufF d i L a).1 D∧AtOk d (shufF d i L a).2
 |0,L,a,h1,h2,_=>⟨h1,h2⟩
 |i+1,L,a,h1,h2,h3=>by
  have hl:=h1.1;obtain⟨j,j1,j2⟩:=XaT (n:=i+2) (by omega) (by omega) (drwF d a).1;have hj:(modF (drwF d a).1 (i+2)).toNat<L.length:=by rw[j2]; simp; omega
  exact ZbZ hd hD i _ _ (ZcC h1 (by omega) hj) (ZbC hd h2) (by simp[swp]; omega)
def begF(d:List Int)(from_:Int):Int:=if d.length=0 then 0 else modF from_ d.length
theorem Xbz{d:List Int}(hd:d.length≤1000000000)(f:Int):AtOk d (begF d f):=by
 unfold begF;split
 ·exact AtOk.zero d
 ·obtain⟨j,j1,j2⟩:=XaT (n:=d.length) (by omega) (by omega) f;rw[j2]; exact AtOk.nat j1
def shuffle(deck d:List Int)(f:Int):List Int×Int:=shufF d (deck.length-1) deck (begF d f)
theorem ZE{deck d:List Int}(hk:deck.length≤1000000000)(hd:d.length≤1000000000)(f:Int):SameCt (shuffle deck d f).1 deck∧AtOk d (shuffle deck d f).2:=
 ZbZ hd hk _ _ _ ⟨rfl,λ_=>rfl⟩ (Xbz hd f) (by omega)
theorem j104(deck d:List Int)(hk:deck.length≤1000000000)(hd:d.length≤1000000000)(f:Int):PC 8 [rowV deck,rowV d,iv f] (.tup [rowV (shuffle deck d f).1,iv (shuffle deck d f).2]):=by
 refine Xm hP g8.ok rfl ?_;rw[H3.e]; unfold g8; dsimp only;refine Zd (v:=.bptr 0 0) rfl rfl (Zd (v:=.junk) (rd:=[]) (up:=[(0,.box [iv 0])]) rfl rfl ?_);refine Za (v:=iv d.length) (rd:=[]) (by simp[Xo]) (Za rfl ?_);refine Yh λkj hkj=>?_;have kk:kj [] [.box [iv (begF d f)]]:=by
  rw[hkj]; clear hkj kj;refine Qm hP rfl g27.ok rfl ?_;show g27.u VV [rowV d,.bptr 0 0] _ _;rw[H2.e]; unfold g27; dsimp only;refine Zd (v:=.bptr 1 0) rfl rfl (Zd (v:=.bptr 2 0) rfl rfl (Za rfl ?_));refine w185 hk ?_;show VV.rd (Xo [.sl 3 0 deck.length false] _) _;refine Za (v:=iv deck.length) (rd:=[]) rfl (Za (ZcJ ..) ?_);rw[wrapI (by omega) (by omega)];have hok:=ZE hk hd f;have hbeg:SameCt deck deck:=⟨rfl,λ_=>rfl⟩;refine Zg (ι:=Nat) (λi vs σ=>∃(L:List Int) (a:Int),vs=[iv (if i=0 then (deck.length:Int)-1-(deck.length-1:Nat) else i)]∧σ=[.box [iv a],.box [rowV d],.box [.bptr 0 0],.rows 1 (L.map cel)]∧SameCt L deck∧AtOk d a∧(i=0∨i<L.length)∧shufF d i L a=shuffle deck d f) (λi=>i) (deck.length-1) ⟨deck,begF d f,?_,rfl,hbeg,Xbz hd f,by omega,rfl⟩ ?_
  ·split
   ·rename_i h; rw[h]; simp
   ·congr 2; omega
  rintro i vs σ again ⟨L,a,rfl,rfl,hs,ha,hi,hF⟩ hag;cases i with
  |zero=>
   simp only[if_true];refine Za rfl (Zb (λh=>?_) (λ_=>?_))
   ·simp at h; omega
   refine Za (v:=iv a) (ld (row:=[iv a]) rfl rfl) ?_;rw[shufF] at hF;rw[←hF];exact⟨[3],Bor.tup (.cons (RI.own rfl (by simp) hs.1.symm) (.cons (Bor.ro rfl) .nil))⟩
  |succ i=>
   have hl:=hs.1;have hi2:i+1<L.length:=by omega
   rw[if_neg (by omega)];refine Za rfl (Zb (λ_=>?_) (λh=>by simp at h));refine drwW d hd ha ?_;refine Za (Yf ..) ?_;rw[Qc (n:=i+1) (by omega)];refine Xb (j223 _ (i+2) (by omega)) rfl g26.ok.plain rfl ?_;obtain⟨j,j1,j2⟩:=XaT (n:=i+2) (by omega) (by omega) (drwF d a).1;have hF':=hF;rw[shufF,j2] at hF';rw[j2];have hj:j<L.length:=by omega
   simp only[Int.toNat_natCast] at hF';have gj:(L.map cel)[j]?=some (cel L[j]):=by simp[hj]
   have gi:(L.map cel)[i+1]?=some (cel L[i+1]):=by simp[hi2]
   have ix:∀(M:List Int) (k:Nat),k<deck.length→Zj 1 [.sl 3 0 deck.length false,iv k] [.box [iv (drwF d a).2],.box [rowV d],.box [.bptr 0 0],.rows 1 (M.map cel)]=.ok (.ptr 3 k 0) [3] []:=by
    intro M k hk;have q:=YbC (σ:=[.box [iv (drwF d a).2],.box [rowV d],.box [.bptr 0 0],.rows 1 (M.map cel)]) 3 0 deck.length false 1 (M.map cel) .i64 k hk rfl
    rwa [Nat.zero_add] at q
   refine Qe (ix L j (by omega)) rfl (Qe (v:=iv L[j]) (ldp rfl gj rfl) rfl (Qe (ix L (i+1) (by omega)) rfl (Qe (v:=iv L[i+1]) (ldp rfl gi rfl) rfl (Qe (ix L (i+1) (by omega)) rfl ?_))));refine Qe (ZaK (L:=L) (m:=i+1) rfl hi2 L[j]) rfl (Qe (ix (L.set (i+1) L[j]) j (by omega)) rfl (Qe (ZaK (L:=L.set (i+1) L[j]) (m:=j) rfl (by simpa using hj) L[i+1]) rfl (XX (by kernel_rfl) ?_)));refine Za (ZcJ ..) ?_;rw[wrapI (by omega) (by omega)];have es:(L.set (i+1) L[j]).set j L[i+1]=swp L (i+1) j:=by simp[swp,hi2,hj]
   refine hag i _ _ (by omega) ⟨swp L (i+1) j,(drwF d a).2,?_,by rw[es],ZcC hs hi2 hj,ZbC hd ha,by simp[swp]; omega,hF'⟩
   congr 2
   split
   ·rename_i h; subst h; omega
   ·omega
 refine Zb (λh=>?_) (λh=>?_)
 ·have h:0<d.length:=by
   have:¬d.length=0:=by intro e; simp[e] at h
   omega
  refine Za (v:=iv d.length) (rd:=[]) (by simp[Xo]) (Xb (j223 f d.length h) rfl g26.ok.plain rfl (Zd (stv (row:=[iv 0]) rfl rfl rfl rfl) rfl ?_));have e:begF d f=modF f d.length:=by unfold begF; rw[if_neg (by omega)]
  rw[e] at kk;exact kk
 ·have h:d.length=0:=by simpa using h
  have e:begF d f=0:=by unfold begF; rw[if_pos h]
  rw[e] at kk;exact kk
end Go.Ah.Tz
end
section
namespace Go.Ah.Tz
open Go.Proofs.Tryz (prog)
theorem w19{s:St}(hs:StLe 1000000000 s){σ:List ABlk}{K:AVal→List ABlk→Prop}(hK:K (.agg (stO s σ.length)) (σ++stB s)):VV.call (.call 54) [stV s] σ K:=by
 refine Xap (c19 s hs) rfl g54.ok.plain rfl ?_;rw[Xcy,Ycy]; exact hK
end Go.Ah.Tz
end
section
namespace Go.Ah
open Go.Sort (Holds putRow grow putCells)
theorem XcG{row:List AVal}(h:row.all AVal.cell=true):cellsOf (.agg row)=some row:=by simp[cellsOf,h]
theorem YcR{row:List AVal}(h:row.all AVal.cell=true)(σ:List ABlk):YaA [.agg row] σ=.ok (.bptr σ.length 0) [] [(σ.length,.box row)]:=by rw[e_box,XcG h]
theorem Bor.more{h0:Hp}{rd rd':List Nat}{x y:AVal}(h:Bor h0 rd x y)(hs:∀b∈rd,b∈rd'):Bor h0 rd' x y:=
 λGL w0 L g h' w M2 r hM hrd v d=>h GL w0 L g h' w M2 r hM (λb hb=>hrd b (hs b hb)) v d
end Go.Ah
end
section
namespace Go.Ah.Tz
open Go.Proofs.Tryz (prog)
set_option maxRecDepth 100000
theorem w151{l:List Int}(hl:l.length≤1000000000){σ:List ABlk}{rd:List Nat}{v:AVal}(hb:RI σ rd v l){K:AVal→List ABlk→Prop}(hK:K (.sl σ.length 0 l.length false) (σ++[.rows 1 (l.map cel)])):VV.call (.call 94) [v] σ K:=by
 refine Ycb (c60 l hl) rfl g94.ok.plain (.cons hb .nil) rfl (by simp only[Xak,ABlk.nosh,Xbh,Bool.and_self]) ?_;simp only[Xp,List.map_cons,List.map_nil,ZP,AVal.ren,Zw,Nat.zero_add];exact hK
attribute [local irreducible] Ans.rd Ans.pu Ans.wr Ans.dr Ans.gr Ans.gw Ans.gl Ans.gd Ans.opt joinK W
set_option maxHeartbeats 8000000
theorem u218(b:Bk)(s:St)(hs:StLe 1000000 s)(hm:mayR (bkR b).1 b s true=true)(h67:PC 24 [bkV b] (.agg [iv (bkR b).1,iv (bkR b).2]))(k:Int)(h01:k=0∨k=1):PC 55 [bkV b,stV s,iv k] (resV (drawF s k)):=by
 have hs9:StLe 1000000000 s:=hs.mono (by decide);have hl0:=QaY.1 (Qbr hm);have hl1:=QaY.1 (Zbs hm);refine Xm hP g55.ok rfl ?_;rw[H3.e]; unfold g55; dsimp only;refine au ?_;refine Xb (c25 b s hs9 true _ _ h67) rfl g53.ok.plain rfl (Za rfl ?_);rw[hm];refine Xe (Za (XI ..) ?_);refine Ydf (v1:=iv k) (λ_=>rfl) (λ_=>Xab ..) ?_;rw[show (decide (k<0)||decide (k>1))=false by rcases h01 with rfl|rfl<;>rfl];refine Xe (Za (v:=stV s) (rd:=[1]) rfl (w19 hs9 ?_));rcases h01 with rfl|rfl
 rotate_left;obtain⟨tu,mo,ph,st,re,at_,ne,⟨l',m',o',d',h',g',u',t'⟩,⟨l,m,o,d,h,g,u,t⟩⟩:=s;obtain⟨ha,⟨p1,p2,p3,p4,p5⟩,⟨q1,q2,q3,q4,q5⟩⟩:=hs;have hl:=hl1;rotate_left;obtain⟨tu,mo,ph,st,re,at_,ne,⟨l,m,o,d,h,g,u,t⟩,⟨l',m',o',d',h',g',u',t'⟩⟩:=s;obtain⟨ha,⟨q1,q2,q3,q4,q5⟩,⟨p1,p2,p3,p4,p5⟩⟩:=hs;have hl:=hl0
 all_goals
  simp only at ha q1 q2 q3 q4 q5 p1 p2 p3 p4 p5 hl;refine au ?_;cases d with
  |nil=>
   refine au ?_;refine Xb (c116 _) rfl g96.ok.plain rfl ?_;refine au ?_;have e:IntKind.i64.wrap (l-1)=l-1:=wrapI (by omega) (by omega);refine Zb (λhw=>?_) (λhw=>?_)
   ·have hw:wIn (l-1)=false:=by rw[←e]; simpa using hw
    refine au ?_;refine⟨[],?_⟩;show Bor _ _ _ (resV (if wIn (l-1) then _ else (zSt,zEv,171)));rw[hw];exact resZ 171
   ·have hw:wIn (l-1)=true:=by rw[←e]; simpa using hw
    refine au ?_;show ∃rd,Bor _ rd _ (resV (if wIn (l-1) then (_,(⟨3,_,-1,0,0,0,[]⟩:Ev),0) else (zSt,zEv,171)));rw[hw,e];refine⟨List.range 40,resB (r:=(_,⟨3,_,-1,0,0,0,[]⟩,0)) ?_ (evB (e:=⟨3,_,-1,0,0,0,[]⟩) RI.nils)⟩;exact SB.lit rfl
  |cons c d2=>
   simp only[List.length_cons] at q1;refine au ?_;refine(Zcy (x:=c) (l:=d2) rfl).elim λrd e=>Za e ?_;clear e rd;refine w151 (rd:=[_]) (l:=d2) (by omega) (RI.tailV rfl (List.mem_singleton.2 rfl)) ?_;refine au ?_;refine Zb (λhw=>?_) (λhw=>?_)
   ·have hw:10≤h.length:=by simp at hw; omega
    refine au ?_;refine ZaX rfl rfl rfl (by first|omega|(dsimp only; omega)) ?_;refine au ?_;refine Zl 3 (Zf ?_);refine au ?_;refine ZaX rfl rfl rfl (by first|omega|(dsimp only; omega)) ?_;refine au ?_;refine ZaX rfl rfl rfl (by first|omega|(dsimp only; omega)) ?_;refine au ?_;show ∃rd,Bor _ rd _ (resV (if 10≤h.length then (_,(⟨4,_,c,0,0,0,[]⟩:Ev),0) else _));rw[if_pos hw];refine⟨List.range 40,resB (r:=(_,⟨4,_,c,0,0,0,[]⟩,0)) ?_ (evB (e:=⟨4,_,c,0,0,0,[]⟩) RI.nils)⟩;exact SB.lit rfl
   ·have hw:¬10≤h.length:=by simp at hw; omega
    refine au ?_;refine ZaX rfl rfl rfl (by first|omega|(dsimp only; omega)) ?_;refine au ?_;refine ZaX rfl rfl rfl (by first|omega|(dsimp only; omega)) ?_;refine au ?_;show ∃rd,Bor _ rd _ (resV (if 10≤h.length then _ else (_,(⟨3,_,c,0,0,0,[]⟩:Ev),0)));rw[if_neg hw];refine⟨List.range 40,resB (r:=(_,⟨3,_,c,0,0,0,[]⟩,0)) ?_ (evB (e:=⟨3,_,c,0,0,0,[]⟩) RI.nils)⟩;exact SB.lit rfl
end Go.Ah.Tz
end
section
namespace Go.Ah.Tz
open Go.Proofs.Tryz (prog)
attribute [local irreducible] Ans.rd Ans.pu Ans.wr Ans.dr Ans.gr Ans.gw Ans.gl Ans.gd Ans.opt joinK W
set_option maxHeartbeats 8000000
def runF(go:Int→Bool)(step:Nat→Int→Int):Nat→Nat→Int→Int
 |0,_,a=>a
 |k+1,i,a=>if go a=true then runF go step k (i+1) (step i a) else a
theorem ZaA{go:Int→Bool}{step:Nat→Int→Int}{n i:Nat}{a r:Int}(h:i<n)(hg:go a=true)(hr:runF go step (n-i) i a=r):runF go step (n-(i+1)) (i+1) (step i a)=r:=by
 rw[show n-i=n-(i+1)+1 by omega,runF,if_pos hg] at hr; exact hr
theorem Qai{go:Int→Bool}{step:Nat→Int→Int}{n i:Nat}{a r:Int}(h:¬i<n∨go a=false)(hr:runF go step (n-i) i a=r):a=r:=by
 cases k:n-i with
 |zero=>rw[k] at hr; exact hr
 |succ m=>
  rcases h with h|h
  ·omega
  ·rw[k,runF,if_neg (by rw[h]; simp)] at hr; exact hr
theorem c174(k:Nat):∀x:Nm,SizeOf.sizeOf x≤k→nmFit x=true→∃n,PC 31 [.agg (nmC x)] (iv n):=by
 induction k with
 |zero=>intro x h _; cases x; simp at h
 |succ k ih=>
  intro x hk hf;have hl:=Y5 hf;rw[bigE] at hl;have hF:∃F:Nat→Int,∀i (h:i<x.kids.length),PC 31 [.agg (nmC x.kids[i])] (iv (F i)):=by
   refine Classical.axiomOfChoice (r:=λ(i:Nat) (n:Int)=>∀(h:i<x.kids.length),PC 31 [.agg (nmC x.kids[i])] (iv n)) (λi=>?_);by_cases h:i<x.kids.length
   ·have hm:=List.getElem_mem h;obtain⟨n,hn⟩:=ih x.kids[i] (by have:=Qam hm; omega) (ZW hf hm);exact⟨n,λ_=>hn⟩
   ·exact⟨0,λh'=>(h h').elim⟩
  obtain⟨F,hF⟩:=hF;rw[Yx];generalize hr:runF (λ_=>true) (λi a=>min (IntKind.i64.wrap (a+F i)) 100000) (x.kids.length-0) 0 1=r;refine⟨r,Yc hP g31.ok rfl rfl ?_⟩;rw[H1.e]; unfold g31; dsimp only;refine Zd rfl rfl ?_;refine Zg (ι:=Nat) (λi vs σ=>(∃a,vs=[iv i,iv a]∧runF (λ_=>true) (λi a=>min (IntKind.i64.wrap (a+F i)) 100000) (x.kids.length-i) i a=r)∧hget σ 0=.box [iv8 x.op,iv x.n,iv8 x.who,.rsl false false 4 (x.kids.map nmC)]∧i≤x.kids.length) (λi=>x.kids.length-i) 0 ⟨⟨1,rfl,hr⟩,rfl,by omega⟩ ?_;rintro i vs σ again ⟨⟨a,rfl,hr⟩,hB,hi⟩ hag;refine Za rfl (Za (ld hB rfl) (Za (Ze ..) ?_));rw[List.length_map];refine Za (XI ..) (Zb (λh=>?_) (λh=>?_))
  ·have h:i<x.kids.length:=by simpa using h
   refine Za rfl (Za (ld hB rfl) (Za (Yk _ nmC false false 4 x.kids .i64 i h) (Za (v:=.agg (nmC x.kids[i])) (ldr (by rw[Yx]; rfl)) ?_)));refine Xb (hF i h) rfl g31.ok.plain (by rw[Yx]; rfl) (Za (Yf ..) (Za (Y4 ..) (Za (Yf ..) ?_)));rw[Qc (n:=i) (by omega)];exact hag (i+1) _ _ (by omega) ⟨⟨_,rfl,ZaA h rfl hr⟩,hB,by omega⟩
  ·exact congrArg iv (Qai (.inl (by simpa using h)) hr)
theorem c175(k:Nat):∀x:Cn,SizeOf.sizeOf x≤k→cnFit x=true→∃n,PC 32 [.agg (cnC x)] (iv n):=by
 induction k with
 |zero=>intro x h _; cases x; simp at h
 |succ k ih=>
  intro x hk hf;have hl1:=YM hf;have hl2:=ZM hf;rw[bigE] at hl1 hl2;have hF:∃F:Nat→Int,∀i (h:i<x.nums.length),PC 31 [.agg (nmC x.nums[i])] (iv (F i)):=by
   refine Classical.axiomOfChoice (r:=λ(i:Nat) (n:Int)=>∀(h:i<x.nums.length),PC 31 [.agg (nmC x.nums[i])] (iv n)) (λi=>?_);by_cases h:i<x.nums.length
   ·obtain⟨n,hn⟩:=c174 _ x.nums[i] (Nat.le_refl _) (XU hf (List.getElem_mem h));exact⟨n,λ_=>hn⟩
   ·exact⟨0,λh'=>(h h').elim⟩
  have hG:∃F:Nat→Int,∀i (h:i<x.kids.length),PC 32 [.agg (cnC x.kids[i])] (iv (F i)):=by
   refine Classical.axiomOfChoice (r:=λ(i:Nat) (n:Int)=>∀(h:i<x.kids.length),PC 32 [.agg (cnC x.kids[i])] (iv n)) (λi=>?_);by_cases h:i<x.kids.length
   ·have hm:=List.getElem_mem h;obtain⟨n,hn⟩:=ih x.kids[i] (by have:=Zam hm; omega) (YU hf hm);exact⟨n,λ_=>hn⟩
   ·exact⟨0,λh'=>(h h').elim⟩
  obtain⟨F,hF⟩:=hF;obtain⟨G,hG⟩:=hG;rw[QH];generalize hr:runF (λ_=>true) (λi a=>min (IntKind.i64.wrap (a+F i)) 100000) (x.nums.length-0) 0 1=r;generalize hr2:runF (λ_=>true) (λi a=>min (IntKind.i64.wrap (a+G i)) 100000) (x.kids.length-0) 0 r=r2;refine⟨r2,Yc hP g32.ok rfl rfl ?_⟩;rw[H1.e]; unfold g32; dsimp only;refine Zd rfl rfl ?_;refine Zg (ι:=Nat) (λi vs σ=>(∃a,vs=[iv i,iv a]∧runF (λ_=>true) (λi a=>min (IntKind.i64.wrap (a+F i)) 100000) (x.nums.length-i) i a=r)∧hget σ 0=.box [iv8 x.op,iv8 x.who,.str x.name,.rsl false false 4 (x.nums.map nmC),.rsl false false 5 (x.kids.map cnC)]∧i≤x.nums.length) (λi=>x.nums.length-i) 0 ⟨⟨1,rfl,hr⟩,rfl,by omega⟩ ?_;rintro i vs σ again ⟨⟨a,rfl,hr⟩,hB,hi⟩ hag;refine Za rfl (Za (ld hB rfl) (Za (Ze ..) ?_));rw[List.length_map];refine Za (XI ..) (Zb (λh=>?_) (λh=>?_))
  ·have h:i<x.nums.length:=by simpa using h
   refine Za rfl (Za (ld hB rfl) (Za (Yk _ nmC false false 4 x.nums .i64 i h) (Za (v:=.agg (nmC x.nums[i])) (ldr (by rw[Yx]; rfl)) ?_)));refine Xb (hF i h) rfl g31.ok.plain (by rw[Yx]; rfl) (Za (Yf ..) (Za (Y4 ..) (Za (Yf ..) ?_)));rw[Qc (n:=i) (by omega)];exact hag (i+1) _ _ (by omega) ⟨⟨_,rfl,ZaA h rfl hr⟩,hB,by omega⟩
  obtain rfl:=Qai (.inl (by simpa using h)) hr;clear hag again hr h hi;refine Zg (ι:=Nat) (λi vs σ=>(∃a,vs=[iv i,iv a]∧runF (λ_=>true) (λi a=>min (IntKind.i64.wrap (a+G i)) 100000) (x.kids.length-i) i a=r2)∧hget σ 0=.box [iv8 x.op,iv8 x.who,.str x.name,.rsl false false 4 (x.nums.map nmC),.rsl false false 5 (x.kids.map cnC)]∧i≤x.kids.length) (λi=>x.kids.length-i) 0 ⟨⟨_,rfl,hr2⟩,hB,by omega⟩ ?_;rintro i vs σ again ⟨⟨a,rfl,hr⟩,hB,hi⟩ hag;refine Za rfl (Za (ld hB rfl) (Za (Ze ..) ?_));rw[List.length_map];refine Za (XI ..) (Zb (λh=>?_) (λh=>?_))
  ·have h:i<x.kids.length:=by simpa using h
   refine Za rfl (Za (ld hB rfl) (Za (Yk _ cnC false false 5 x.kids .i64 i h) (Za (v:=.agg (cnC x.kids[i])) (ldr (by rw[QH]; rfl)) ?_)));refine Xb (hG i h) rfl g32.ok.plain (by rw[QH]; rfl) (Za (Yf ..) (Za (Y4 ..) (Za (Yf ..) ?_)));rw[Qc (n:=i) (by omega)];exact hag (i+1) _ _ (by omega) ⟨⟨_,rfl,ZaA h rfl hr⟩,hB,by omega⟩
  ·exact congrArg iv (Qai (.inl (by simpa using h)) hr)
theorem told{α:Type}(l:List α){Q:α→Int→Prop}(h:∀x∈l,∃n,Q x n):∃F:Nat→Int,∀i (h:i<l.length),Q l[i] (F i):=by
 refine Classical.axiomOfChoice (r:=λ(i:Nat) (n:Int)=>∀(h:i<l.length),Q l[i] n) (λi=>?_);by_cases hi:i<l.length
 ·obtain⟨n,hn⟩:=h l[i] (List.getElem_mem hi);exact⟨n,λ_=>hn⟩
 ·exact⟨0,λh'=>(hi h').elim⟩
theorem c135(k:Nat):∀l:List Ef,SizeOf.sizeOf l≤k→lsFit l=true→∃n,PC 15 [efV l] (iv n):=by
 induction k with
 |zero=>intro l h _; cases l<;>simp at h
 |succ k ih=>
  intro l hk hf;have hl:=Xz hf;rw[bigE] at hl;have hm:∀x∈l,efFit x=true∧SizeOf.sizeOf x<SizeOf.sizeOf l:=λx hx=>⟨by simp only[lsFit,Bool.and_eq_true] at hf; exact Yax hf.2 x hx,List.sizeOf_lt_of_mem hx⟩;obtain⟨F1,h1⟩:=told l (Q:=λx n=>PC 31 [.agg (nmC x.n)] (iv n)) (λx hx=>c174 _ x.n (Nat.le_refl _) (Z8 (hm x hx).1));obtain⟨F2,h2⟩:=told l (Q:=λx n=>PC 32 [.agg (cnC x.c)] (iv n)) (λx hx=>c175 _ x.c (Nat.le_refl _) (X0 (hm x hx).1));obtain⟨F3,h3⟩:=told l (Q:=λx n=>PC 15 [efV x.thn] (iv n)) (λx hx=>ih x.thn (by grind [XY]) (YJ (hm x hx).1));obtain⟨F4,h4⟩:=told l (Q:=λx n=>PC 15 [efV x.els] (iv n)) (λx hx=>ih x.els (by grind [XY]) (ZJ (hm x hx).1))
  let st:Nat→Int→Int:=λi a=>IntKind.i64.wrap (IntKind.i64.wrap (IntKind.i64.wrap (IntKind.i64.wrap (a+F1 i)+F2 i)+F3 i)+F4 i)
  generalize hr:runF (λa=>decide (a<100000)) st (l.length-0) 0 l.length=r;refine⟨min r 100000,Yc hP g15.ok rfl rfl ?_⟩;rw[H1.e]; unfold g15; dsimp only;refine Za (Ze ..) ?_;rw[List.length_map];refine Zg (ι:=Nat) (λi vs σ=>(∃a,vs=[iv i,iv a]∧runF (λa=>decide (a<100000)) st (l.length-i) i a=r)∧i≤l.length) (λi=>l.length-i) 0 ⟨⟨_,rfl,hr⟩,by omega⟩ ?_;rintro i vs σ again ⟨⟨a,rfl,hr⟩,hi⟩ hag;refine Za (Ze ..) ?_;rw[List.length_map];refine Za (XI ..) (Qcy (λ_=>rfl) (λ_=>XI ..) (Zb (λh=>?_) (λh=>?_)))
  ·simp only[Bool.and_eq_true,decide_eq_true_eq] at h;obtain⟨h,hlt⟩:=h;have h:i<l.length:=by omega
   have hix:=λσ=>Yk σ efC false false 14 l .i64 i h
   replace h1:=h1 i h
   replace h2:=h2 i h
   replace h3:=h3 i h
   replace h4:=h4 i h
   have hR:=ZaA h (decide_eq_true hlt) hr;generalize l[i]=x at hix h1 h2 h3 h4;refine Qe (hix _) (Qj _) (Yg rfl (Qe (ldr (efLdN x)) (Qj _) (Qg h1 rfl g31.ok.plain (by rw[Yx]; rfl) (Yg (Yf ..) ?_))));refine Qe (hix _) (Qj _) (Yg rfl (Qe (ldr (efLdC x)) (Qj _) (Qg h2 rfl g32.ok.plain (by rw[QH]; rfl) (Yg (Yf ..) ?_))));refine Qe (hix _) (Qj _) (Yg rfl (Qe (ldr (Ql x)) (Qj _) (Qg h3 rfl g15.ok.plain rfl (Yg (Yf ..) ?_))));refine Qe (hix _) (Qj _) (Yg rfl (Qe (ldr (Zm x)) (Qj _) (Qg h4 rfl g15.ok.plain rfl (Yg (Yf ..) (XX (ZT (by simp[allRd])) ?_)))));refine Za (Yf ..) ?_;rw[Qc (n:=i) (by omega)]
   grind
  ·refine Za (Y4 ..) (congrArg iv ?_);rw[Qai (a:=a) ?_ hr]
   grind
theorem c133(b:Bk)(hf:bkFit b=true):∃q:Bool,PC 13 [bkV b] (.bool q):=by
 simp only[bkFit,QT,Bool.and_eq_true,decide_eq_true_eq] at hf;obtain⟨⟨f0,f3⟩,f1,f2⟩:=hf;rw[bigE] at f0 f1;have hm:∀x∈b.cards,lsFit x.played=true∧lsFit x.dead=true∧lsFit x.dawn=true:=λx hx=>by
  simp_all [cdFit]
 obtain⟨F1,h1⟩:=told b.cards (Q:=λx n=>PC 15 [efV x.played] (iv n)) (λx hx=>c135 _ _ (Nat.le_refl _) (hm x hx).1);obtain⟨F2,h2⟩:=told b.cards (Q:=λx n=>PC 15 [efV x.dead] (iv n)) (λx hx=>c135 _ _ (Nat.le_refl _) (hm x hx).2.1);obtain⟨F3,h3⟩:=told b.cards (Q:=λx n=>PC 15 [efV x.dawn] (iv n)) (λx hx=>c135 _ _ (Nat.le_refl _) (hm x hx).2.2)
 let st:Nat→Int→Int:=λi a=>IntKind.i64.wrap (IntKind.i64.wrap (IntKind.i64.wrap (a+F1 i)+F2 i)+F3 i)
 let st2:Nat→Int→Int:=λi a=>IntKind.i64.wrap (IntKind.i64.wrap (a+((b.formats[i]?).map λf=>(f.banned.length:Int)).getD 0)+((b.formats[i]?).map λf=>(f.single.length:Int)).getD 0)
 generalize hr:runF (λa=>decide (a≤6000)) st (b.cards.length-0) 0 (IntKind.i64.wrap (b.cards.length+b.formats.length))=r;generalize hr2:runF (λa=>decide (a≤6000)) st2 (b.formats.length-0) 0 r=r2;refine⟨decide (r2>6000),Yc hP g13.ok rfl rfl ?_⟩;rw[H1.e]; unfold g13; dsimp only;refine Zd (v:=.bptr 0 0) (rd:=[]) (up:=[(0,.box (bkC b))]) rfl rfl ?_;have lc:∀σ,Xo [cdV b.cards] σ=.ok (iv b.cards.length) [] []:=λσ=>by rw[Ze,List.length_map]
 have lf:∀σ,Xo [foV b.formats] σ=.ok (iv b.formats.length) [] []:=λσ=>by rw[Ze,List.length_map]
 refine Za rfl (Za rfl (Za (lc _) (Za rfl (Za rfl (Za (lf _) (Za (Yf ..) ?_))))));refine Zg (ι:=Nat) (λi vs σ=>(∃a,vs=[iv i,iv a]∧runF (λa=>decide (a≤6000)) st (b.cards.length-i) i a=r)∧hget σ 0=.box (bkC b)∧i≤b.cards.length) (λi=>b.cards.length-i) 0 ⟨⟨_,rfl,hr⟩,rfl,by omega⟩ ?_;rintro i vs σ again ⟨⟨a,rfl,hr⟩,hB,hi⟩ hag;refine Za rfl (Za (ld hB rfl) (Za (lc _) (Za (XI ..) (Qcy (λ_=>rfl) (λ_=>Zcl ..) (Zb (λh=>?_) (λh=>?_))))))
 ·simp only[Bool.and_eq_true,decide_eq_true_eq] at h;obtain⟨h,hlt⟩:=h;have h:i<b.cards.length:=by omega
  have hix:=Yk σ cdC false false 12 b.cards .i64 i h
  replace h1:=h1 i h
  replace h2:=h2 i h
  replace h3:=h3 i h
  have hR:=ZaA h (decide_eq_true hlt) hr;generalize b.cards[i]=x at hix h1 h2 h3;refine Za rfl (Za (ld hB rfl) (Za hix (Za (ldr (cdLd x)) (Zy (row:=cdC x) (row':=cdC x) rfl rfl rfl ?_))));have hx:=Qi σ (.box (cdC x));refine Yg rfl (Qe (ld hx rfl) (Qj _) (Qg h1 rfl g15.ok.plain rfl (Yg (Yf ..) ?_)));refine Yg rfl (Qe (ld hx rfl) (Qj _) (Qg h2 rfl g15.ok.plain rfl (Yg (Yf ..) ?_)));refine Yg rfl (Qe (ld hx rfl) (Qj _) (Qg h3 rfl g15.ok.plain rfl (Yg (Yf ..) (XX (ZT (by simp[allRd])) ?_))));refine Za (Yf ..) ?_;rw[Qc (n:=i) (by omega)];exact hag (i+1) _ _ (by omega) ⟨⟨_,rfl,hR⟩,Xj _ hB (by simp),by omega⟩
 obtain rfl:=Qai (a:=a) (by
  grind) hr
 clear hag again hr h hi;refine Zg (ι:=Nat) (λi vs σ=>(∃a,vs=[iv i,iv a]∧runF (λa=>decide (a≤6000)) st2 (b.formats.length-i) i a=r2)∧hget σ 0=.box (bkC b)∧i≤b.formats.length) (λi=>b.formats.length-i) 0 ⟨⟨_,rfl,hr2⟩,hB,by omega⟩ ?_;rintro i vs σ again ⟨⟨a,rfl,hr⟩,hB,hi⟩ hag;refine Za rfl (Za (ld hB rfl) (Za (lf _) (Za (XI ..) (Qcy (λ_=>rfl) (λ_=>Zcl ..) (Zb (λh=>?_) (λh=>?_))))))
 ·simp only[Bool.and_eq_true,decide_eq_true_eq] at h;obtain⟨h,hlt⟩:=h;have h:i<b.formats.length:=by omega
  have hix:=Yk σ foC false false 7 b.formats .i64 i h;have hR:=ZaA h (decide_eq_true hlt) hr;have e:b.formats[i]?=some b.formats[i]:=by simp[h]
  simp only[st2,e,Option.map_some,Option.getD_some] at hR;generalize b.formats[i]=f at hix hR;refine Za rfl (Za (ld hB rfl) (Za hix (Za rfl (Za (v:=txV f.banned) (rd:=[]) (ldr rfl) (Za (v:=iv f.banned.length) (rd:=[]) (by simp[Ze]) (Za (Yf ..) ?_))))));refine Za rfl (Za (ld hB rfl) (Za hix (Za rfl (Za (v:=txV f.single) (rd:=[]) (ldr rfl) (Za (v:=iv f.single.length) (rd:=[]) (by simp[Ze]) (Za (Yf ..) ?_))))));refine Za (Yf ..) ?_;rw[Qc (n:=i) (by omega)]
  grind
 obtain rfl:=Qai (a:=a) (by
  grind) hr
 exact Za (Xab ..) rfl
end Go.Ah.Tz
end
section
namespace Go.Ah.Tz
open Go.Proofs.Tryz (prog)
abbrev Qc7(x:St)(g0 g1:Nat):List AVal:=[iv x.turn,iv x.mover,iv8 x.phase,.bool x.struck,iv8 x.result,.sl 3 0 x.attack.length false,iv x.next,iv x.s0.life,iv x.s0.mana,iv x.s0.most,.sl 4 0 x.s0.deck.length false,.sl 5 0 x.s0.hand.length false,.sl g0 0 x.s0.grave.length false,.sl 7 0 x.s0.units.length false,.sl 8 0 x.s0.told.length false,iv x.s1.life,iv x.s1.mana,iv x.s1.most,.sl 9 0 x.s1.deck.length false,.sl 10 0 x.s1.hand.length false,.sl g1 0 x.s1.grave.length false,.sl 12 0 x.s1.units.length false,.sl 13 0 x.s1.told.length false]
def evN(e:Ev):List AVal:=[iv8 e.kind,iv e.side,iv e.card,iv e.id,iv e.other,iv e.n,.nils]
def Agr(τ τ':List ABlk)(ex:List Nat):Prop:=τ.length≤τ'.length∧∀c,c<τ.length→c∉ex→hget τ' c=hget τ c
theorem Agr.app(τ l:List ABlk):Agr τ (τ++l) []:=⟨by simp,λc hc _=>QG l hc⟩
theorem Agr.set(τ:List ABlk)(b:Nat)(x:ABlk):Agr τ (τ.set b x) [b]:=⟨by simp,λc hc h=>Zo x hc (by simpa using h)⟩
theorem Agr.trans{a b c:List ABlk}{e f:List Nat}(h:Agr a b e)(k:Agr b c f):Agr a c (e++f):=
 ⟨Nat.le_trans h.1 k.1,λx hx hn=>by
  rw[List.mem_append,not_or] at hn;rw[k.2 x (Nat.lt_of_lt_of_le hx h.1) hn.2,h.2 x hx hn.1]⟩
theorem Agr.get{a b:List ABlk}{e:List Nat}(h:Agr a b e){c:Nat}{x:ABlk}(hx:hget a c=x)(hd:x≠.dead)(hn:c∉e):hget b c=x:=by
 rw[h.2 c (Qn hx hd) hn]; exact hx
structure BMem (b:Bk) (s x:St) (g0 g1:Nat) (τ:List ABlk):Prop where
 k0:hget τ 0=.box (bkC b)
 k1:hget τ 1=.box (stC s)
 k2:hget τ 2=.box zStC
 mv:hget τ 14=.box (.bptr 0 0::Qc7 x g0 g1)
 at_:∃r,hget τ 3=.rows 1 ((x.attack++r).map cel)
 r4:hget τ 4=.rows 1 (x.s0.deck.map cel)
 r5:hget τ 5=.rows 1 (x.s0.hand.map cel)
 gr0:hget τ g0=.rows 1 (x.s0.grave.map cel)
 r7:∃r,hget τ 7=.rows 4 ((x.s0.units++r).map thC)
 r8:hget τ 8=.rows 1 (x.s0.told.map cel)
 r9:hget τ 9=.rows 1 (x.s1.deck.map cel)
 r10:hget τ 10=.rows 1 (x.s1.hand.map cel)
 gr1:hget τ g1=.rows 1 (x.s1.grave.map cel)
 r12:∃r,hget τ 12=.rows 4 ((x.s1.units++r).map thC)
 r13:hget τ 13=.rows 1 (x.s1.told.map cel)
 n0:g0=6∨15≤g0
 n1:g1=11∨15≤g1
 ne:g0≠g1
def OutV(g0 g1:Nat)(τ:List ABlk)(v:AVal)(evs:List Ev):Prop:=(evs=[]∧v=.nils)∨(evs≠[]∧∃bo,15≤bo∧bo≠g0∧bo≠g1∧v=.sl bo 0 evs.length false∧hget τ bo=.rows 7 (evs.map evN))
theorem BMem.more{b:Bk}{s x:St}{g0 g1:Nat}{τ:List ABlk}(h:BMem b s x g0 g1 τ)(l:List ABlk):BMem b s x g0 g1 (τ++l):=by
 have A:=Agr.app τ l;obtain⟨r,ha⟩:=h.at_;obtain⟨r7,h7⟩:=h.r7;obtain⟨r12,h12⟩:=h.r12;exact⟨A.get h.k0 (by simp) (by simp),A.get h.k1 (by simp) (by simp),A.get h.k2 (by simp) (by simp),A.get h.mv (by simp) (by simp),⟨r,A.get ha (by simp) (by simp)⟩,A.get h.r4 (by simp) (by simp),A.get h.r5 (by simp) (by simp),A.get h.gr0 (by simp) (by simp),⟨r7,A.get h7 (by simp) (by simp)⟩,A.get h.r8 (by simp) (by simp),A.get h.r9 (by simp) (by simp),A.get h.r10 (by simp) (by simp),A.get h.gr1 (by simp) (by simp),⟨r12,A.get h12 (by simp) (by simp)⟩,A.get h.r13 (by simp) (by simp),h.n0,h.n1,h.ne⟩
theorem OutV.more{g0 g1:Nat}{τ:List ABlk}{v:AVal}{evs:List Ev}(h:OutV g0 g1 τ v evs)(l:List ABlk):OutV g0 g1 (τ++l) v evs:=by
 rcases h with h|⟨h1,bo,q1,q2,q3,q4,q5⟩
 ·exact .inl h
 ·exact .inr ⟨h1,bo,q1,q2,q3,q4,Xj l q5 (by simp)⟩
end Go.Ah.Tz
end
section
namespace Go.Ah.Tz
theorem Qy{n:Nat}{l:List Int}{most:Int}:Xi n l most=true↔(l.length:Int)≤most∧∀c∈l,0≤c∧c<n:=by
 simp[Xi,List.all_eq_true]
structure SideP (b:Bk) (x:Sd):Prop where
 life:wIn x.life=true
 mana:0≤x.mana∧wIn x.mana=true
 most:0≤x.most∧x.most≤10
 deck:Xi b.cards.length x.deck 60=true
 hand:Xi b.cards.length x.hand 10=true
 grave:Xi b.cards.length x.grave 1000000=true
 told:Xi b.cards.length x.told 1000000=true
 units:x.units.length≤7
theorem Qcx{b:Bk}{x:Sd}:Qh b.cards.length x=true↔SideP b x:=by
 simp only[Qh,Bool.and_eq_true,decide_eq_true_eq];constructor
 ·rintro⟨h1,h2,h3,h4,h5,h6,h7,h8,h9,h10⟩;exact⟨h1,⟨h2,h3⟩,⟨h4,h5⟩,h6,h7,h8,h9,by omega⟩
 ·rintro⟨h1,⟨h2,h3⟩,⟨h4,h5⟩,h6,h7,h8,h9,h10⟩;exact⟨h1,h2,h3,h4,h5,h6,h7,h8,h9,by omega⟩
theorem Yao{b:Bk}{next:Int}:∀ {l:List Th} {ids:List Int},Zn b next ids l=true↔(∀u∈l,Yq b next u=true)∧(l.map Th.id).Nodup∧∀u∈l,u.id∉ids
 |[],ids=>by simp[Zn]
 |u::l,ids=>by
  simp only[Zn,Bool.and_eq_true,Yao (l:=l),Bool.not_eq_true',List.map_cons,List.nodup_cons,List.mem_cons,forall_eq_or_imp,List.mem_append,not_or];have hc:ids.contains u.id=false↔u.id∉ids:=by simp
  rw[hc];constructor
  ·rintro⟨h1,h2,h3,h4,h5⟩;refine⟨⟨h1,h3⟩,⟨?_,h4⟩,h2,λv hv=>(h5 v hv).1⟩;intro hm;obtain⟨v,hv,e⟩:=List.mem_map.1 hm;exact(h5 v hv).2.1 e
  ·rintro⟨⟨h1,h3⟩,⟨h6,h4⟩,h2,h5⟩;exact⟨h1,h2,h3,h4,λv hv=>⟨h5 v hv,λe=>h6 (List.mem_map.2 ⟨v,hv,e⟩),by simp⟩⟩
def UnP(b:Bk)(s:St):Prop:=(∀u∈s.s0.units++s.s1.units,Yq b s.next u=true)∧((s.s0.units++s.s1.units).map Th.id).Nodup
theorem XcE{b:Bk}{s:St}:(Zn b s.next [] s.s0.units=true∧Zn b s.next (s.s0.units.map Th.id) s.s1.units=true)↔UnP b s:=by
 rw[Yao,Yao,UnP,List.map_append,List.nodup_append];constructor
 ·rintro⟨⟨h1,h2,_⟩,h3,h4,h5⟩;refine⟨λu hu=>?_,h2,h4,λa ha c hc e=>?_⟩
  ·rcases List.mem_append.1 hu with hu|hu
   ·exact h1 u hu
   ·exact h3 u hu
  ·subst e;obtain⟨v,hv,rfl⟩:=List.mem_map.1 hc;exact h5 v hv ha
 ·rintro⟨h1,h2,h3,h4⟩;refine⟨⟨λu hu=>h1 u (List.mem_append_left _ hu),h2,by simp⟩,λu hu=>h1 u (List.mem_append_right _ hu),h3,λu hu hm=>h4 _ hm _ (List.mem_map.2 ⟨u,hu,rfl⟩) rfl⟩
theorem QaN{s:St}:∀ {l prev:List Int},attOk s prev l=true↔(∀a∈l,(unitR s a).2.2=true∧(unitR s a).1=s.mover)∧l.Nodup∧∀a∈l,a∉prev
 |[],prev=>by simp[attOk]
 |a::l,prev=>by
  simp only[attOk,Bool.and_eq_true,QaN (l:=l),decide_eq_true_eq,Bool.not_eq_true',List.nodup_cons,List.mem_cons,forall_eq_or_imp,List.mem_append,not_or];have hc:prev.contains a=false↔a∉prev:=by simp
  rw[hc];constructor
  ·rintro⟨h1,h2,h3,h4,h5⟩;exact⟨⟨h1,h3⟩,⟨λhm=>(h5 a hm).2.1 rfl,h4⟩,h2,λc hc=>(h5 c hc).1⟩
  ·rintro⟨⟨h1,h3⟩,⟨h6,h4⟩,h2,h5⟩;exact⟨h1,h2,h3,h4,λc hc=>⟨h5 c hc,λe=>h6 (e▸hc),by simp⟩⟩
def AtP(s:St):Prop:=(s.phase≠1→s.attack=[])∧(s.phase=1→s.struck=true∧s.attack.length≤7∧s.attack.Nodup∧∀a∈s.attack,(unitR s a).2.2=true∧(unitR s a).1=s.mover)
def HdP(s:St):Prop:=1≤s.turn∧s.turn≤4096∧0≤s.mover∧s.mover≤1∧0≤s.phase∧s.phase≤2∧0≤s.result∧s.result≤3∧((s.result==0)==(s.phase != 2))=true∧1≤s.next∧s.next≤1000000
structure MayP (b:Bk) (s:St):Prop where
 hd:HdP s
 s0:SideP b s.s0
 s1:SideP b s.s1
 un:UnP b s
 at_:AtP s
theorem Q0{e:Int}{b:Bk}{s:St}:mayR e b s true=true↔e=0∧MayP b s:=by
 simp only[mayR,Qp,Bool.and_eq_true,decide_eq_true_eq,Qcx];constructor
 ·rintro⟨h1,h2,h3,h4,h5,h6,h7,h8,h9,h10,h11,h12,⟨k1,k2,k3,k4⟩,h14⟩;refine⟨h1,⟨h2,h3,h4,h5,h6,h7,h8,h9,h10,h11,h12⟩,k1,k3,XcE.1 ⟨k2,k4⟩,?_,?_⟩
  ·intro hp;rw[if_pos hp] at h14;exact List.length_eq_zero_iff.1 (of_decide_eq_true h14)
  ·intro hp;rw[if_neg (by simpa using hp)] at h14;simp only[Bool.and_eq_true,decide_eq_true_eq] at h14;obtain⟨_,q1,q2,q3⟩:=h14;obtain⟨r1,r2,_⟩:=QaN.1 q3;exact⟨q1,by omega,r2,r1⟩
 ·rintro⟨h1,⟨h2,h3,h4,h5,h6,h7,h8,h9,h10,h11,h12⟩,k1,k3,hu,ha1,ha2⟩;obtain⟨k2,k4⟩:=XcE.2 hu;refine⟨h1,h2,h3,h4,h5,h6,h7,h8,h9,h10,h11,h12,⟨k1,k2,k3,k4⟩,?_⟩;by_cases hp:s.phase≠1
  ·rw[if_pos hp,ha1 hp]; rfl
  ·rw[if_neg hp];obtain⟨q1,q2,q3,q4⟩:=ha2 (by simpa using hp);simp only[Bool.and_eq_true,decide_eq_true_eq];exact⟨by simp,q1,by omega,QaN.2 ⟨q4,q3,by simp⟩⟩
end Go.Ah.Tz
end
section
namespace Go.Ah.Tz
open Go.Proofs.Tryz (prog)
attribute [local irreducible] Ans.rd Ans.pu Ans.wr Ans.dr Ans.gr Ans.gw Ans.gl Ans.gd Ans.opt joinK W
set_option maxHeartbeats 4000000
theorem c55(b:Bk)(hf:bkFit b=true)(hsm:Zu b.cards)(s:St)(hs:StLe 1000000000 s):PC 58 [bkV b,stV s] (iv (bif mayR (bkR b).1 b s false then 0 else 170)):=by
 refine Yc hP g58.ok rfl rfl ?_;rw[H2.e]; unfold g58; dsimp only;refine Zd (v:=.bptr 0 0) (rd:=[]) (up:=[(0,.box (bkC b))]) rfl rfl ?_;refine Zd (v:=.bptr 1 0) (rd:=[]) (up:=[(1,.box (stC s))]) rfl rfl ?_;refine Yap (rd:=[0,1]) (c111 b hf hsm s hs false) rfl g102.ok.plain (.cons (Bor.box (row:=bkC b) rfl (by simp) (BorL.ro rfl)) <| .cons (Bor.box (row:=stC s) rfl (by simp) (BorL.ro rfl)) <| .cons (Bor.ro rfl) .nil) rfl ?_;generalize mayR (bkR b).1 b s false=q;cases q with
 |true=>exact Za rfl (Xe rfl)
 |false=>exact Za rfl (Xc rfl)
end Go.Ah.Tz
end
section
namespace Go.Ah.Tz
open Go.Proofs.Tryz (prog)
attribute [local irreducible] Ans.rd Ans.pu Ans.wr Ans.dr Ans.gr Ans.gw Ans.gl Ans.gd Ans.opt joinK W
set_option maxHeartbeats 8000000
def sameN(a b:Ev):Bool:=((((decide (a.kind=b.kind)&&decide (a.side=b.side))&&decide (a.card=b.card))&&decide (a.id=b.id))&&decide (a.other=b.other))&&decide (a.n=b.n)
theorem c99(a b:Ev){x y:AVal}(hx:x.cell=true)(hy:y.cell=true)(hr:x.ro=true)(hr2:y.ro=true){q:Bool}(h62:∀(σ:List ABlk) (k:AVal→List ABlk→Prop),k (.bool q) σ→VV.call (.call 28) [x,y] σ k) :
  PC 30 [.agg [iv8 a.kind,iv a.side,iv a.card,iv a.id,iv a.other,iv a.n,x],.agg [iv8 b.kind,iv b.side,iv b.card,iv b.id,iv b.other,iv b.n,y]] (.bool (sameN a b&&q)):=by
 refine Yc hP g30.ok rfl rfl ?_;rw[H2.e]; unfold g30; dsimp only;have h0:hget ([]++[ABlk.box [iv8 a.kind,iv a.side,iv a.card,iv a.id,iv a.other,iv a.n,x]]++[ABlk.box [iv8 b.kind,iv b.side,iv b.card,iv b.id,iv b.other,iv b.n,y]]) 0=.box [iv8 a.kind,iv a.side,iv a.card,iv a.id,iv a.other,iv a.n,x]:=rfl;have h1:hget ([]++[ABlk.box [iv8 a.kind,iv a.side,iv a.card,iv a.id,iv a.other,iv a.n,x]]++[ABlk.box [iv8 b.kind,iv b.side,iv b.card,iv b.id,iv b.other,iv b.n,y]]) 1=.box [iv8 b.kind,iv b.side,iv b.card,iv b.id,iv b.other,iv b.n,y]:=rfl;have hcl:∀(e:Ev) {z:AVal},z.cell=true→[iv8 e.kind,iv e.side,iv e.card,iv e.id,iv e.other,iv e.n,z].all AVal.cell=true:=λe z hz=>by
  show (true&&(true&&(true&&(true&&(true&&(true&&(z.cell&&true)))))))=true;rw[hz]; rfl
 refine Zd (YcR (hcl a hx) []) (QE _ _) ?_;refine Zd (YcR (hcl b hy) _) (QE _ _) ?_;refine Za rfl (Za rfl (Za rfl (Za rfl (Za (Yd ..) ?_))));refine Ybx (λ_=>rfl) (λ_=>rfl) (λ_=>rfl) (λ_=>rfl) (λ_=>Yd ..) ?_;refine Ybx (λ_=>rfl) (λ_=>rfl) (λ_=>rfl) (λ_=>rfl) (λ_=>Yd ..) ?_;refine Ybx (λ_=>rfl) (λ_=>rfl) (λ_=>rfl) (λ_=>rfl) (λ_=>Yd ..) ?_;refine Ybx (λ_=>rfl) (λ_=>rfl) (λ_=>rfl) (λ_=>rfl) (λ_=>Yd ..) ?_;refine Ybx (λ_=>rfl) (λ_=>rfl) (λ_=>rfl) (λ_=>rfl) (λ_=>Yd ..) ?_;exact Zcz (v2:=x) (v4:=y) (λ_=>rfl) (λ_=>rfl) (λ_=>rfl) (λ_=>rfl) (λ_ k hk=>h62 _ _ hk) rfl
theorem Xa8(a:Ev):sameN a a=true:=by simp[sameN]
theorem c47{rows:List (List AVal)}(hl:rows.length≤1000000000)(h:∀r∈rows,r.length=7∧roL r=true∧PC 30 [.agg r,.agg r] (.bool true)):PC 11 [.rsl false false 7 rows,.rsl false false 7 rows] (.bool true):=by
 refine Yc hP g11.ok rfl rfl ?_;rw[H2.e]; unfold g11; dsimp only;refine Za (Ze ..) (Za (Ze ..) (Za (QaG ..) ?_));rw[decide_eq_false (show ¬((rows.length:Int)≠rows.length) by simp)];refine Xe ?_;refine Zg (ι:=Nat) (λi vs _=>vs=[iv i]∧i≤rows.length) (λi=>rows.length-i) 0 ⟨rfl,by omega⟩ ?_;rintro i vs σ again ⟨rfl,hi⟩ hag;refine Za (Ze ..) (Za (XI ..) (Zb (λhlt=>?_) (λ_=>rfl)));have hlt:i<rows.length:=by simpa using hlt
 obtain⟨q1,q2,q3⟩:=h rows[i] (List.getElem_mem hlt);have hix:=Xc9 σ false false 7 rows .i64 i rows[i] (by simp[hlt]);generalize rows[i]=r at hix q1 q2 q3;have hp:partA true 0 7 r=some (.agg r):=by
  match r,q1 with
  |[a,b,c,d,e,f,g],_=>rfl
 refine Qe hix (Qj _) (Qe (ldr hp) (Qj _) (Qe hix (Qj _) (Qe (ldr hp) (Qj _) ?_)));refine Qg q3 rfl g30.ok.plain (by simp[roL,AVal.ro,q2]) (Yg rfl (XX (ZT (by simp[allRd])) (Xe (Za (Yf ..) ?_))));rw[Qc (n:=i) (by omega)];exact hag (i+1) _ _ (by omega) ⟨rfl,by omega⟩
end Go.Ah.Tz
end
section
namespace Go.Ah.Tz
open Go.Proofs.Tryz (prog)
def QcT(s:St)(side:Int):Sd:=if side=0 then s.s0 else s.s1
structure CP (τ:List ABlk) (n:Nat) (t:St):Prop where
 box:hget τ (n+11)=.box (stO t n)
 key:∀i x,(stB t)[i]?=some x→hget τ (n+i)=x
def ubk(side:Int):Nat:=if side=0 then 4 else 9
def uof(side:Int):Nat:=if side=0 then 7 else 15
theorem CP.units{τ:List ABlk}{n:Nat}{t:St}(h:CP τ n t){side:Int}(hs:side=0∨side=1):hget τ (n+ubk side)=.rows 4 ((QcT t side).units.map thC)∧(∀σ,Zr 2 8 [.bptr (n+11) (0+7),iv side] σ=.ok (.bptr (n+11) (uof side)) [] []) ∧
  partA false (uof side+6) 1 (stO t n)=some (.sl (n+ubk side) 0 (QcT t side).units.length false):=by
 rcases hs with rfl|rfl
 ·exact⟨h.key 4 _ rfl,λ_=>rfl,rfl⟩
 ·exact⟨h.key 9 _ rfl,λ_=>rfl,rfl⟩
end Go.Ah.Tz
end
section
namespace Go.Ah.Tz
def Yy(s:St):Int:=((s.s0.deck.length:Int)+s.s0.hand.length+s.s0.grave.length+s.s0.units.length)+(s.s1.deck.length+s.s1.hand.length+s.s1.grave.length+s.s1.units.length)
theorem XaC{n:Nat}{c:Int}{l:List Int}{most:Int}(h:Xi n (c::l) most=true):Xi n l most=true∧0≤c∧c<n:=by
 rw[Qy] at h ⊢;obtain⟨h1,h2⟩:=h;simp only[List.length_cons] at h1;exact⟨⟨by omega,λx hx=>h2 x (List.mem_cons_of_mem _ hx)⟩,h2 c (List.mem_cons_self ..)⟩
theorem YaC{n:Nat}{c:Int}{l:List Int}{most:Int}(h:Xi n l most=true)(hc:0≤c∧c<n)(hl:(l.length:Int)+1≤most):Xi n (l++[c]) most=true:=by
 grind [Qy]
theorem Zcn{l:List Th}{a:Int}:fnd l a=none↔a∉l.map Th.id:=by
 simp[fnd]
def InS(s:St)(a k:Int):Prop:=(unitR s a).2.2=true∧(unitR s a).1=k
theorem inS0{s:St}{a:Int}:InS s a 0↔a∈s.s0.units.map Th.id:=by
 grind [InS,unitR,fnd]
theorem inS1{s:St}{a:Int}:InS s a 1↔a∉s.s0.units.map Th.id∧a∈s.s1.units.map Th.id:=by
 unfold InS unitR;have h:=Zcn (l:=s.s0.units) (a:=a);have h1:=Zcn (l:=s.s1.units) (a:=a)
 grind
theorem Xcc{s t:St}(h:AtP s)(hm:0≤s.mover∧s.mover≤1)(e1:t.phase=s.phase)(e2:t.struck=s.struck)(e3:t.mover=s.mover)(hs:t.attack.Sublist s.attack)
 (k0:∀a∈t.attack,a∈s.s0.units.map Th.id→a∈t.s0.units.map Th.id)(k1:∀a∈t.attack,a∈s.s1.units.map Th.id→a∉s.s0.units.map Th.id→a∈t.s1.units.map Th.id∧a∉t.s0.units.map Th.id):AtP t:=by
 refine⟨λhp=>?_,λhp=>?_⟩
 ·have:=h.1 (by rw[←e1]; exact hp);simp_all
 ·obtain⟨q1,q2,q3,q4⟩:=h.2 (by rw[←e1]; exact hp);refine⟨by rw[e2]; exact q1,Nat.le_trans hs.length_le q2,q3.sublist hs,λa ha=>?_⟩;have hq:=q4 a (hs.subset ha);rw[e3];rcases (show s.mover=0∨s.mover=1 by omega) with e|e
  ·rw[e] at hq ⊢;exact inS0.2 (k0 a ha (inS0.1 hq))
  ·rw[e] at hq ⊢;obtain⟨r1,r2⟩:=inS1.1 hq;obtain⟨t1,t2⟩:=k1 a ha r2 r1;exact inS1.2 ⟨t2,t1⟩
theorem Xcx{l:List Th}{k:Nat}{u v:Th}(h:l[k]?=some u)(e:v.id=u.id):(l.set k v).map Th.id=l.map Th.id:=by
 rw[List.map_set,e];have hk:k<l.length:=(YLG h).1;have h2:(l.map Th.id)[k]?=some u.id:=by rw[List.getElem?_map,h]; rfl
 obtain⟨hk2,h3⟩:=YLG h2;rw[←h3,List.set_getElem_self]
theorem XbZ{n:Int}(h0:0≤n)(h1:n<13835058055282163712)(h:wIn (IntKind.i64.wrap n)=true):0≤IntKind.i64.wrap n:=by
 grind [IntKind.wrap,IntKind.bits,QaY]
theorem Zc6(n:Int):IntKind.i64.wrap n<9223372036854775808:=by
 grind [IntKind.wrap,IntKind.signed,IntKind.bits]
theorem Yce(n:Int):0≤cap4 n∧cap4 n≤4000000:=by unfold cap4; omega
theorem YaY{b:Bk}{n h:Int}{u:Th}(k:Yq b n u=true)(h0:0≤h)(h1:h≤1000000):Yq b n { u with harm:=h }=true:=by
 simp only[Yq,Bool.and_eq_true,decide_eq_true_eq] at k ⊢
 grind
theorem YaG{b:Bk}{n:Int}{u:Th}(k:Yq b n u=true):0≤u.harm∧u.harm≤1000000:=by
 simp_all [Yq]
theorem YbV{l:List Th}{k:Nat}{v u:Th}(h:u∈l.set k v):u∈l∨u=v:=List.mem_or_eq_of_mem_set h
theorem XbM{b:Bk}{s:St}(hM:MayP b s){k:Nat}{u:Th}(hk:s.s0.units[k]?=some u){h:Int}(h0:0≤h)(h1:h≤1000000):MayP b { s with s0:={ s.s0 with units:=s.s0.units.set k { u with harm:=h } } }∧Yy { s with s0:={ s.s0 with units:=s.s0.units.set k { u with harm:=h } } }=Yy s:=by
 have S:=hM.s0;have hu:u∈s.s0.units:=List.mem_of_getElem? hk;have hi:(s.s0.units.set k { u with harm:=h }).map Th.id=s.s0.units.map Th.id:=Xcx hk rfl;have N:SideP b { s.s0 with units:=s.s0.units.set k { u with harm:=h } }:=⟨S.life,S.mana,S.most,S.deck,S.hand,S.grave,S.told,by show (s.s0.units.set k _).length≤7; rw[List.length_set]; exact S.units⟩;refine⟨⟨hM.hd,N,hM.s1,⟨λv hv=>?_,?_⟩,?_⟩,?_⟩
 ·have hv:v∈(s.s0.units.set k { u with harm:=h })++s.s1.units:=hv;rcases List.mem_append.1 hv with hv|hv
  ·rcases YbV hv with hv|rfl; exact hM.un.1 v (List.mem_append_left _ hv); exact YaY (hM.un.1 u (List.mem_append_left _ hu)) h0 h1
  ·exact hM.un.1 v (List.mem_append_right _ hv)
 ·have e:((s.s0.units.set k { u with harm:=h })++s.s1.units).map Th.id=(s.s0.units++s.s1.units).map Th.id:=by rw[List.map_append,List.map_append,hi]
  show (((s.s0.units.set k { u with harm:=h })++s.s1.units).map Th.id).Nodup;rw[e]; exact hM.un.2
 ·refine Xcc hM.at_ ⟨hM.hd.2.2.1,hM.hd.2.2.2.1⟩ rfl rfl rfl (List.Sublist.refl _) (λa _ ha=>?_) (λa _ ha hn=>⟨?_,?_⟩)
  ·show a∈(s.s0.units.set k _).map Th.id; rw[hi]; exact ha
  ·exact ha
  ·show a∉(s.s0.units.set k _).map Th.id; rw[hi]; exact hn
 ·simp[Yy]
theorem XaS{b:Bk}{s:St}(hM:MayP b s){n:Int}(hw:wIn n=true):MayP b { s with s0:={ s.s0 with life:=n } }∧Yy { s with s0:={ s.s0 with life:=n } }=Yy s:=by
 have S:=hM.s0;exact⟨⟨hM.hd,⟨hw,S.mana,S.most,S.deck,S.hand,S.grave,S.told,S.units⟩,hM.s1,hM.un,hM.at_⟩,rfl⟩
theorem QbM{b:Bk}{s:St}(hM:MayP b s){k:Nat}{u:Th}(hk:s.s1.units[k]?=some u){h:Int}(h0:0≤h)(h1:h≤1000000):MayP b { s with s1:={ s.s1 with units:=s.s1.units.set k { u with harm:=h } } }∧Yy { s with s1:={ s.s1 with units:=s.s1.units.set k { u with harm:=h } } }=Yy s:=by
 have S:=hM.s1;have hu:u∈s.s1.units:=List.mem_of_getElem? hk;have hi:(s.s1.units.set k { u with harm:=h }).map Th.id=s.s1.units.map Th.id:=Xcx hk rfl;have N:SideP b { s.s1 with units:=s.s1.units.set k { u with harm:=h } }:=⟨S.life,S.mana,S.most,S.deck,S.hand,S.grave,S.told,by show (s.s1.units.set k _).length≤7; rw[List.length_set]; exact S.units⟩;refine⟨⟨hM.hd,hM.s0,N,⟨λv hv=>?_,?_⟩,?_⟩,?_⟩
 ·have hv:v∈s.s0.units++(s.s1.units.set k { u with harm:=h }):=hv;rcases List.mem_append.1 hv with hv|hv
  ·exact hM.un.1 v (List.mem_append_left _ hv)
  ·rcases YbV hv with hv|rfl; exact hM.un.1 v (List.mem_append_right _ hv); exact YaY (hM.un.1 u (List.mem_append_right _ hu)) h0 h1
 ·have e:(s.s0.units++(s.s1.units.set k { u with harm:=h })).map Th.id=(s.s0.units++s.s1.units).map Th.id:=by rw[List.map_append,List.map_append,hi]
  show ((s.s0.units++(s.s1.units.set k { u with harm:=h })).map Th.id).Nodup;rw[e]; exact hM.un.2
 ·refine Xcc hM.at_ ⟨hM.hd.2.2.1,hM.hd.2.2.2.1⟩ rfl rfl rfl (List.Sublist.refl _) (λa _ ha=>?_) (λa _ ha hn=>⟨?_,?_⟩)
  ·exact ha
  ·show a∈(s.s1.units.set k _).map Th.id; rw[hi]; exact ha
  ·exact hn
 ·simp[Yy]
theorem QaS{b:Bk}{s:St}(hM:MayP b s){n:Int}(hw:wIn n=true):MayP b { s with s1:={ s.s1 with life:=n } }∧Yy { s with s1:={ s.s1 with life:=n } }=Yy s:=by
 have S:=hM.s1;exact⟨⟨hM.hd,hM.s0,⟨hw,S.mana,S.most,S.deck,S.hand,S.grave,S.told,S.units⟩,hM.un,hM.at_⟩,rfl⟩
theorem Xbm{b:Bk}{s:St}{kd id sd:Int}{fP:Int→Int×Int}{fU:Th→Int×Int}(hM:MayP b s)(hP:∀l,0≤(fP l).2)(hU:∀u,0≤u.harm→u.harm≤1000000→0≤(fU u).2∧(wIn (fU u).1=true→0≤(fU u).1))(h0:sd=0∨sd=1)(h:(chgF kd fP fU s id sd).2.2=0) :
  MayP b (chgF kd fP fU s id sd).1∧Yy (chgF kd fP fU s id sd).1=Yy s∧0≤(chgF kd fP fU s id sd).2.1.n:=by
 have z:∀(x:Int),x≠0→(zSt,zEv,x).2.2=0→False:=λx hx h=>hx h;unfold chgF at h ⊢;by_cases hid:id=0
 ·rw[if_pos hid] at h ⊢;unfold chgP at h ⊢;by_cases hw:wIn (fP (s.side sd).life).1=true
  ·rw[if_pos hw];rcases h0 with rfl|rfl
   ·exact⟨(XaS hM hw).1,(XaS hM hw).2,hP _⟩
   ·exact⟨(QaS hM hw).1,(QaS hM hw).2,hP _⟩
  simp_all
 rw[if_neg hid] at h ⊢;by_cases hid2:id<0
 ·simp_all
 rw[if_neg hid2] at h ⊢;cases q0:fnd s.s0.units id with
 |some k=>
  obtain⟨u,hk,_⟩:=XcS q0;rw[q0] at h;simp only[hk,Option.getD_some] at h ⊢;have hh:=YaG (hM.un.1 u (List.mem_append_left _ (List.mem_of_getElem? hk)));obtain⟨k1,k2⟩:=hU u hh.1 hh.2;unfold chgU at h ⊢;by_cases hw:wIn (fU u).1=true
  ·rw[if_pos hw];have:=XbM hM hk (k2 hw) (QaY.1 hw).2;exact⟨this.1,this.2,k1⟩
  simp_all
 |none=>
  rw[q0] at h;cases q1:fnd s.s1.units id with
  |none=>simp_all
  |some k=>
   obtain⟨u,hk,_⟩:=XcS q1;rw[q1] at h;simp only[hk,Option.getD_some] at h ⊢;have hh:=YaG (hM.un.1 u (List.mem_append_right _ (List.mem_of_getElem? hk)));obtain⟨k1,k2⟩:=hU u hh.1 hh.2;unfold chgU at h ⊢;by_cases hw:wIn (fU u).1=true
   ·rw[if_pos hw];have:=QbM hM hk (k2 hw) (QaY.1 hw).2;exact⟨this.1,this.2,k1⟩
   simp_all
theorem Yb6{b:Bk}{s:St}{id sd n:Int}(hM:MayP b s)(h0:sd=0∨sd=1)(h:(harmF b s id sd n).2.2=0):MayP b (harmF b s id sd n).1∧Yy (harmF b s id sd n).1=Yy s∧0≤(harmF b s id sd n).2.1.n:=by
 refine Xbm hM (λl=>(Yce n).1) (λu h1 h2=>?_) h0 h;have hh:0≤hurt b u (cap4 n)∧hurt b u (cap4 n)<9223372036854775808:=by
  unfold hurt;have:=Zc6 (cap4 n-QbY b u.card);omega
 grind [XbZ]
theorem Qb6{b:Bk}{s:St}{id sd n:Int}(hM:MayP b s)(h0:sd=0∨sd=1)(h:(mendF s id sd n).2.2=0):MayP b (mendF s id sd n).1∧Yy (mendF s id sd n).1=Yy s∧0≤(mendF s id sd n).2.1.n:=by
 have hc:=Yce n;refine Xbm hM (λl=>hc.1) (λu h1 h2=>?_) h0 h
 grind [XbZ]
end Go.Ah.Tz
end
section
namespace Go.Ah.Tz
open Go.Proofs.Tryz (prog)
attribute [local irreducible] Ans.rd Ans.pu Ans.wr Ans.dr Ans.gr Ans.gw Ans.gl Ans.gd Ans.opt joinK W
set_option maxHeartbeats 4000000
def sizeN(s:St):Int:=s.attack.length+(s.s0.deck.length+s.s0.hand.length+s.s0.grave.length+s.s0.units.length+s.s0.told.length)+(s.s1.deck.length+s.s1.hand.length+s.s1.grave.length+s.s1.units.length+s.s1.told.length)
end Go.Ah.Tz
end
section
namespace Go.Ah.Tz
open Go.Proofs.Tryz (prog)
attribute [local irreducible] Ans.rd Ans.pu Ans.wr Ans.dr Ans.gr Ans.gw Ans.gl Ans.gd Ans.opt joinK W
set_option maxHeartbeats 8000000
theorem Gr.set{σ τ:List ABlk}{n k:Nat}{rows:List (List AVal)}{v:AVal}(h:Gr σ n rows k v τ){c:Nat}(hc:c<σ.length)(x:ABlk):Gr (σ.set c x) n rows k v (τ.set c x):=by
 obtain⟨h1,h2,h3⟩:=h;refine⟨by simpa using h1,λd hd=>?_,?_⟩
 ·have hd':d<σ.length:=by simpa using hd
  by_cases e:d=c
  ·grind [Qs]
  ·rw[Zo _ (by omega) e,Zo _ hd' e]; exact h2 d hd'
 ·rcases h3 with h3|⟨q1,b,q2,q3,q4,q5⟩
  ·exact .inl h3
  ·exact .inr ⟨q1,b,by simpa using q2,q3,Yp q4 (by simp) (by omega),q5⟩
theorem Gr.evs{σ0 σ:List ABlk}{l:List Ev}{v:AVal}(h:Gr σ0 7 (l.map evN) l.length v σ):∃rd,Bor (Go.Ah.hp σ) rd v (.rsl false false 7 (l.map evN)):=by
 rcases h.2.2 with ⟨h1,rfl,h3⟩|⟨_,b,_,rfl,h4,_⟩
 ·have:l=[]:=by simpa using h3
  subst this;exact⟨[],Bor.weak (Bor.ro rfl) (λM u d=>d.nils_rsl 7)⟩
 ·refine⟨[b],Bor.own h4 (by simp) (by simp) (YaO _ _ (by simp)) (λr hr=>?_)⟩;obtain⟨e,_,rfl⟩:=List.mem_map.1 hr;rfl
end Go.Ah.Tz
end
section
namespace Go.Ah.Tz
open Go.Proofs.Tryz (prog)
set_option maxRecDepth 100000
def k1:Code→Code
 |.seq a _=>a
 |c=>c
def k2:Code→Code
 |.seq _ b=>b
 |c=>c
end Go.Ah.Tz
end
section
namespace Go.Ah.Tz
open Go.Proofs.Tryz (prog)
set_option maxRecDepth 100000
attribute [local irreducible] Ans.rd Ans.pu Ans.wr Ans.dr Ans.gr Ans.gw Ans.gl Ans.gd Ans.opt joinK W
set_option maxHeartbeats 8000000
theorem Qcp{e:Int}{b:Bk}{s:St}(h:mayR e b s true=true)(hp:s.phase=1→s.attack.length≠0):mayR e b s false=true:=by
 simp only[mayR,Bool.and_eq_true] at h ⊢;obtain⟨a1,a2,a3,a4,a5,a6,a7,a8,a9,b1,b2,b3,b4,h⟩:=h;refine⟨a1,a2,a3,a4,a5,a6,a7,a8,a9,b1,b2,b3,b4,?_⟩;split at h
 ·rename_i q; rw[if_pos q]; exact h
 ·rename_i q; rw[if_neg q]; simp only[Bool.and_eq_true] at h ⊢; exact⟨by simp[hp (by simpa using q)],h.2⟩
end Go.Ah.Tz
end
section
namespace Go.Ah.Tz
open Go.Proofs.Tryz (prog)
set_option maxRecDepth 100000
@[reducible] def evX(e:Ev)(cv:AVal):List AVal:=[iv8 e.kind,iv e.side,iv e.card,iv e.id,iv e.other,iv e.n,cv]
def CvOk(cv:AVal)(l:List Int):Prop:=cv=rowV l∨(cv=.nils∧l=[])
theorem CvOk.cell{cv:AVal}{l:List Int}(h:CvOk cv l):cv.cell=true:=by
 rcases h with rfl|⟨rfl,_⟩<;>rfl
inductive EvRs:List (List AVal)→List Ev→Prop
 |nil:EvRs [] []
 |snoc (rows:List (List AVal)) (l:List Ev) (e:Ev) (cv:AVal):EvRs rows l→CvOk cv e.cards→EvRs (rows++[evX e cv]) (l++[e])
theorem EvRs.len{rows:List (List AVal)}{l:List Ev}(h:EvRs rows l):rows.length=l.length:=by
 induction h with
 |nil=>rfl
 |snoc _ _ _ _ _ _ ih=>simp[ih]
def LV(rb:Nat)(l:List Ev)(lv:AVal)(σ:List ABlk):Prop:=(l=[]∧lv=.nils)∨(l≠[]∧∃c rows,c≠rb∧lv=.sl c 0 l.length false∧hget σ c=.rows 7 rows∧EvRs rows l)
structure Fr (rb:Nat) (lv lv':AVal) (σ σ':List ABlk):Prop where
 len:σ.length≤σ'.length
 keep:∀k,k<σ.length→k≠rb→(∀n,lv≠.sl k 0 n false)→hget σ' k=hget σ k
 new:∀k n,lv'=.sl k 0 n false→σ.length≤k∨∃m,lv=.sl k 0 m false
theorem Fr.trans{rb:Nat}{a b c:AVal}{σ τ υ:List ABlk}(h:Fr rb a b σ τ)(q:Fr rb b c τ υ):Fr rb a c σ υ:=by
 refine⟨Nat.le_trans h.len q.len,λk hk hr hn=>?_,λk n e=>?_⟩
 ·rw[q.keep k (Nat.lt_of_lt_of_le hk h.len) hr (λn e=>?_),h.keep k hk hr hn];rcases h.new k n e with h1|⟨m,h1⟩
  ·omega
  ·exact hn m h1
 ·rcases q.new k n e with h1|⟨m,h1⟩
  ·exact .inl (Nat.le_trans h.len h1)
  ·exact h.new k m h1
theorem Fr.app{rb:Nat}{lv:AVal}{σ:List ABlk}(l:List ABlk)(hlv:∀k n,lv=.sl k 0 n false→k<σ.length):Fr rb lv lv σ (σ++l):=
 ⟨by simp,λk hk _ _=>QG l hk,λk n h=>.inr ⟨n,h⟩⟩
theorem Fr.set{rb:Nat}(lv:AVal){σ:List ABlk}(x:ABlk):Fr rb lv lv σ (σ.set rb x):=
 ⟨by simp,λk hk hr _=>Zo x hk hr,λk n h=>.inr ⟨n,h⟩⟩
theorem LV.old{rb:Nat}{l:List Ev}{lv:AVal}{σ σ':List ABlk}(h:LV rb l lv σ)(hk:∀k,k<σ.length→k≠rb→hget σ' k=hget σ k):LV rb l lv σ':=by
 rcases h with h|⟨h0,c,rows,h1,h2,hc,h3⟩
 ·exact .inl h
 ·exact .inr ⟨h0,c,rows,h1,h2,by rw[hk c (Qn hc (by simp)) h1]; exact hc,h3⟩
end Go.Ah.Tz
end
