/- Part of the proof that EffectCards holds of the program for arguments that together hold at most 1048576 values and letters; no other condition. -/
import Derived.Test.YtlpdgidfbmcomaaGreatDoorZ4
import Derived.Test.YtlpdgidfbmcomaaGreatDoorRows
set_option linter.all false
section
namespace Go.Ah.Tz
open Go.Proofs.Tryz (prog)
set_option maxRecDepth 100000
def pre81{α:Type}(A:Ans α)(x0 x1 x2 x3:AVal)(σ:List ABlk)(K R:List AVal→List ABlk→α):α:=
 A.wr (Qaf [x2] σ) σ λt6_0 σ=>
 A.wr (Zy [.nili] [] σ) σ λt8_1 σ=>
 A.wr (Zy [(.int .i64 0)] [] σ) σ λt9_2 σ=>
 A.rd (Zh [x1] σ) λt12_3=>
 A.rd (Xk true 23 [t12_3] σ) λt13_4=>
 A.wr (Zy [(.int .i64 0),(.int .i64 0),(.int .i8 0),(.bool false),(.int .i8 0),.nils,(.int .i64 0),(.int .i64 0),(.int .i64 0),(.int .i64 0),.nils,.nils,.nils,.nils,.nils,(.int .i64 0),(.int .i64 0),(.int .i64 0),.nils,.nils,.nils,.nils,.nils] [] σ) σ λt10_5 σ=>
 A.wr (Qo 23 [t10_5,t13_4] σ) σ λ_ σ=>
 A.rd (Ze 2 [t10_5] σ) λt14_6=>
 A.rd (Xk false 1 [t14_6] σ) λt15_7=>
 A.rd (Yn .eql false [t15_7,(.int .i8 1)] σ) λt16_8=>
 A.gr t16_8 true (λk=>A.rd (Ze 5 [t10_5] σ) k) λt18_9=>
 A.gr t16_8 true (λk=>A.rd (Xk false 1 [t18_9] σ) k) λt19_10=>
 A.gr t16_8 true (λk=>A.rd (Qs [t19_10] σ) k) λt20_11=>
 A.gr t16_8 true (λk=>A.rd (Yn .eql false [t20_11,(.int .i64 0)] σ) k) λt21_12=>
 A.rd (Xm [t16_8,t21_12,(.bool false)] σ) λt22_13=>
 joinK (λk14=>
 A.test t22_13 (
 A.rd (Ze 2 [t10_5] σ) λt23_16=>
 A.wr (Qo 1 [t23_16,(.int .i8 0)] σ) σ λ_ σ=>
 k14 [] σ) (
 k14 [] σ)) (λv15 σ=>
 A.pu (Zh [x0] σ) λt26_17=>
 A.dr (Xk true 2 [t26_17] σ) σ λt27_18 l19 σ=>
 A.dr (Xk true 23 [t10_5] σ) σ λt28_20 l21 σ=>
 A.dcall (.call 16) [t27_18,t28_20] σ λt29_22 l23 σ=>
 A.pu (Yn .neq false [t29_22,(.int .i64 0)] σ) λt30_24=>
 A.gr t30_24 false (λk=>A.pu (Z5 [x1] σ) k) λt32_25=>
 A.gr t30_24 false (λk=>A.pu (Zh [t32_25] σ) k) λt33_26=>
 A.gr t30_24 false (λk=>A.pu (Ze 2 [t33_26] σ) k) λt34_27=>
 A.gl t30_24 false (λk=>A.dr (Xk false 1 [t34_27] σ) σ k) σ λt35_28 l29 σ=>
 A.gr t30_24 false (λk=>A.pu (Yn .eql false [t35_28,(.int .i8 1)] σ) k) λt36_30=>
 A.gr t30_24 false (λk=>A.pu (Z5 [t36_30] σ) k) λt37_31=>
 A.gr t37_31 true (λk=>A.pu (Z5 [x1] σ) k) λt38_32=>
 A.gr t37_31 true (λk=>A.pu (Zh [t38_32] σ) k) λt39_33=>
 A.gr t37_31 true (λk=>A.pu (Ze 3 [t39_33] σ) k) λt40_34=>
 A.gl t37_31 true (λk=>A.dr (Xk false 1 [t40_34] σ) σ k) σ λt41_35 l36 σ=>
 A.gr t37_31 true (λk=>A.pu (Za9 .not [t41_35] σ) k) λt42_37=>
 A.gr t30_24 false (λk=>A.pu (Xm [t37_31,t42_37,(.bool false)] σ) k) λt43_38=>
 A.pu (Xm [t30_24,(.bool true),t43_38] σ) λt44_39=>
 A.gd (Qn [[],[0],[0,1],[],[0,1,2,3],[0,1,2,3,4],[0,1,2,3,4,5],[0,1,2,3,4,5,6],[0,1,2,3,4,5,6,7],[0,1,2,3,4,5,6,7,8],[0,1,2,3,4,5,6,7,8,9],[0,1,2,3,4,5,6,7,8,9,10],[0,1,2,3,4,5,6,7,8,9,10,11],[0,1,2,3,4,5,6,7,8,9,10,11,12],[0,1,2,3,4,5,6,7,8,9,10,11,12,13],[0,1,2,3,4,5,6,7,8,9,10,11,12,13,14],[0,1,2,3,4,5,6,7,8,9,10,11,12,13,14,15],[0,1,2,3,4,5,6,7,8,9,10,11,12,13,14,15,16],[0,1,2,3,4,5,6,7,8,9,10,11,12,13,14,15,16,17],[0,1,2,3,4,5,6,7,8,9,10,11,12,13,14,15,16,17,18],[0,1,2,3,4,5,6,7,8,9,10,11,12,13,14,15,16,17,18,19]] [([],[]),([],[]),l19,l21,l23,([],[]),([],[]),([],[]),([],[]),([],[]),l29,([],[]),([],[]),([],[]),([],[]),([],[]),l36,([],[]),([],[]),([],[]),([],[])]) <|
 A.test t44_39 (
 A.wr (Qo 1 [t8_1,.nili] σ) σ λ_ σ=>
 A.wr (Qo 1 [t9_2,(.int .i64 170)] σ) σ λ_ σ=>
 R [t8_1,t9_2] σ) (
 A.rd (Ze 0 [t6_0] σ) λt46_40=>
 A.rd (Xk false 1 [t46_40] σ) λt47_41=>
 A.rd (Yn .lss false [t47_41,(.int .i64 0)] σ) λt48_42=>
 A.gr t48_42 false (λk=>A.rd (Ze 0 [t6_0] σ) k) λt50_43=>
 A.gr t48_42 false (λk=>A.rd (Xk false 1 [t50_43] σ) k) λt51_44=>
 A.gr t48_42 false (λk=>A.rd (Yn .gtr false [t51_44,(.int .i64 1)] σ) k) λt52_45=>
 A.rd (Xm [t48_42,(.bool true),t52_45] σ) λt53_46=>
 A.test t53_46 (
 A.wr (Qo 1 [t8_1,.nili] σ) σ λ_ σ=>
 A.wr (Qo 1 [t9_2,(.int .i64 2)] σ) σ λ_ σ=>
 R [t8_1,t9_2] σ) (
 K [x0,x1,x3,t6_0,t8_1,t9_2] σ)))
def k1:Code→Code
 |.seq a _=>a
 |c=>c
def k2:Code→Code
 |.seq _ b=>b
 |c=>c
def kOps:Code→Array Oper
 |.region _ ops _=>ops
 |_=>#[]
def b81(P:Program):Code:=match P.funcs[62]? with
 |some f=>f.body.getD .skip
 |none=>.skip
def Ycx(P:Program):Code:=k1 (b81 P)
def Xcx(P:Program):Code:=k1 (k2 (b81 P))
def Qcx(P:Program):Code:=k1 (k2 (k2 (b81 P)))
def Zcy(P:Program):Code:=k1 (k2 (k2 (k2 (b81 P))))
def Qas(P:Program):Array Oper:=kOps (k1 (k2 (k2 (k2 (k2 (b81 P))))))
def Qac(P:Program):Array Oper:=kOps (k1 (k2 (k2 (k2 (k2 (k2 (b81 P)))))))
theorem Qdw:Go.Proofs.Tryz.f62.body=some (.seq (Ycx prog) (.seq (Xcx prog) (.seq (Qcx prog) (.seq (Zcy prog) (.seq (.region 8 (Qas prog) false) (.seq (.region 9 (Qac prog) false) .ret)))))):=by kernel_rfl
def mc81(P:Program)(c:Code):MCode:=(Zv P GL0 62 c).getD .skip
theorem Ybr{c:Code}(h:(Zv prog GL0 62 c).isSome=true):CodeOk prog GL0 62 c (mc81 prog c):=by
 unfold mc81;cases e:Zv prog GL0 62 c with
 |none=>rw[e] at h; cases h
 |some m=>exact ZaT e
theorem c81_0:CodeOk prog GL0 62 (Ycx prog) (mc81 prog (Ycx prog)):=Ybr (by kernel_rfl)
theorem c81_1:CodeOk prog GL0 62 (Xcx prog) (mc81 prog (Xcx prog)):=Ybr (by kernel_rfl)
theorem c81_2:CodeOk prog GL0 62 (Qcx prog) (mc81 prog (Qcx prog)):=Ybr (by kernel_rfl)
theorem c81_3:CodeOk prog GL0 62 (Zcy prog) (mc81 prog (Zcy prog)):=Ybr (by kernel_rfl)
def XcZ(P:Program):DCode:=(annot (mc81 P (Ycx P)) []).1
def QcZ(P:Program):DCode:=(annot (mc81 P (Xcx P)) []).1
def Zc0(P:Program):DCode:=(annot (mc81 P (Qcx P)) [some []]).1
def Yc0(P:Program):DCode:=(annot (mc81 P (Zcy P)) [none,none,none]).1
theorem Qdx:(XcZ prog).ok=true:=by kernel_rfl
theorem Zdy:(QcZ prog).ok=true:=by kernel_rfl
theorem Ydy:(Zc0 prog).ok=true:=by kernel_rfl
theorem Xdy:(Yc0 prog).ok=true:=by kernel_rfl
theorem Yc6(x0 x1 x2 x3:AVal)(α:Type)(A:Ans α)(σ:List ABlk)(K R:List AVal→List ABlk→α) :
  dn A (XcZ prog) (frame0 [x0,x1,x2,x3]) σ (λρ σ=>dn A (QcZ prog) ρ σ (λρ σ=>dn A (Zc0 prog) ρ σ (λρ σ=>dn A (Yc0 prog) ρ σ (λρ σ=>K (getF ρ [0,1,3,6,8,9]) σ)
   (λ_ _ _=>A.stop) (λρ σ=>R (getF ρ [8,9]) σ)) (λ_ _ _=>A.stop) (λρ σ=>R (getF ρ [8,9]) σ)) (λ_ _ _=>A.stop) (λρ σ=>R (getF ρ [8,9]) σ)) (λ_ _ _=>A.stop) (λρ σ=>R (getF ρ [8,9]) σ)
  = pre81 A x0 x1 x2 x3 σ K R:=by kernel_rfl
end Go.Ah.Tz
end
section
namespace Go.Ah.Tz
open Go.Proofs.Tryz (prog)
set_option maxRecDepth 100000
attribute [local irreducible] Ans.rd Ans.pu Ans.wr Ans.dr Ans.gr Ans.gw Ans.gl Ans.gd Ans.opt joinK W
set_option maxHeartbeats 8000000
theorem Qa0{e:Int}{b:Bk}{s:St}(h:mayR e b s true=true)(hp:s.phase=1):s.struck=true:=by
 simp only[mayR,Bool.and_eq_true] at h;obtain⟨_,_,_,_,_,_,_,_,_,_,_,_,_,h⟩:=h;rw[if_neg (by simp[hp])] at h;simp only[Bool.and_eq_true] at h;exact h.2.1
theorem ZbE{e:Int}{b:Bk}{s:St}(h:mayR e b s true=true)(hp:s.phase=1)(ha:s.attack.length=0):mayR e b { s with phase:=0 } false=true:=by
 simp only[mayR,Bool.and_eq_true] at h ⊢;obtain⟨a1,a2,a3,a4,a5,a6,a7,a8,a9,b1,b2,b3,b4,h⟩:=h;refine⟨a1,a2,a3,a4,a5,by simp,by simp,a8,a9,?_,b2,b3,b4,?_⟩
 ·rw[hp] at b1; exact b1
 ·rw[if_pos (by simp)]; simp[ha]
theorem QbD{e:Int}{b:Bk}{s:St}(h:mayR e b s true=true)(hp:s.phase=1→s.attack.length≠0):mayR e b s false=true:=by
 simp only[mayR,Bool.and_eq_true] at h ⊢;obtain⟨a1,a2,a3,a4,a5,a6,a7,a8,a9,b1,b2,b3,b4,h⟩:=h;refine⟨a1,a2,a3,a4,a5,a6,a7,a8,a9,b1,b2,b3,b4,?_⟩;split at h
 ·rename_i q; rw[if_pos q]; exact h
 ·rename_i q; rw[if_neg q]; simp only[Bool.and_eq_true] at h ⊢; exact⟨by simp[hp (by simpa using q)],h.2⟩
theorem Ybi(b:Bk)(hf:bkFit b=true)(hsm:Qj b.cards)(s:St)(hs:StLe 1000000000 s)(hm:mayR (bkR b).1 b s true=true)(sd tg:Int)(h0:0≤sd)(h1:sd≤1)(v:AVal){K R:List AVal→List ABlk→Prop}
 (hK:∀z,K [.rptr (bkC b) 0,.rptr (stC s) 0,v,.bptr 0 0,.bptr 1 0,.bptr 2 0] [.box [iv sd,iv tg],.box [.nili],.box [iv 0],.box z]) :
  pre81 VV (.rptr (bkC b) 0) (.rptr (stC s) 0) (.agg [iv sd,iv tg]) (v) [] K R:=by
 unfold pre81;refine Yc (v:=.bptr 0 0) (rd:=[]) (up:=[(0,.box [iv sd,iv tg])]) rfl rfl (Yc (v:=.bptr 1 0) rfl rfl (Yc (v:=.bptr 2 0) rfl rfl (Za rfl (Za (ldr (row:=stC s) rfl) (Yc (v:=.bptr 3 0) rfl rfl (Yc (v:=.junk) (up:=[(3,.box (stC s))]) (rd:=[]) rfl rfl ?_))))));refine Za rfl (Za (ld (row:=stC s) rfl rfl) (Za rfl ?_));refine Zbu (v1:=.bptr 3 5) (v2:=rowV s.attack) (v3:=iv s.attack.length) (d:=((s.attack.length:Int)==0)) (q3:=[]) rfl (ld (row:=stC s) rfl rfl) (by simp[rowV,Qs]) rfl ?_;refine Zi λk' ek=>?_;have hend:∀t:St,mayR (bkR b).1 b t false=true→StLe 1000000000 t→k' [] [.box [iv sd,iv tg],.box [.nili],.box [iv 0],.box (stC t)]:=by
  intro t ht hts;have c55':=c55 b hf hsm t hts;rw[ht] at c55';subst ek;refine Zd rfl (Zg (v:=bkV b) (ldr (row:=bkC b) rfl) rfl (Zg (v:=stV t) (ld (row:=stC t) rfl rfl) rfl (Xf c55' rfl g16.ok.plain rfl (Zd (v:=.bool false) rfl ?_))));refine Ya (Zd rfl (Ya (Zd rfl (Ya (Zd rfl (Zao (Zg (v:=iv8 s.phase) (ldr (row:=stC s) rfl) rfl (Ya (Zd (v:=.bool (s.phase==1)) rfl (Ya (Zd rfl ?_)))))))))));rcases YBE (s.phase==1) with h|h
  ·rw[h];refine Ya (Zd rfl (Ya (Zd rfl (Ya (Zd rfl (Zao (Zg (v:=.bool s.struck) (ldr (row:=stC s) rfl) rfl (Ya (Zd rfl ?_)))))))));rw[Qa0 hm (by simpa using h)];refine Ya (Zd rfl (Zd rfl (Xr (by kernel_rfl) (Yd ?_))));refine Za rfl (Za (ld (row:=[iv sd,iv tg]) (v:=iv sd) rfl rfl) (Za (v:=.bool (decide (sd<0))) rfl ?_));rw[show decide (sd<0)=false from decide_eq_false (by omega)];refine Ya (Za rfl (Ya (Za (ld (row:=[iv sd,iv tg]) (v:=iv sd) rfl rfl) (Ya (Za (v:=.bool (decide (sd>1))) rfl ?_)))));rw[show decide (sd>1)=false from decide_eq_false (by omega)];exact Za rfl (Yd (hK _))
  ·rw[h];refine Qa rfl (Qa rfl (Qa rfl (Xda rfl (Qa rfl (Ya (Zd rfl (Zd rfl (Xr (by kernel_rfl) (Yd ?_)))))))));refine Za rfl (Za (ld (row:=[iv sd,iv tg]) (v:=iv sd) rfl rfl) (Za (v:=.bool (decide (sd<0))) rfl ?_));rw[show decide (sd<0)=false from decide_eq_false (by omega)];refine Ya (Za rfl (Ya (Za (ld (row:=[iv sd,iv tg]) (v:=iv sd) rfl rfl) (Ya (Za (v:=.bool (decide (sd>1))) rfl ?_)))));rw[show decide (sd>1)=false from decide_eq_false (by omega)];exact Za rfl (Yd (hK _))
 rcases YBE ((s.phase==1)&&((s.attack.length:Int)==0)) with hq|hq
 ·rw[hq];simp only[Bool.and_eq_true,beq_iff_eq] at hq;refine Qc (Za rfl (Yc (stv (row:=stC s) rfl rfl rfl rfl) rfl ?_));exact hend { s with phase:=0 } (ZbE hm hq.1 (by omega)) ⟨hs.attack,hs.s0,hs.s1⟩
 ·rw[hq];refine Yd ?_;exact hend s (QbD hm (λhp e=>by simp[hp,e] at hq)) hs
end Go.Ah.Tz
end
section
namespace Go.Ah.Tz
open Go.Proofs.Tryz (prog)
set_option maxRecDepth 100000
set_option maxHeartbeats 4000000
theorem idle123(p q:Value)(w:World):CallsD prog 90 #[p,q] .returning w λe u' w'=>e=.returned (.tuple #[])∧u'=.returning∧w'=w:=by
 refine callsD_of_wpS Go.Proofs.Tryz.func90 rfl λc₀ cs hu=>?_;apply wpS_seq;apply wpS_region;simp[wpOpsS,go_sem,recoverD,hu,Go.Proofs.Tryz.ntmps90,Exit.thenS];refine wpS_cond (t:=false) (by simp[Act.eval,Act.put,Array.replicate]) ?_;simp only[Bool.false_eq_true,if_false];refine wpS_of_wp (wp_skip ?_);cases c₀;simp_all [bodyPostS,results,Act.put,Go.Proofs.Tryz.results90]
def op81(l:Program→Array Oper)(i:Nat)(P:Program):Oper:=((l P)[i]?).getD default
theorem s81_8:(Qas prog).size=2:=by kernel_rfl
theorem s81_9:(Qac prog).size=9:=by kernel_rfl
theorem QdM:(Qas prog)[0]?=some (op81 Qas 0 prog)∧(op81 Qas 0 prog).op=.makeFunc (.func 90) #[] #[.tmp 8,.tmp 9]∧(op81 Qas 0 prog).dst=some 54∧(op81 Qas 0 prog).guard=none:=⟨by kernel_rfl,by kernel_rfl,by kernel_rfl,by kernel_rfl⟩
theorem ZdN:(Qas prog)[1]?=some (op81 Qas 1 prog)∧(op81 Qas 1 prog).op=.defer ⟨.value (.tmp 54),#[],#[]⟩∧(op81 Qas 1 prog).dst=none∧(op81 Qas 1 prog).guard=none:=⟨by kernel_rfl,by kernel_rfl,by kernel_rfl,by kernel_rfl⟩
theorem YdN:(Qac prog)[6]?=some (op81 Qac 6 prog)∧(∃ts,(op81 Qac 6 prog).op=.call ⟨.invoke (.tmp 55) "baize/value.ask",#[.tmp 60],ts⟩)∧(op81 Qac 6 prog).dst=some 61∧(op81 Qac 6 prog).guard=none:=⟨by kernel_rfl,⟨match (op81 Qac 6 prog).op with | .call c=>c.argTypes|_=>#[],by kernel_rfl⟩,by kernel_rfl,by kernel_rfl⟩
theorem ask143(v:Value)(args:Array Value)(w:World):(callMethod (.iface 131 v) "baize/value.ask" args).run prog w=.ok (.enter 180 (#[v]++args)) w:=by kernel_rfl
theorem ask184(v:Value)(args:Array Value)(w:World):(callMethod (.iface 135 v) "baize/value.ask" args).run prog w=.ok (.enter 200 (#[v]++args)) w:=by kernel_rfl
def m9a(P:Program):List MOper:=(mapM' (Qaw P GL0 62 (Qac P).toList) ((Qac P).toList.take 6)).getD []
def m9b(P:Program):List MOper:=(mapM' (Qaw P GL0 62 (Qac P).toList) ((Qac P).toList.drop 7)).getD []
theorem QcH:(m9a prog).length=6:=by kernel_rfl
theorem ZcI:(m9b prog).length=2:=by kernel_rfl
theorem YbB{α:Type}{o:Option (List α)}{n:Nat}(h:(o.getD []).length=n+1):o=some (o.getD []):=by
 cases o with
 |none=>cases h
 |some a=>rfl
theorem QdF(j:Nat)(m:MOper)(e:(m9a prog)[j]?=some m):∃o,(Qac prog)[0+j]?=some o∧OperOk prog GL0 62 (Qac prog) o m:=by
 obtain⟨h1,h2⟩:=Yaz (YbB (n:=5) QcH);obtain⟨o,k1,k2⟩:=h2 j m e;refine⟨o,?_,Qar k2⟩;rw[List.getElem?_take] at k1;split at k1
 ·simpa using k1
 ·cases k1
theorem ZdG(j:Nat)(m:MOper)(e:(m9b prog)[j]?=some m):∃o,(Qac prog)[7+j]?=some o∧OperOk prog GL0 62 (Qac prog) o m:=by
 obtain⟨h1,h2⟩:=Yaz (YbB (n:=1) ZcI);obtain⟨o,k1,k2⟩:=h2 j m e;refine⟨o,?_,Qar k2⟩;rw[List.getElem?_drop] at k1;simpa using k1
theorem d9a(x0 x1 x3 t6 t8 t9 f:AVal)(α:Type)(A:Ans α)(σ:List ABlk)(K:List AVal→List ABlk→α) :
  dnOps A (m9a prog) [(54,f),(0,x0),(1,x1),(3,x3),(6,t6),(8,t8),(9,t9)] σ (λρ σ=>K (getF ρ [55,60,8,9]) σ) =
  A.rd (Xk true 2 [t6] σ) λt58=>A.rd (ZS [.nilp,.nilp,.int .i64 0,.int .i64 0] [(0,1),(1,1),(2,2)] [x0,x1,t58] σ) λt59=>A.wr (Qaf [t59] σ) σ λt60 σ=>K [x3,t60,t8,t9] σ:=by kernel_rfl
theorem d9b(t55 t60 t8 t9 y:AVal)(α:Type)(A:Ans α)(σ:List ABlk)(K:List AVal→List ABlk→α) :
  dnOps A (m9b prog) [(61,y),(55,t55),(60,t60),(8,t8),(9,t9)] σ (λρ σ=>K (getF ρ [8,9]) σ) =
  A.wr (Qo 1 [t8,y] σ) σ λ_ σ=>A.wr (Qo 1 [t9,.int .i64 0] σ) σ λ_ σ=>K [t8,t9] σ:=by kernel_rfl
theorem r81:All2 (RvOk prog) Go.Proofs.Tryz.f62.results.toList [.c 8 false 1,.c 9 false 1]:=Qam (f:=YbO prog) Xbb (by kernel_rfl)
theorem n81:Go.Proofs.Tryz.f62.ntmps=62:=by kernel_rfl
theorem Ya7{P:Program}{ops:Array Oper}{Q:Exit→Act→World→Prop}{i:Nat}{rest:List Nat}{a:Act}{w:World}{o:Oper}(ho:ops[i]?=some o)(hg:o.guard=none)(h:o.wp P a w (wpOps P ops Q rest) Q):wpOps P ops Q (i::rest) a w:=by
 simp_all [wpOps,Region.wanted]
def postQ(K R:Frame→List ABlk→Prop):APost
 |.normal,ρ,σ=>K ρ σ
 |.ret,ρ,σ=>R ρ σ
 |.exit _,_,_=>False
theorem piece{n:Nat}(m:DCode)(hm:m.ok=true){ρ:Frame}{σ:List ABlk}{K R:Frame→List ABlk→Prop}(h:dn VV m ρ σ K (λ_ _ _=>VV.stop) R):Awp prog GL0 n m.er ρ σ (postQ K R):=
 QS hP (XcW prog GL0) m (Q:=postQ K R) hm (λ_ _ _ h=>h) (λ_ _ _ _ h=>h) (λ_ _ _ h=>h) h
theorem c81G(bk st:List AVal)(sd tg:Int)(ty:TypeId)(fn:FuncId)(vs0:List AVal)(j:Nat)(y:AVal)(hyf:y.flat=true)(hyr:y.ro=true)(hyc:cellsOf y=some [y])
 (hask:∀(v:Value) (args:Array Value) (w:World),(callMethod (.iface ty v) "baize/value.ask" args).run prog w=.ok (.enter fn (#[v]++args)) w)
 (hw:pre81 VV (.rptr bk 0) (.rptr st 0) (.agg [iv sd,iv tg]) (.iface ty (.agg [.rptr vs0 j])) [] (λvs σ=>vs=[.rptr bk 0,.rptr st 0,.iface ty (.agg [.rptr vs0 j]),.bptr 0 0,.bptr 1 0,.bptr 2 0]∧∃z,σ=[.box [iv sd,iv tg],.box [.nili],.box [iv 0],.box z]) (λ_ _=>False))
 (h289:PC fn [.agg [.rptr vs0 j],.rptr [.rptr bk 0,.rptr st 0,iv sd,iv tg] 0] y) :
  PC 62 [.rptr bk 0,.rptr st 0,.agg [iv sd,iv tg],.iface ty (.agg [.rptr vs0 j])] (.tup [y,iv 0]):=by
 intro w M vs hM hg hx;have r0:=Rep.start (GL:=GL0) w M hM hg;have hh:hp []=noHp:=by funext b; simp[hp,noHp]
 rw[←hh] at r0;have d0:=ZX hx (n:=62) (by simp);refine calls_of_wp_defers Go.Proofs.Tryz.func62 Qdw ?_;rw[n81];rw[←Yc6] at hw;have e0:(XcZ prog).er=mc81 prog (Ycx prog):=XK _ _;have e1:(QcZ prog).er=mc81 prog (Xcx prog):=XK _ _;have e2:(Zc0 prog).er=mc81 prog (Qcx prog):=XK _ _;have e3:(Yc0 prog).er=mc81 prog (Zcy prog):=XK _ _;refine YaN (e0▸c81_0) r0 d0 (piece (XcZ prog) Qdx hw) (λg1 ρ1 σ1 a1 w1 l1 r1 d1 hw1=>?_) (λ_ _ _ h=>h) (λ_ _ _ _ _ _ _ _ h=>False.elim h);refine YaN (e1▸c81_1) r1 d1 (piece (QcZ prog) Zdy hw1) (λg2 ρ2 σ2 a2 w2 l2 r2 d2 hw2=>?_) (λ_ _ _ h=>h) (λ_ _ _ _ _ _ _ _ h=>False.elim h);refine YaN (e2▸c81_2) r2 d2 (piece (Zc0 prog) Ydy hw2) (λg9993 ρ3 σ3 a3 w3 l3 r3 d3 hw3=>?_) (λ_ _ _ h=>h) (λ_ _ _ _ _ _ _ _ h=>False.elim h);refine YaN (e3▸c81_3) r3 d3 (piece (Yc0 prog) Xdy hw3) (λg9994 ρ4 σ4 a4 w4 l4 r4 d4 hw4=>?_) (λ_ _ _ h=>h) (λ_ _ _ _ _ _ _ _ h=>False.elim h);obtain⟨hv,z,hσ⟩:=hw4;subst hσ;simp only[getF,List.cons.injEq,and_true] at hv;obtain⟨q0,q1,q3,q6,q8,q9⟩:=hv;have d5:DenF 62 g9994 [(0,.rptr bk 0),(1,.rptr st 0),(3,.iface ty (.agg [.rptr vs0 j])),(6,.bptr 0 0),(8,.bptr 1 0),(9,.bptr 2 0)] a4:=d4.weak (QaG.le ⟨q0,q1,q3,q6,q8,q9,trivial⟩);clear d4;have le4:=((l1.trans l2).trans l3).trans l4;have k8:g9994.den (.bptr 1 0) (a4.tmps.getD 8 undef):=d5.slot 8;have k9:g9994.den (.bptr 2 0) (a4.tmps.getD 9 undef):=d5.slot 9;generalize hp8:a4.tmps.getD 8 undef=p8 at k8;generalize hp9:a4.tmps.getD 9 undef=p9 at k9;refine wp_seq (wp_region ?_);rw[s81_8,show List.range 2=[0,1] from rfl];refine Ya7 QdM.1 QdM.2.2.2 ?_;unfold Oper.wp;have hmf:∀(fn:Fn) (first cap:Array Value) (w:World),(Instr.makeFunc fn first cap).run prog w=.ok (.func fn first cap) w:=λ_ _ _ _=>rfl;have run0:(execOp a4.eval (op81 Qas 0 prog)).run prog w4=.ok (.value (.func (.func 90) #[] #[p8,p9])) w4:=by
  simp_all [execOp,Act.eval,QdM]
 rw[run0,Oper.upon_value,QdM.2.2.1];have hd54:g9994.den (.func (.func 90) [] [.bptr 1 0,.bptr 2 0]) (.func (.func 90) #[] #[p8,p9]):=by
  refine .func _ _ _ _ _ _ rfl rfl (by simp) (λi x u e1 e2=>?_)
  match i with
  |0=>simp at e1 e2; subst e1; subst e2; exact k8
  |1=>simp at e1 e2; subst e1; subst e2; exact k9
  |i+2=>simp at e1
 have d6:=d5.put (d:=54) (by decide) hd54;generalize ha5:a4.put (some 54) (.func (.func 90) #[] #[p8,p9])=a5 at d6 ⊢;have h54:a5.tmps.getD 54 undef=.func (.func 90) #[] #[p8,p9]:=by
  rw[←ha5];have hsz:=d5.size;simp[Act.put,Array.getD,hsz]
 refine Ya7 ZdN.1 ZdN.2.2.2 ?_;unfold Oper.wp;have run1:(execOp a5.eval (op81 Qas 1 prog)).run prog w4=.ok (.defer { target:=.fn (.func 90) #[p8,p9],args:=#[] }) w4:=by
  grind [execOp,resolve,Act.eval,Deferred.ofValue,ZdN,Sem.run_pure]
 rw[run1,Oper.upon_defer,ZdN.2.2.1];have hlay:({ a5 with defers:={ target:=.fn (.func 90) #[p8,p9],args:=#[] }::a5.defers }:Act).put none undef=layD [{ target:=.fn (.func 90) #[p8,p9],args:=#[] }] a5:=by
  simp[Act.put,layD,d6.defers]
 rw[hlay];show wpOps prog (Qas prog) _ [] _ w4;simp only[wpOps];refine wp_seq (wp_region ?_);rw[s81_9,show List.range 9=List.range' 0 6++(6::List.range' 7 2) from rfl];have key1:dnOps VV (m9a prog) [(54,.func (.func 90) [] [.bptr 1 0,.bptr 2 0]),(0,.rptr bk 0),(1,.rptr st 0),(3,.iface ty (.agg [.rptr vs0 j])),(6,.bptr 0 0),(8,.bptr 1 0),(9,.bptr 2 0)] [.box [iv sd,iv tg],.box [.nili],.box [iv 0],.box z]
   (λρ σ=>getF ρ [55,60,8,9]=[.iface ty (.agg [.rptr vs0 j]),.bptr 4 0,.bptr 1 0,.bptr 2 0]∧σ=[.box [iv sd,iv tg],.box [.nili],.box [iv 0],.box z,.box [.rptr bk 0,.rptr st 0,iv sd,iv tg]]):=by
  have:=d9a (.rptr bk 0) (.rptr st 0) (.iface ty (.agg [.rptr vs0 j])) (.bptr 0 0) (.bptr 1 0) (.bptr 2 0) (.func (.func 90) [] [.bptr 1 0,.bptr 2 0]) Prop VV [.box [iv sd,iv tg],.box [.nili],.box [iv 0],.box z]
   (λvs σ=>vs=[.iface ty (.agg [.rptr vs0 j]),.bptr 4 0,.bptr 1 0,.bptr 2 0]∧σ=[.box [iv sd,iv tg],.box [.nili],.box [iv 0],.box z,.box [.rptr bk 0,.rptr st 0,iv sd,iv tg]])
  rw[this];exact Za (ld (row:=[iv sd,iv tg]) rfl rfl) (Za rfl (Yc rfl rfl ⟨rfl,rfl⟩))
 have key2:=ZM (XcW prog GL0) (fl:=false) (lg:=[]) (λe=>by cases e) key1;have hlen:List.range' 0 6=List.range' 0 (m9a prog).length:=by rw[QcH]
 rw[hlen];refine Za7 (P:=prog) (Q:=λe a w'=>e=.normal∧Lift GL0 w ⟨[],M⟩ 62 g9994 (λρ σ _=>getF ρ [55,60,8,9]=[.iface ty (.agg [.rptr vs0 j]),.bptr 4 0,.bptr 1 0,.bptr 2 0]∧σ=[.box [iv sd,iv tg],.box [.nili],.box [iv 0],.box z,.box [.rptr bk 0,.rptr st 0,iv sd,iv tg]]) a w') _ _ (λa6 w6 hq=>?_) (λe a w hne hq=>(hne hq.1).elim) _ a5 w4
  (X2 _ _ (m9a prog) 0 _ _ [] g9994 a5 w4 QdF key2 r4 d6 (λa' w' hl=>⟨rfl,?_⟩))
 ·obtain⟨_,g9995,ρ5,σ5,lg5,l5,r5,d5',hv5,hσ5⟩:=hq;subst hσ5;simp only[getF,List.cons.injEq,and_true] at hv5;obtain⟨q55,q60,q8',q9'⟩:=hv5;have d7:DenF 62 g9995 [(55,.iface ty (.agg [.rptr vs0 j])),(60,.bptr 4 0),(8,.bptr 1 0),(9,.bptr 2 0)] a6:=d5'.weak (QaG.le ⟨q55,q60,q8',q9',trivial⟩);refine Ya7 YdN.1 YdN.2.2.2 ?_;unfold Oper.wp;rw[XaZ];have k55:=d7.slot 55;have k60:=d7.slot 60;simp only[fget] at k55 k60;obtain⟨ts,hop⟩:=YdN.2.1;generalize hp55:a6.tmps.getD 55 undef=p55 at k55;generalize hp60:a6.tmps.getD 60 undef=p60 at k60;have k55':g9995.den (.iface ty (.agg [.rptr vs0 j])) p55:=k55;have k60':g9995.den (.bptr 4 0) p60:=k60;cases k55' with
  |iface _ _ _ vv hvv=>
  have e60:a6.eval (.tmp 60)=p60:=hp60;have run6:(execOp a6.eval (op81 Qac 6 prog)).run prog w6=.ok (.enter fn #[vv,p60]) w6:=by
   have e55:a6.eval (.tmp 55)=.iface ty vv:=hp55;simp only[execOp,hop,resolve,e55,Sem.run_bind,Sem.run_pure,Result.andThen_ok,invoke];simp_all
  rw[run6,Oper.upon_enter];have hbor:Xu [.box [iv sd,iv tg],.box [.nili],.box [iv 0],.box z,.box [.rptr bk 0,.rptr st 0,iv sd,iv tg]] 1000 [.agg [.rptr vs0 j],.bptr 4 0]=some ([.agg [.rptr vs0 j],.rptr [.rptr bk 0,.rptr st 0,iv sd,iv tg] 0],[4]):=rfl;have ac:=h289.lend (QW _ _ _ _ hbor _ (λ_ q=>q)) hyf;refine Calls.mono (ac w ⟨[],M⟩ g9995 _ w6 [vv,p60] r5 ⟨hvv,k60',trivial⟩ (λ_ _=>rfl) (λ_ h=>by cases h)) ?_;rintro e w7 ⟨u,rfl,g9996,l6,r6,hu⟩;show wpOps prog (Qac prog) _ (List.range' 7 2) ((layD _ a6).put (op81 Qac 6 prog).dst u) w7;rw[YdN.2.2.1,Zac];have d8:=(d7.mono l6).put (d:=61) (by decide) hu;have key3:dnOps VV (m9b prog) [(61,y),(55,.iface ty (.agg [.rptr vs0 j])),(60,.bptr 4 0),(8,.bptr 1 0),(9,.bptr 2 0)] [.box [iv sd,iv tg],.box [.nili],.box [iv 0],.box z,.box [.rptr bk 0,.rptr st 0,iv sd,iv tg]]
    (λρ σ=>getF ρ [8,9]=[.bptr 1 0,.bptr 2 0]∧σ=[.box [iv sd,iv tg],.box [y],.box [iv 0],.box z,.box [.rptr bk 0,.rptr st 0,iv sd,iv tg]]):=by
   have:=d9b (.iface ty (.agg [.rptr vs0 j])) (.bptr 4 0) (.bptr 1 0) (.bptr 2 0) y Prop VV [.box [iv sd,iv tg],.box [.nili],.box [iv 0],.box z,.box [.rptr bk 0,.rptr st 0,iv sd,iv tg]]
    (λvs σ=>vs=[.bptr 1 0,.bptr 2 0]∧σ=[.box [iv sd,iv tg],.box [y],.box [iv 0],.box z,.box [.rptr bk 0,.rptr st 0,iv sd,iv tg]])
   rw[this];exact Yc (stv (row:=[.nili]) rfl hyc rfl rfl) rfl (Yc (v:=.junk) (up:=[(2,.box [iv 0])]) (rd:=[]) rfl rfl ⟨rfl,rfl⟩)
  have key4:=ZM (XcW prog GL0) (fl:=false) (lg:=[]) (λe=>by cases e) key3;rw[show List.range' 7 2=List.range' 7 (m9b prog).length++[] by rw[ZcI]; rfl];refine Za7 (P:=prog) (Q:=λe a w'=>e=.normal∧Lift GL0 w ⟨[],M⟩ 62 g9996 (λρ σ _=>getF ρ [8,9]=[.bptr 1 0,.bptr 2 0]∧σ=[.box [iv sd,iv tg],.box [y],.box [iv 0],.box z,.box [.rptr bk 0,.rptr st 0,iv sd,iv tg]]) a w') _ _ (λa8 w8 hq=>?_) (λe a w hne hq=>(hne hq.1).elim) _ _ w7
   (X2 _ _ (m9b prog) 7 _ _ [] g9996 _ w7 ZdG key4 r6 d8 (λa' w' hl=>⟨rfl,?_⟩))
  ·obtain⟨_,g9997,ρ7,σ7,lg7,l7,r7,d9,hv7,hσ7⟩:=hq;subst hσ7;simp only[getF,List.cons.injEq,and_true] at hv7;simp only[wpOps];refine wp_ret ?_;show Leaves prog Go.Proofs.Tryz.f62 a8.tmps _ (a8.defers++[{ target:=.fn (.func 90) #[p8,p9],args:=#[] }]) .returning w8;rw[d9.defers];refine leaves_cons (f:=90) (args:=#[p8,p9]) (by simp) (by rfl) ((idle123 p8 p9 w8).mono ?_);rintro e u' w9 ⟨rfl,rfl,rfl⟩;have hret:retV [.c 8 false 1,.c 9 false 1] ρ7 [.box [iv sd,iv tg],.box [y],.box [iv 0],.box z,.box [.rptr bk 0,.rptr st 0,iv sd,iv tg]]=some (.tup [y,iv 0]):=by
    simp_all [retV,retL,ret1,retOf]
   obtain⟨uo,ho1,ho2⟩:=Yan (P:=prog) r7 d9 r81 hret;refine⟨uo,ho1,uo,rfl,r7.keeps,g9997.M,?_,r7.stable,λb o e=>?_,Den.ro ho2 (by simp[AVal.ro,roL,hyr]) _⟩
   ·exact(le4.trans (l5.trans (l6.trans l7))).m
   ·rcases r7.src b o e with q|q|q<;>grind
  ·obtain⟨g',ρ',σ',lg',k1,k2,k3,k4,_⟩:=hl;exact⟨g',ρ',σ',lg',k1,k2,k3,k4⟩
 ·obtain⟨g',ρ',σ',lg',k1,k2,k3,k4,_⟩:=hl;exact⟨g',ρ',σ',lg',k1,k2,k3,k4⟩
theorem c81(b:Bk)(hf:bkFit b=true)(hsm:Qj b.cards)(s:St)(hs:StLe 1000000000 s)(hm:mayR (bkR b).1 b s true=true)(sd tg:Int)(h0:0≤sd)(h1:sd≤1)(vs0:List AVal)(j:Nat)(n:Int)
 (h289:PC 180 [.agg [.rptr vs0 j],.rptr [.rptr (bkC b) 0,.rptr (stC s) 0,iv sd,iv tg] 0] (.iface 3 (iv n))) :
  PC 62 [.rptr (bkC b) 0,.rptr (stC s) 0,.agg [iv sd,iv tg],.iface 131 (.agg [.rptr vs0 j])] (.tup [.iface 3 (iv n),iv 0]):=
 c81G (bkC b) (stC s) sd tg 131 180 vs0 j (.iface 3 (iv n)) rfl rfl rfl ask143 (Ybi b hf hsm s hs hm sd tg h0 h1 (.iface 131 (.agg [.rptr vs0 j])) λz=>⟨rfl,z,rfl⟩) h289
theorem c81C(b:Bk)(hf:bkFit b=true)(hsm:Qj b.cards)(s:St)(hs:StLe 1000000000 s)(hm:mayR (bkR b).1 b s true=true)(sd tg:Int)(h0:0≤sd)(h1:sd≤1)(vs0:List AVal)(j:Nat)(q:Bool)
 (h289:PC 200 [.agg [.rptr vs0 j],.rptr [.rptr (bkC b) 0,.rptr (stC s) 0,iv sd,iv tg] 0] (.iface 4 (.bool q))) :
  PC 62 [.rptr (bkC b) 0,.rptr (stC s) 0,.agg [iv sd,iv tg],.iface 135 (.agg [.rptr vs0 j])] (.tup [.iface 4 (.bool q),iv 0]):=
 c81G (bkC b) (stC s) sd tg 135 200 vs0 j (.iface 4 (.bool q)) rfl rfl rfl ask184 (Ybi b hf hsm s hs hm sd tg h0 h1 (.iface 135 (.agg [.rptr vs0 j])) λz=>⟨rfl,z,rfl⟩) h289
end Go.Ah.Tz
end
section
namespace Go.Ah.Tz
open Go.Proofs.Tryz (prog)
set_option maxRecDepth 100000
attribute [local irreducible] Ans.rd Ans.pu Ans.wr Ans.dr Ans.gr Ans.gw Ans.gl Ans.gd Ans.opt joinK W
set_option maxHeartbeats 4000000
def brt(n:Int):Int:=min (max n (-1000000)) 1000000
theorem c290(n:Int):PC 181 [iv n] (iv (brt n)):=by
 refine Qb hP g181.ok rfl rfl ?_;rw[H1.e]; unfold g181; dsimp only;exact Za (Zaf ..) (Za (YF ..) rfl)
@[reducible] def asR(b:Bk)(s:St)(sd tg:Int):List AVal:=[.rptr (bkC b) 0,.rptr (stC s) 0,iv sd,iv tg]
@[reducible] def asP(b:Bk)(s:St)(sd tg:Int):AVal:=.rptr (asR b s sd tg) 0
def whoS(sd who:Int):Int:=if who=1 then 1-sd else sd
theorem c295(b:Bk)(s:St)(sd tg who:Int)(h0:0≤sd)(h1:sd≤1):PC 186 [asP b s sd tg,iv8 who] (.rptr (stC s) (bif whoS sd who==0 then 7 else 15)):=by
 have hs:sd=0∨sd=1:=by omega
 refine Qb hP g186.ok rfl rfl ?_;rw[H2.e]; unfold g186; dsimp only;refine Za (Xd ..) (Zb (λh=>?_) (λh=>?_))
 ·have h:who=1:=by simpa using h
  subst h;rcases hs with rfl|rfl
  ·repeat first|refine Za (ldr (row:=asR _ _ _ _) rfl) ?_|refine Za rfl ?_
   rfl
  ·repeat first|refine Za (ldr (row:=asR _ _ _ _) rfl) ?_|refine Za rfl ?_
   rfl
 ·have h:who≠1:=by simpa using h
  rcases hs with rfl|rfl
  ·repeat first|refine Za (ldr (row:=asR _ _ _ _) rfl) ?_|refine Za rfl ?_
   simp[whoS,h]
  ·repeat first|refine Za (ldr (row:=asR _ _ _ _) rfl) ?_|refine Za rfl ?_
   simp[whoS,h]
def sdK(s:St)(k:Int):Sd:=if k=0 then s.s0 else s.s1
theorem X8{sd who:Int}(h0:0≤sd)(h1:sd≤1):whoS sd who=0∨whoS sd who=1:=by unfold whoS; split<;>omega
theorem c293(row:List AVal)(j:Nat)(x:Nm)(hx:NmAt row j x):PC 184 [.rptr row j] (iv x.n):=by
 refine Qb hP g184.ok rfl rfl ?_;rw[H1.e]; unfold g184; dsimp only;exact Za rfl (Za rfl (Za (ldr hx.h1) rfl))
theorem c294(b:Bk)(s:St)(sd tg:Int)(h0:0≤sd)(h1:sd≤1)(row:List AVal)(j:Nat)(x:Nm)(hx:NmAt row j x):PC 185 [.rptr row j,.rptr [asP b s sd tg] 0] (iv (sdK s (whoS sd x.who)).life):=by
 refine Qb hP g185.ok rfl rfl ?_;rw[H2.e]; unfold g185; dsimp only;refine Zg (ldr (row:=[asP b s sd tg]) rfl) rfl (Zd rfl (Zd rfl (Zg (ldr hx.h2) rfl (Xf (c295 b s sd tg x.who h0 h1) rfl g186.ok.plain rfl ?_))));rcases X8 (who:=x.who) h0 h1 with h|h
 ·rw[h];exact Zd rfl (Zd rfl (Zg (ldr (row:=stC s) rfl) rfl (Xr (by kernel_rfl) rfl)))
 ·rw[h];exact Zd rfl (Zd rfl (Zg (ldr (row:=stC s) rfl) rfl (Xr (by kernel_rfl) rfl)))
theorem c296(b:Bk)(s:St)(sd tg:Int)(h0:0≤sd)(h1:sd≤1)(row:List AVal)(j:Nat)(x:Nm)(hx:NmAt row j x):PC 187 [.rptr row j,.rptr [asP b s sd tg] 0] (iv (sdK s (whoS sd x.who)).hand.length):=by
 refine Qb hP g187.ok rfl rfl ?_;rw[H2.e]; unfold g187; dsimp only;refine Zg (ldr (row:=[asP b s sd tg]) rfl) rfl (Zd rfl (Zd rfl (Zg (ldr hx.h2) rfl (Xf (c295 b s sd tg x.who h0 h1) rfl g186.ok.plain rfl ?_))));rcases X8 (who:=x.who) h0 h1 with h|h
 ·rw[h];refine Zd rfl (Zd rfl (Zg (v:=rowV s.s0.hand) (ldr (row:=stC s) rfl) rfl (Zd (v:=iv s.s0.hand.length) (by simp[Qs]) (Xr (by kernel_rfl) rfl))))
 ·rw[h];refine Zd rfl (Zd rfl (Zg (v:=rowV s.s1.hand) (ldr (row:=stC s) rfl) rfl (Zd (v:=iv s.s1.hand.length) (by simp[Qs]) (Xr (by kernel_rfl) rfl))))
theorem c297(b:Bk)(s:St)(sd tg:Int)(h0:0≤sd)(h1:sd≤1)(row:List AVal)(j:Nat)(x:Nm)(hx:NmAt row j x):PC 188 [.rptr row j,.rptr [asP b s sd tg] 0] (iv (sdK s (whoS sd x.who)).deck.length):=by
 refine Qb hP g188.ok rfl rfl ?_;rw[H2.e]; unfold g188; dsimp only;refine Zg (ldr (row:=[asP b s sd tg]) rfl) rfl (Zd rfl (Zd rfl (Zg (ldr hx.h2) rfl (Xf (c295 b s sd tg x.who h0 h1) rfl g186.ok.plain rfl ?_))));rcases X8 (who:=x.who) h0 h1 with h|h
 ·rw[h];refine Zd rfl (Zd rfl (Zg (v:=rowV s.s0.deck) (ldr (row:=stC s) rfl) rfl (Zd (v:=iv s.s0.deck.length) (by simp[Qs]) (Xr (by kernel_rfl) rfl))))
 ·rw[h];refine Zd rfl (Zd rfl (Zg (v:=rowV s.s1.deck) (ldr (row:=stC s) rfl) rfl (Zd (v:=iv s.s1.deck.length) (by simp[Qs]) (Xr (by kernel_rfl) rfl))))
theorem c298(b:Bk)(s:St)(sd tg:Int)(h0:0≤sd)(h1:sd≤1)(row:List AVal)(j:Nat)(x:Nm)(hx:NmAt row j x):PC 189 [.rptr row j,.rptr [asP b s sd tg] 0] (iv (sdK s (whoS sd x.who)).units.length):=by
 refine Qb hP g189.ok rfl rfl ?_;rw[H2.e]; unfold g189; dsimp only;refine Zg (ldr (row:=[asP b s sd tg]) rfl) rfl (Zd rfl (Zd rfl (Zg (ldr hx.h2) rfl (Xf (c295 b s sd tg x.who h0 h1) rfl g186.ok.plain rfl ?_))));rcases X8 (who:=x.who) h0 h1 with h|h
 ·rw[h];refine Zd rfl (Zd rfl (Zg (v:=thV s.s0.units) (ldr (row:=stC s) rfl) rfl (Zd (v:=iv s.s0.units.length) (by simp[Qs]) (Xr (by kernel_rfl) rfl))))
 ·rw[h];refine Zd rfl (Zd rfl (Zg (v:=thV s.s1.units) (ldr (row:=stC s) rfl) rfl (Zd (v:=iv s.s1.units.length) (by simp[Qs]) (Xr (by kernel_rfl) rfl))))
theorem c299(b:Bk)(s:St)(sd tg:Int)(h0:0≤sd)(h1:sd≤1)(y:AVal):PC 190 [y,.rptr [asP b s sd tg] 0] (iv (sdK s sd).mana):=by
 refine Qb hP g190.ok rfl rfl ?_;rw[H2.e]; unfold g190; dsimp only;refine Za (ldr (row:=[asP b s sd tg]) rfl) (Xb (c295 b s sd tg 0 h0 h1) rfl g186.ok.plain rfl ?_);have hs:sd=0∨sd=1:=by omega
 rcases hs with rfl|rfl
 ·exact Za rfl (Za rfl (Za (ldr (row:=stC s) rfl) rfl))
 ·exact Za rfl (Za rfl (Za (ldr (row:=stC s) rfl) rfl))
def topN(b:Bk)(d:Sd):Int:=match d.deck with
 |[]=>0
 |c::_=>match b.cards[c.toNat]? with
  |some k=>k.cost
  |none=>0
theorem c300(b:Bk)(s:St)(sd tg:Int)(h0:0≤sd)(h1:sd≤1)(hd:∀c∈(sdK s sd).deck,0≤c∧c.toNat<b.cards.length)(y:AVal):PC 191 [y,.rptr [asP b s sd tg] 0] (iv (topN b (sdK s sd))):=by
 refine Qb hP g191.ok rfl rfl ?_;rw[H2.e]; unfold g191; dsimp only;refine Za (ldr (row:=[asP b s sd tg]) rfl) (Xb (c295 b s sd tg 0 h0 h1) rfl g186.ok.plain rfl ?_);have go:∀(j:Nat),partA false (j+3) 1 (stC s)=some (rowV (sdK s sd).deck)→∀t:AVal,t=.rptr (stC s) j →
   VV.rd (Zh [t] []) λt7_2=>
   VV.rd (Ze 3 [t7_2] []) λt8_3=>
   VV.rd (Xk false 1 [t8_3] []) λt9_4=>
   VV.rd (Qs [t9_4] []) λt11_5=>
   VV.rd (Yn .gtr false [t11_5,(.int .i64 0)] []) λt12_6=>
   VV.test t12_6 (
   VV.rd (Xk false 1 [.rptr [asP b s sd tg] 0] []) λt13_7=>
   VV.rd (Zh [t13_7] []) λt14_8=>
   VV.rd (Ze 0 [t14_8] []) λt15_9=>
   VV.rd (Xk false 1 [t15_9] []) λt16_10=>
   VV.rd (Zh [t16_10] []) λt17_11=>
   VV.rd (Ze 0 [t17_11] []) λt18_12=>
   VV.rd (Xk false 1 [t18_12] []) λt19_13=>
   VV.rd (Zo 1 [t9_4,(.int .i64 0)] []) λt21_14=>
   VV.rd (Xk false 1 [t21_14] []) λt22_15=>
   VV.rd (Zo 12 [t19_13,t22_15] []) λt23_16=>
   VV.rd (Ze 2 [t23_16] []) λt24_17=>
   VV.rd (Xk false 1 [t24_17] []) λt25_18=>
   t25_18=iv (topN b (sdK s sd))) (
   (AVal.int .i64 0)=iv (topN b (sdK s sd))):=by
  rintro j hj t rfl;refine Za rfl (Za rfl (Za (ldr hj) (Za (v:=iv (sdK s sd).deck.length) (rd:=[]) (by simp[Qs]) (Za rfl ?_))));cases hdk:(sdK s sd).deck with
  |nil=>refine Zb (λh=>by simp at h) (λ_=>?_); simp[topN,hdk]
  |cons c l=>
   obtain⟨q1,q2⟩:=hd c (by rw[hdk]; simp);refine Zb (λ_=>?_) (λh=>by simp at h);refine Za (ldr (row:=[asP b s sd tg]) rfl) (Za rfl (Za rfl (Za (ldr (row:=asR b s sd tg) rfl) (Za rfl (Za rfl (Za (v:=cdV b.cards) (ldr (row:=bkC b) rfl) ?_))))));refine Za (v:=.rptr [iv c] 0) (rd:=[]) rfl (Za (ldr (row:=[iv c]) rfl) (Za (Qa7 _ cdC _ _ _ b.cards _ c q1 q2) (Za rfl (Za (v:=iv b.cards[c.toNat].cost) (ldr rfl) ?_))));simp[topN,hdk,q2]
 have hs:sd=0∨sd=1:=by omega
 rcases hs with rfl|rfl
 ·exact go 7 rfl _ rfl
 ·exact go 15 rfl _ rfl
end Go.Ah.Tz
end
section
namespace Go.Ah.Tz
open Go.Proofs.Tryz (prog)
set_option maxRecDepth 100000
def QcL(b:Bk)(s:St)(sd tg op n who:Int):Int:=
 if op=0 then n else if op=1 then (sdK s (whoS sd who)).life else if op=2 then (sdK s (whoS sd who)).hand.length else if op=3 then (sdK s (whoS sd who)).deck.length
 else if op=4 then (sdK s (whoS sd who)).units.length else if op=5 then (sdK s sd).mana else if op=6 then topN b (sdK s sd) else (powId b s tg).1
def bothF(op y z:Int):Int:=if op=8 then y+z else if op=9 then y-z else if op=10 then y*z else if op=11 then min y z else max y z
def bothL(op:Int):List Int→Int
 |y::z::_=>bothF op y z
 |_=>0
mutual
def numF (b:Bk) (s:St) (sd tg:Int):Nm→Int
 |.mk op n who kids=>brt (if op<8 then QcL b s sd tg op n who else bothL op (numFs b s sd tg kids))
def numFs (b:Bk) (s:St) (sd tg:Int):List Nm→List Int
 |[]=>[]
 |x::l=>numF b s sd tg x::numFs b s sd tg l
end
theorem ZbS(b:Bk)(s:St)(sd tg:Int)(x:Nm):numF b s sd tg x=brt (if x.op<8 then QcL b s sd tg x.op x.n x.who else bothL x.op (numFs b s sd tg x.kids)):=by cases x; rfl
theorem Ydx(n:Int):-1000000≤brt n∧brt n≤1000000:=by unfold brt; omega
theorem QbR(b:Bk)(s:St)(sd tg:Int)(x:Nm):-1000000≤numF b s sd tg x∧numF b s sd tg x≤1000000:=by rw[ZbS]; exact Ydx _
attribute [local irreducible] Ans.rd Ans.pu Ans.wr Ans.dr Ans.gr Ans.gw Ans.gl Ans.gd Ans.opt joinK W
set_option maxHeartbeats 4000000
theorem c302(y z:Int)(hy:-1000000≤y∧y≤1000000)(hz:-1000000≤z∧z≤1000000):PC 194 [iv y,iv z] (iv (y+z)):=by
 refine Qb hP g194.ok rfl rfl ?_;rw[H2.e]; unfold g194; dsimp only;refine Za rfl ?_;rw[wrapI (by omega) (by omega)]
theorem c303(y z:Int)(hy:-1000000≤y∧y≤1000000)(hz:-1000000≤z∧z≤1000000):PC 195 [iv y,iv z] (iv (y-z)):=by
 refine Qb hP g195.ok rfl rfl ?_;rw[H2.e]; unfold g195; dsimp only;refine Za rfl ?_;rw[wrapI (by omega) (by omega)]
theorem YdG{y z:Int}(hy:-1000000≤y∧y≤1000000)(hz:-1000000≤z∧z≤1000000):-1000000000000≤y*z∧y*z≤1000000000000:=by
 have h1:(y*z).natAbs≤1000000*1000000:=by rw[Int.natAbs_mul]; exact Nat.mul_le_mul (by omega) (by omega)
 omega
theorem c304(y z:Int)(hy:-1000000≤y∧y≤1000000)(hz:-1000000≤z∧z≤1000000):PC 196 [iv y,iv z] (iv (y*z)):=by
 refine Qb hP g196.ok rfl rfl ?_;rw[H2.e]; unfold g196; dsimp only;refine Za rfl ?_;have:=YdG hy hz;rw[wrapI (by omega) (by omega)]
theorem c305(y z:Int):PC 197 [iv y,iv z] (iv (min y z)):=by
 refine Qb hP g197.ok rfl rfl ?_;rw[H2.e]; unfold g197; dsimp only;exact Za (YF ..) rfl
theorem c306(y z:Int):PC 198 [iv y,iv z] (iv (max y z)):=by
 refine Qb hP g198.ok rfl rfl ?_;rw[H2.e]; unfold g198; dsimp only;exact Za (Zaf ..) rfl
theorem c301(b:Bk)(hf:bkFit b=true)(hsm:Qj b.cards)(s:St)(hs:StLe 1000000000 s)(hm:mayR (bkR b).1 b s true=true)(sd tg:Int)(y:AVal):PC 192 [y,.rptr [asP b s sd tg] 0] (iv (powId b s tg).1):=by
 refine Qb hP g192.ok rfl rfl ?_;rw[H2.e]; unfold g192; dsimp only;refine Zg (ldr (row:=[asP b s sd tg]) rfl) rfl (Zd rfl (Zd rfl (Zg (ldr (row:=asR b s sd tg) rfl) rfl (Zd rfl (Zg (v:=bkV b) (ldr (row:=bkC b) rfl) rfl ?_)))));refine Zg (ldr (row:=[asP b s sd tg]) rfl) rfl (Zd rfl (Zd rfl (Zg (ldr (row:=asR b s sd tg) rfl) rfl (Zd rfl (Zg (v:=stV s) (ldr (row:=stC s) rfl) rfl ?_)))));refine Zg (ldr (row:=[asP b s sd tg]) rfl) rfl (Zd rfl (Zd rfl (Zd rfl (Zg (v:=iv tg) (ldr (row:=asR b s sd tg) rfl) rfl (Xf (c54 b hf hsm s hs hm tg) rfl g193.ok.plain rfl ?_)))));exact Zd rfl (Zd rfl (Zd rfl (Xr (by kernel_rfl) rfl)))
@[reducible] def capA(b:Bk)(s:St)(sd tg:Int):AVal:=.rptr [asP b s sd tg] 0
@[reducible] def clA(b:Bk)(s:St)(sd tg:Int):AVal:=.agg [.func (.func 184) [] [],.func (.func 185) [] [capA b s sd tg],.func (.func 187) [] [capA b s sd tg],.func (.func 188) [] [capA b s sd tg],.func (.func 189) [] [capA b s sd tg],.func (.func 190) [] [capA b s sd tg],.func (.func 191) [] [capA b s sd tg],.func (.func 192) [] [capA b s sd tg]]
theorem c291(b:Bk)(s:St)(sd tg:Int):PC 182 [asP b s sd tg] (clA b s sd tg):=by
 refine Xa1 hP g182.ok rfl ⟨.agg [.func (.func 184) [] [],.func (.func 185) [] [.bptr 0 0],.func (.func 187) [] [.bptr 0 0],.func (.func 188) [] [.bptr 0 0],.func (.func 189) [] [.bptr 0 0],.func (.func 190) [] [.bptr 0 0],.func (.func 191) [] [.bptr 0 0],.func (.func 192) [] [.bptr 0 0]],
  [.box [asP b s sd tg],.box [.func (.func 184) [] [],.func (.func 185) [] [.bptr 0 0],.func (.func 187) [] [.bptr 0 0],.func (.func 188) [] [.bptr 0 0],.func (.func 189) [] [.bptr 0 0],.func (.func 190) [] [.bptr 0 0],.func (.func 191) [] [.bptr 0 0],.func (.func 192) [] [.bptr 0 0]]],rfl,?_⟩
 rw[H1.e]; unfold g182; dsimp only;refine Yc rfl rfl (Yc rfl rfl ?_);repeat first|refine Za rfl ?_|refine Yc rfl rfl ?_
 exact Qi rfl ⟨rfl,rfl⟩
@[reducible] def clB:AVal:=.agg [.func (.func 194) [] [],.func (.func 195) [] [],.func (.func 196) [] [],.func (.func 197) [] [],.func (.func 198) [] []]
theorem c292:PC 183 [] clB:=by
 refine Qb hP g183.ok rfl rfl ?_;unfold g183; dsimp only[H0.u];exact Yc rfl rfl (Za rfl (Yc rfl rfl (Qi rfl rfl)))
end Go.Ah.Tz
end
section
namespace Go.Ah.Tz
open Go.Proofs.Tryz (prog)
set_option maxRecDepth 100000
attribute [local irreducible] Ans.rd Ans.pu Ans.wr Ans.dr Ans.gr Ans.gw Ans.gl Ans.gd Ans.opt joinK W
set_option maxHeartbeats 8000000
theorem c289'(b:Bk)(hf:bkFit b=true)(hsm:Qj b.cards)(s:St)(hs:StLe 1000000000 s)(hm:mayR (bkR b).1 b s true=true)(sd tg:Int)(h0:0≤sd)(h1:sd≤1)(hd:∀c∈(sdK s sd).deck,0≤c∧c.toNat<b.cards.length)(t:Bool) :
  ∀(k:Nat) (x:Nm) (row:List AVal) (j:Nat),NmAt row j x→SizeOf.sizeOf x≤k→nmFit x=true→nmOk t x=true→PC 180 [.agg [.rptr row j],asP b s sd tg] (.iface 3 (iv (numF b s sd tg x)))
 |0,x,_,_,_,h,_,_=>by cases x; simp at h
 |k+1,x,row,j,hx,hk,hfx,hok=>by
  have hk1:=hok;rw[Qbr] at hk1;simp only[Bool.and_eq_true] at hk1;obtain⟨k1,k2,k3⟩:=hk1;simp only[nmTop,Bool.and_eq_true,decide_eq_true_eq] at k1;obtain⟨ka,kb,kc⟩:=k1;refine Qb hP g180.ok rfl rfl ?_;rw[H2.e]; unfold g180; dsimp only;refine Yc (v:=.bptr 0 0) (rd:=[]) (up:=[(0,.box [.rptr row j])]) rfl rfl (Za rfl (Za (ld (row:=[.rptr row j]) rfl rfl) (Za rfl (Za rfl (Za (ldr hx.h0) (Za (v:=.bool (decide (x.op<8))) rfl ?_))))));refine Zb (λh=>?_) (λh=>?_)
  ·have h:x.op<8:=by simpa using h
   have hv:numF b s sd tg x=brt (QcL b s sd tg x.op x.n x.who):=by rw[ZbS,if_pos h]
   rw[hv];refine Xf (c291 b s sd tg) rfl g182.ok.plain rfl ?_;refine Zd rfl (Zg (ld (row:=[.rptr row j]) rfl rfl) rfl (Zd rfl (Zd rfl (Zg (ldr hx.h0) rfl ?_))));have hop:x.op=0∨x.op=1∨x.op=2∨x.op=3∨x.op=4∨x.op=5∨x.op=6∨x.op=7:=by omega
   rcases hop with e|e|e|e|e|e|e|e<;>rw[e]
   ·exact Zd rfl (Zd rfl (Zg (ld (row:=[.rptr row j]) rfl rfl) rfl (Xf (c293 row j x hx) rfl g184.ok.plain rfl (Xf (c290 _) rfl g181.ok.plain rfl (Zd rfl (Xr (by kernel_rfl) rfl))))))
   ·exact Zd rfl (Zd rfl (Zg (ld (row:=[.rptr row j]) rfl rfl) rfl (Xf (c294 b s sd tg h0 h1 row j x hx) rfl g185.ok.plain rfl (Xf (c290 _) rfl g181.ok.plain rfl (Zd rfl (Xr (by kernel_rfl) rfl))))))
   ·exact Zd rfl (Zd rfl (Zg (ld (row:=[.rptr row j]) rfl rfl) rfl (Xf (c296 b s sd tg h0 h1 row j x hx) rfl g187.ok.plain rfl (Xf (c290 _) rfl g181.ok.plain rfl (Zd rfl (Xr (by kernel_rfl) rfl))))))
   ·exact Zd rfl (Zd rfl (Zg (ld (row:=[.rptr row j]) rfl rfl) rfl (Xf (c297 b s sd tg h0 h1 row j x hx) rfl g188.ok.plain rfl (Xf (c290 _) rfl g181.ok.plain rfl (Zd rfl (Xr (by kernel_rfl) rfl))))))
   ·exact Zd rfl (Zd rfl (Zg (ld (row:=[.rptr row j]) rfl rfl) rfl (Xf (c298 b s sd tg h0 h1 row j x hx) rfl g189.ok.plain rfl (Xf (c290 _) rfl g181.ok.plain rfl (Zd rfl (Xr (by kernel_rfl) rfl))))))
   ·exact Zd rfl (Zd rfl (Zg (ld (row:=[.rptr row j]) rfl rfl) rfl (Xf (c299 b s sd tg h0 h1 _) rfl g190.ok.plain rfl (Xf (c290 _) rfl g181.ok.plain rfl (Zd rfl (Xr (by kernel_rfl) rfl))))))
   ·exact Zd rfl (Zd rfl (Zg (ld (row:=[.rptr row j]) rfl rfl) rfl (Xf (c300 b s sd tg h0 h1 hd _) rfl g191.ok.plain rfl (Xf (c290 _) rfl g181.ok.plain rfl (Zd rfl (Xr (by kernel_rfl) rfl))))))
   ·exact Zd rfl (Zd rfl (Zg (ld (row:=[.rptr row j]) rfl rfl) rfl (Xf (c301 b hf hsm s hs hm sd tg _) rfl g192.ok.plain rfl (Xf (c290 _) rfl g181.ok.plain rfl (Zd rfl (Xr (by kernel_rfl) rfl))))))
  ·have h:¬x.op<8:=by simpa using h
   have hl:x.kids.length=2:=by rw[kc]; simp[nmK]; omega
   have hm0:x.kids[0]∈x.kids:=List.getElem_mem (by omega);have hm1:x.kids[1]∈x.kids:=List.getElem_mem (by omega);have hks:∀y∈x.kids,nmOk t y=true:=by
    have:∀l:List Nm,nmsOk t l=true→∀y∈l,nmOk t y=true:=by
     intro l
     induction l with
     |nil=>intro _ y hy; simp at hy
     |cons a l ih=>
      intro hh y hy;simp only[nmsOk,Bool.and_eq_true] at hh;simp only[List.mem_cons] at hy;rcases hy with rfl|hy
      ·exact hh.1
      ·exact ih hh.2 y hy
    exact this _ k2
   have hv:numF b s sd tg x=brt (bothF x.op (numF b s sd tg x.kids[0]) (numF b s sd tg x.kids[1])):=by
    rw[ZbS,if_neg h];have hkk:x.kids=[x.kids[0],x.kids[1]]:=by
     apply List.ext_getElem (by simp[hl]);intro i h1 h2;have:i=0∨i=1:=by simp at h2; omega
     rcases this with rfl|rfl<;>rfl
    conv=>lhs; rw[hkk]
    simp[numFs,bothL]
   rw[hv];have r0:=c289' b hf hsm s hs hm sd tg h0 h1 hd t k x.kids[0] (nmC x.kids[0]) 0 (nmAt _) (by have:=Xac hm0; omega) (XO hfx hm0) (hks _ hm0);have r1:=c289' b hf hsm s hs hm sd tg h0 h1 hd t k x.kids[1] (nmC x.kids[1]) 0 (nmAt _) (by have:=Xac hm1; omega) (XO hfx hm1) (hks _ hm1);have b0:=QbR b s sd tg x.kids[0];have b1:=QbR b s sd tg x.kids[1];refine Za rfl (Za (ld (row:=[.rptr row j]) rfl rfl) (Za rfl (Za rfl (Za (ldr hx.h3) (Za (Yo _ nmC _ _ _ x.kids _ 0 (by omega)) (Za rfl (Xb r0 rfl g180.ok.plain rfl (Za rfl ?_))))))));refine Za rfl (Za (ld (row:=[.rptr row j]) rfl rfl) (Za rfl (Za rfl (Za (ldr hx.h3) (Za (Yo _ nmC _ _ _ x.kids _ 1 (by omega)) (Za rfl (Xb r1 rfl g180.ok.plain rfl (Za rfl ?_))))))));refine Xf c292 rfl g183.ok.plain rfl (Zd rfl (Zg (ld (row:=[.rptr row j]) rfl rfl) rfl (Zd rfl (Zd rfl (Zg (ldr hx.h0) rfl ?_)))));have hop:x.op=8∨x.op=9∨x.op=10∨x.op=11∨x.op=12:=by omega
   rcases hop with e|e|e|e|e<;>rw[e]
   ·exact Zd rfl (Zd rfl (Xf (c302 _ _ b0 b1) rfl g194.ok.plain rfl (Xf (c290 _) rfl g181.ok.plain rfl (Zd rfl (Xr (by kernel_rfl) rfl)))))
   ·exact Zd rfl (Zd rfl (Xf (c303 _ _ b0 b1) rfl g195.ok.plain rfl (Xf (c290 _) rfl g181.ok.plain rfl (Zd rfl (Xr (by kernel_rfl) rfl)))))
   ·exact Zd rfl (Zd rfl (Xf (c304 _ _ b0 b1) rfl g196.ok.plain rfl (Xf (c290 _) rfl g181.ok.plain rfl (Zd rfl (Xr (by kernel_rfl) rfl)))))
   ·exact Zd rfl (Zd rfl (Xf (c305 _ _) rfl g197.ok.plain rfl (Xf (c290 _) rfl g181.ok.plain rfl (Zd rfl (Xr (by kernel_rfl) rfl)))))
   ·exact Zd rfl (Zd rfl (Xf (c306 _ _) rfl g198.ok.plain rfl (Xf (c290 _) rfl g181.ok.plain rfl (Zd rfl (Xr (by kernel_rfl) rfl)))))
end Go.Ah.Tz
end
section
namespace Go.Ah.Tz
open Go.Proofs.Tryz (prog)
set_option maxRecDepth 100000
attribute [local irreducible] Ans.rd Ans.pu Ans.wr Ans.dr Ans.gr Ans.gw Ans.gl Ans.gd Ans.opt joinK W
set_option maxHeartbeats 4000000
theorem c125(cs:List Cd)(hf:XG cs=true)(l:List Ef)(hl:lsFit l=true):PC 91 [cdV cs,efV l] (.bool (lstOk cs true 1 l)):=by
 simp only[XG,Bool.and_eq_true,decide_eq_true_eq] at hf;obtain⟨f0,f1⟩:=hf;rw[bigE] at f0;refine Qb hP g91.ok rfl rfl ?_;rw[H2.e]; unfold g91; dsimp only;refine Yc rfl rfl (Za rfl ?_);refine Xj (ι:=Nat) (λi vs σ=>∃m,vs=[iv i]∧hget σ 0=.map (mpE m)∧0<σ.length∧i≤cs.length∧UnitsO m (cs.take i)) (λi=>cs.length-i) 0 ⟨[],rfl,rfl,by simp,by omega,λt=>by simp[tlook,findO]⟩ ?_;rintro i vs σ again ⟨m,rfl,hm,hln,hi,hu⟩ hag;refine Za rfl ?_;refine Zb (λh=>?_) (λh=>?_)
 ·have hil:i<cs.length:=by simpa using h
  have hix:=λ(s:List ABlk)=>Yo s cdC false false 12 cs .i64 i hil;have htk:cs.take (i+1)=cs.take i++[cs[i]]:=Zu cs i hil;generalize cs[i]=c at hix htk;refine Zi λk10 hk10=>?_;have kk:∀m' σ',UnitsO m' (cs.take i++[c])→hget σ' 0=.map (mpE m')→0<σ'.length→k10 [] σ':=by
   intro m' σ' q1 q3 q4;rw[hk10];refine Za (Yh ..) ?_;rw[Qd (n:=i) (by omega)];exact hag (i+1) _ _ (by omega) ⟨m',rfl,q3,q4,by omega,by rw[htk]; exact q1⟩
  clear hk10 hag;refine Za (hix _) (Za (ldr (cdLd _)) (Yx (row:=cdC c) (row':=cdC c) rfl rfl rfl ?_));have hB0:=Qf σ (ABlk.box (cdC c));have hm':hget (σ++[ABlk.box (cdC c)]) 0=.map (mpE m):=Zf _ hm (by simp);have hl':0<(σ++[ABlk.box (cdC c)]).length:=by simp
  generalize σ++[ABlk.box (cdC c)]=base at hB0 hm' hl' ⊢;generalize σ.length=b at hB0 ⊢;refine Za rfl (Za (ld hB0 rfl) (Za (ZcA hm' _) (Za rfl (Za rfl (Za rfl ?_)))));refine Zb (λh=>?_) (λh=>?_)
  ·have h:(tlook c.name m).isSome=false:=by simpa using h
   refine Za rfl (Za (ld hB0 rfl) (Za rfl (Za (ld hB0 rfl) (Yc (Qbc hm' _ _) (Yj _ hl') ?_))));exact kk _ _ (hu.new h) (Qg _ hl') (by simpa using hl')
  ·have h:(tlook c.name m).isSome=true:=by simpa using h
   exact kk _ _ (hu.old h) hm' hl'
 have h:i=cs.length:=by simp at h; omega
 subst h;rw[List.take_length] at hu;refine Za rfl (Yc (v:=.bptr σ.length 0) (rd:=[]) (up:=[(σ.length,.box [.map 0,.bool true])]) rfl (Xl _ _) ?_);have hB:=Qf σ (ABlk.box [.map 0,.bool true]);have hm':hget (σ++[ABlk.box [.map 0,.bool true]]) 0=.map (mpE m):=Zf _ hm (by simp);refine ZC (rd:=[0,σ.length]) (c157 m cs hu.units true l 1 hl (by omega)) rfl g78.ok.plain (.cons (Bor.box (XL hB) (by simp) (.cons (Bor.map (Zaz hm') (by simp) (QbS (YaR m))) (BorL.ro rfl))) (BorL.ro rfl)) rfl ?_;rfl
def cn0:Cn:=.mk 0 0 [] [] []
def gainE(x:Nm):Ef:=.mk 3 0 x [] cn0 [] []
def Xbi(x:Nm):Cd:=⟨[80,114,111,98,101],false,0,0,0,0,0,0,[gainE x],[],[],0⟩
@[reducible] def gainR(x:Nm):List AVal:=[iv8 3,iv8 0,iv8 x.op,iv x.n,iv8 x.who,.rsl false false 4 (x.kids.map nmC),.str [],iv8 0,iv8 0,.str [],.nils,.nils,.nils,.nils]
theorem Yc3{h0:Hp}{rd:List Nat}(x:Nm):BorL h0 rd (gainR x) (efC (gainE x)):=by
 rw[ZA];exact .cons (Bor.ro rfl) <| .cons (Bor.ro rfl) <| .cons (Bor.ro rfl) <| .cons (Bor.ro rfl) <| .cons (Bor.ro rfl) <| .cons (Bor.ro rfl) <| .cons (Bor.ro rfl) <| .cons (Bor.ro rfl) <| .cons (Bor.ro rfl) <| .cons (Bor.ro rfl) <|
  .cons (Bor.weak (Bor.ro rfl) (λM u d=>d.nils_rsl 4)) <| .cons (Bor.weak (Bor.ro rfl) (λM u d=>d.nils_rsl 5)) <| .cons (Bor.weak (Bor.ro rfl) (λM u d=>d.nils_rsl 14)) <| .cons (Bor.weak (Bor.ro rfl) (λM u d=>d.nils_rsl 14)) .nil
theorem ZcF{h0:Hp}{rd:List Nat}(x:Nm){b:Nat}(hb:h0 b=some (.rows 14 [gainR x]))(hin:b∈rd):Bor h0 rd (.sl b 0 1 true) (efV [gainE x]):=by
 refine Bor.weak (y:=.rsl true false 14 [efC (gainE x)]) (Bor.sl hb hin (by simp) rfl (λi row row' e1 e2=>?_)) (λM u d=>d.rsl_weak)
 match i with
 |0=>simp at e1 e2; subst e1; subst e2; exact Yc3 x
 |i+1=>simp at e2
theorem Yb2{x:Nm}(h:nmFit x=true):lsFit [gainE x]=true:=by
 simp[lsFit,gainE,Xap,efFit,h,cnFit,cn0,bigE,ZaA,QaS,i8B]
theorem c82(b:Bk)(hf:bkFit b=true)(x:Nm)(hx:nmFit x=true)(hok:nmOk true x=true)(hw:nmW x≤200):PC 63 [.rptr (nmC x) 0,.nilp,.rptr (bkC b) 0] (.bool true):=by
 have hcs:XG b.cards=true:=by
  simp only[bkFit,Bool.and_eq_true] at hf; exact hf.1
 have hlen:((nmP x).length:Int)=nmW x:=by have:=ZcK x; omega
 have hP1:(cdP (Xbi x)).length=1+(nmP x).length:=by simp[cdP,Xbi,efPs,gainE,efP,cntOp]; omega
 have hW:cdW (Xbi x)=1+nmW x:=by rw[XcY,hP1]; omega
 have hlst:lstOk b.cards true 1 [gainE x]=true:=by
  simp[lstOk,efsOk,Zas,gainE,Ef.op,Ef.c,Ef.thn,Ef.els,Ef.n,Ef.name,Ef.who,cntOp,hok,noCond,cn0,efEnd,efMid,Cn.op,Cn.who,Cn.name,Cn.nums,Cn.kids]
 have hw1:decide (cdW (Xbi x)-1>200)=false:=decide_eq_false (by omega);have h124:=c124 (Xbi x) (Yb2 hx) rfl rfl (by rw[hP1]; omega);have h125:=c125 b.cards hcs [gainE x] (Yb2 hx);rw[hlst] at h125;rw[Qx];refine Qb hP g63.ok rfl rfl ?_;rw[H3.e]; unfold g63; dsimp only;refine Za rfl (Yc (v:=.bptr 0 0) rfl rfl (Yc (v:=.junk) (rd:=[]) (up:=[(0,.box [iv8 3,iv8 0,iv8 0,iv 0,iv8 0,.nils,.str [],iv8 0,iv8 0,.str [],.nils,.nils,.nils,.nils])]) rfl rfl (Za rfl (ZV (Qc (Za rfl (Za (ldr rfl) (Za rfl ?_))))))));refine Yc (v:=.junk) (rd:=[]) (up:=[(0,.box (gainR x))]) rfl rfl ?_;refine Za (ld (row:=gainR x) rfl rfl) (Yc (v:=.sl 1 0 1 true) (rd:=[]) (up:=[(1,.rows 14 [gainR x])]) rfl rfl (Za rfl (Yc (v:=.bptr 2 0) rfl rfl ?_)));refine Yc (v:=.junk) (rd:=[]) (up:=[(2,.box [.str [80,114,111,98,101],.bool false,iv 0,iv 0,iv 0,iv 0,iv 0,iv 0,.sl 1 0 1 true,.nils,.nils,iv 0])]) rfl rfl ?_;refine Za (ld (row:=[.str [80,114,111,98,101],.bool false,iv 0,iv 0,iv 0,iv 0,iv 0,iv 0,.sl 1 0 1 true,.nils,.nils,iv 0]) rfl rfl) ?_;refine ZC (rd:=[1]) h124 rfl g77.ok.plain (.cons (Bor.agg ?_) .nil) rfl ?_
 ·exact .cons (Bor.ro rfl) <| .cons (Bor.ro rfl) <| .cons (Bor.ro rfl) <| .cons (Bor.ro rfl) <| .cons (Bor.ro rfl) <| .cons (Bor.ro rfl) <| .cons (Bor.ro rfl) <| .cons (Bor.ro rfl) <| .cons (ZcF x rfl (by simp)) <|
   .cons (Bor.weak (Bor.ro rfl) (λM u d=>d.nils_rsl 14)) <| .cons (Bor.weak (Bor.ro rfl) (λM u d=>d.nils_rsl 14)) <| .cons (Bor.ro rfl) .nil
 refine Za (Za8 ..) ?_;rw[wrapI (by omega) (by omega)];refine Za (v:=.bool (decide (cdW (Xbi x)-1>200))) rfl ?_;rw[hw1];refine Yd (Zd rfl (Zd rfl (Zg (v:=cdV b.cards) (ldr (row:=bkC b) rfl) rfl (Zd rfl (Zg (v:=.sl 1 0 1 true) (ld (row:=[.str [80,114,111,98,101],.bool false,iv 0,iv 0,iv 0,iv 0,iv 0,iv 0,.sl 1 0 1 true,.nils,.nils,iv 0]) rfl rfl) rfl ?_)))));exact XX (rd:=[1]) h125 rfl g91.ok.plain (.cons (Bor.ro rfl) (.cons (ZcF x rfl (by simp)) .nil)) rfl (Xr (by kernel_rfl) rfl)
end Go.Ah.Tz
end
section
namespace Go.Ah.Tz
open Go.Proofs.Tryz (prog)
set_option maxRecDepth 100000
theorem XcI{e:Int}{b:Bk}{s:St}(h:mayR e b s false=true):mayR e b s true=true:=by
 simp only[mayR,Bool.and_eq_true] at h ⊢;obtain⟨a1,a2,a3,a4,a5,a6,a7,a8,a9,b1,b2,b3,b4,h⟩:=h;refine⟨a1,a2,a3,a4,a5,a6,a7,a8,a9,b1,b2,b3,b4,?_⟩;split at h
 ·rename_i q; rw[if_pos q]; exact h
 ·rename_i q; rw[if_neg q]; simp only[Bool.and_eq_true] at h ⊢; exact⟨by simp,h.2⟩
def nm0:Nm:=.mk 0 0 0 []
theorem g81_plain:Yi prog 62=true:=by kernel_rfl
attribute [local irreducible] Ans.rd Ans.pu Ans.wr Ans.dr Ans.gr Ans.gw Ans.gl Ans.gd Ans.opt joinK W
set_option maxHeartbeats 4000000
theorem c31(b:Bk)(hf:bkFit b=true)(hsm:Qj b.cards)(s:St)(hs:StLe 1000000000 s)(hm:mayR (bkR b).1 b s true=true)(sd tg:Int)(h0:0≤sd)(h1:sd≤1)(hd:∀c∈(sdK s sd).deck,0≤c∧c.toNat<b.cards.length)
 (x:Nm)(hx:nmFit x=true)(hok:nmOk true x=true)(hw:nmW x≤200):PC 41 [bkV b,stV s,.agg [iv sd,iv tg],.agg (nmC x)] (.tup [iv (numF b s sd tg x),iv 0]):=by
 have hz:=c289' b hf hsm s hs hm sd tg h0 h1 hd true _ nm0 (nmC nm0) 0 (nmAt _) (Nat.le_refl _) rfl rfl;have h289:=c289' b hf hsm s hs hm sd tg h0 h1 hd true _ x (nmC x) 0 (nmAt _) (Nat.le_refl _) hx hok;have a0:=c81 b hf hsm s hs hm sd tg h0 h1 _ _ _ hz;have a1:=c81 b hf hsm s hs hm sd tg h0 h1 _ _ _ h289;have h82:=c82 b hf x hx hok hw;refine Qb hP g41.ok rfl rfl ?_;rw[H4.e]; unfold g41; dsimp only;refine Yc (v:=.bptr 0 0) (rd:=[]) (up:=[(0,.box (bkC b))]) rfl rfl (Yc (v:=.bptr 1 0) (rd:=[]) (up:=[(1,.box (stC s))]) rfl rfl (Yc (v:=.bptr 2 0) rfl rfl ?_));refine Yc (v:=.bptr 3 0) (rd:=[]) (up:=[(3,.box (nmC x))]) (by rw[Qx]; rfl) rfl ?_;refine Za (ld (row:=[iv sd,iv tg]) rfl rfl) (Za rfl (Yc (v:=.bptr 4 0) rfl rfl (Za rfl (Za rfl ?_))));have B0:∀ {σ:List ABlk} {rd:List Nat},hget σ 0=.box (bkC b)→0∈rd→Bor (hp σ) rd (.bptr 0 0) (.rptr (bkC b) 0):=λh hin=>Bor.box (XL h) hin (BorL.ro rfl);have B1:∀ {σ:List ABlk} {rd:List Nat},hget σ 1=.box (stC s)→1∈rd→Bor (hp σ) rd (.bptr 1 0) (.rptr (stC s) 0):=λh hin=>Bor.box (XL h) hin (BorL.ro rfl);have B3:∀ {σ:List ABlk} {rd:List Nat},hget σ 3=.box (nmC x)→3∈rd→Bor (hp σ) rd (.bptr 3 0) (.rptr (nmC x) 0):=λh hin=>Bor.box (XL h) hin (BorL.ro (by have:=nmRo x; simpa[roL,AVal.ro] using this));refine ZC (rd:=[0,1,4]) a0 rfl g81_plain (.cons (B0 rfl (by simp)) <| .cons (B1 rfl (by simp)) <| .cons (Bor.ro rfl) <| .cons (Bor.iface (Bor.agg (.cons (Bor.box (row:=[iv8 0,iv 0,iv8 0,.nils]) rfl (by simp) ?_) .nil))) .nil) rfl ?_
 ·exact .cons (Bor.ro rfl) <| .cons (Bor.ro rfl) <| .cons (Bor.ro rfl) <| .cons (Bor.weak (Bor.ro rfl) (λM u d=>d.nils_rsl 4)) .nil
 refine Za rfl (Za rfl (Za rfl (Xa ?_)));refine ZC (rd:=[0,3]) h82 rfl g63.ok.plain (.cons (B3 rfl (by simp)) <| .cons (Bor.ro rfl) <| .cons (B0 rfl (by simp)) .nil) rfl ?_;refine Ya (Za rfl (Za rfl (Yd (Za rfl (ZV (Qc ?_))))));refine Za (ld (row:=[iv sd,iv tg]) rfl rfl) (Za rfl (Za rfl ?_));refine ZC (rd:=[0,1,3]) a1 rfl g81_plain (.cons (B0 rfl (by simp)) <| .cons (B1 rfl (by simp)) <| .cons (Bor.ro rfl) <| .cons (Bor.iface (Bor.agg (.cons (B3 rfl (by simp)) .nil))) .nil) rfl ?_;exact Za rfl (Za rfl (Za rfl (Yd (Za rfl rfl))))
end Go.Ah.Tz
end
section
namespace Go.Ah.Tz
open Go.Proofs.Tryz (prog)
set_option maxRecDepth 100000
@[reducible] def rnC(b:Bk)(s:St)(sd tg:Int)(lv:AVal)(fu:Int)(mv:AVal):List AVal:=bkC b++(stC s++[iv sd,iv tg,lv,iv fu,mv])
@[reducible] def evX(e:Ev)(cv:AVal):List AVal:=[iv8 e.kind,iv e.side,iv e.card,iv e.id,iv e.other,iv e.n,cv]
def CvOk(cv:AVal)(l:List Int):Prop:=cv=rowV l∨(cv=.nils∧l=[])
inductive EvRs:List (List AVal)→List Ev→Prop
 |nil:EvRs [] []
 |snoc (rows:List (List AVal)) (l:List Ev) (e:Ev) (cv:AVal):EvRs rows l→CvOk cv e.cards→EvRs (rows++[evX e cv]) (l++[e])
theorem EvRs.len{rows:List (List AVal)}{l:List Ev}(h:EvRs rows l):rows.length=l.length:=by
 induction h with
 |nil=>rfl
 |snoc _ _ _ _ _ _ ih=>simp[ih]
def LV(rb:Nat)(l:List Ev)(lv:AVal)(σ:List ABlk):Prop:=(l=[]∧lv=.nils)∨(l≠[]∧∃c rows,c≠rb∧lv=.sl c 0 l.length false∧hget σ c=.rows 7 rows∧EvRs rows l)
structure Fr (rb:Nat) (lv lv':AVal) (σ σ':List ABlk):Prop where
 len:σ.length≤σ'.length
 keep:∀k,k<σ.length→k≠rb→(∀n,lv≠.sl k 0 n false)→hget σ' k=hget σ k
 new:∀k n,lv'=.sl k 0 n false→σ.length≤k∨∃m,lv=.sl k 0 m false
theorem Fr.trans{rb:Nat}{a b c:AVal}{σ τ υ:List ABlk}(h:Fr rb a b σ τ)(q:Fr rb b c τ υ):Fr rb a c σ υ:=by
 refine⟨Nat.le_trans h.len q.len,λk hk hr hn=>?_,λk n e=>?_⟩
 ·rw[q.keep k (Nat.lt_of_lt_of_le hk h.len) hr (λn e=>?_),h.keep k hk hr hn];rcases h.new k n e with h1|⟨m,h1⟩
  ·omega
  ·exact hn m h1
 ·rcases q.new k n e with h1|⟨m,h1⟩
  ·exact .inl (Nat.le_trans h.len h1)
  ·exact h.new k m h1
theorem Fr.app{rb:Nat}{lv:AVal}{σ:List ABlk}(l:List ABlk)(hlv:∀k n,lv=.sl k 0 n false→k<σ.length):Fr rb lv lv σ (σ++l):=
 ⟨by simp,λk hk _ _=>Ym l hk,λk n h=>.inr ⟨n,h⟩⟩
theorem Fr.set{rb:Nat}(lv:AVal){σ:List ABlk}(x:ABlk):Fr rb lv lv σ (σ.set rb x):=
 ⟨by simp,λk hk hr _=>Ye x hk hr,λk n h=>.inr ⟨n,h⟩⟩
theorem LV.lt{rb:Nat}{l:List Ev}{lv:AVal}{σ:List ABlk}(h:LV rb l lv σ){k n:Nat}(e:lv=.sl k 0 n false):k<σ.length:=by
 rcases h with ⟨_,h⟩|⟨_,c,rows,_,h,hc,_⟩
 ·rw[h] at e; cases e
 ·rw[h] at e; cases e; exact Xh hc (by simp)
theorem LV.old{rb:Nat}{l:List Ev}{lv:AVal}{σ σ':List ABlk}(h:LV rb l lv σ)(hk:∀k,k<σ.length→k≠rb→hget σ' k=hget σ k):LV rb l lv σ':=by
 rcases h with h|⟨h0,c,rows,h1,h2,hc,h3⟩
 ·exact .inl h
 ·exact .inr ⟨h0,c,rows,h1,h2,by rw[hk c (Xh hc (by simp)) h1]; exact hc,h3⟩
attribute [local irreducible] Ans.rd Ans.pu Ans.wr Ans.dr Ans.gr Ans.gw Ans.gl Ans.gd Ans.opt joinK W
set_option maxHeartbeats 4000000
theorem XdA(n by_:Nat){σ:List ABlk}{c:Nat}{row:List AVal}(hc:hget σ c=.rows n [row])(hr:row.all AVal.cell=true)(hroom:194*by_≤2 ^ 48) :
  Zn n by_ [.nils,.sl c 0 1 true] σ=.ok (.sl σ.length 0 1 false) [c] [(σ.length,.rows n [row])]:=by
 have h1:Yr n σ (.sl c 0 1 true)=some ([row],[c]):=by
  simp only[Yr,hc];simp[cut]; rfl
 show QN n by_ σ [] [] (.sl c 0 1 true)=_;unfold QN;simp only[h1,YN hr];simp;rw[show Nat.ble (194*by_) 281474976710656=true from Nat.ble_eq_true_of_le (by simpa using hroom)];rfl
theorem QdA{e:Ev}{cv:AVal}{l:List Int}(hcv:CvOk cv l)(σ:List ABlk):ZD 7 1 [.int .i8 0,.int .i64 0,.int .i64 0,.int .i64 0,.int .i64 0,.int .i64 0,.nils] [(0,7)] [.agg (evX e cv)] σ=.ok (.sl σ.length 0 1 true) [] [(σ.length,.rows 7 [evX e cv])]:=by
 rcases hcv with rfl|⟨rfl,_⟩<;>rfl
theorem Ydd{e:Ev}{cv:AVal}{l:List Int}(hcv:CvOk cv l)(σ:List ABlk):Qaf [.agg (evX e cv)] σ=.ok (.bptr σ.length 0) [] [(σ.length,.box (evX e cv))]:=by
 rcases hcv with rfl|⟨rfl,_⟩<;>rfl
theorem XaL{σ:List ABlk}{rb:Nat}{b:Bk}{s:St}{sd tg fu:Int}{mv lv:AVal}{l:List Ev}(hr:hget σ rb=.box (rnC b s sd tg lv fu mv))(hl:LV rb l lv σ)(hn:l.length≤1000000000)(e:Ev)(cv:AVal)(hcv:CvOk cv e.cards){K:AVal→List ABlk→Prop}
 (hK:∀σ' lv',Fr rb lv lv' σ σ'→hget σ' rb=.box (rnC b s sd tg lv' fu mv)→LV rb (l++[e]) lv' σ'→K (.tup []) σ'):g55.u VV [.bptr rb 0,.agg (evX e cv)] σ K:=by
 have hrb:=Xh hr (by simp);have hcl:(evX e cv).all AVal.cell=true:=by rcases hcv with rfl|⟨rfl,_⟩<;>rfl
 rw[H2.e]; unfold g55; dsimp only;generalize hX:evX e cv=X at *;have r1:=Zf [.box (evX e cv)] hr (by simp);have r2:=Zf [.rows 7 [evX e cv]] r1 (by simp);have f1:=Qf σ (.box (evX e cv));have f2:=Qf (σ++[.box (evX e cv)]) (.rows 7 [evX e cv]);subst hX;refine Yc (Ydd (e:=e) hcv _) (Xl σ _) (Zd rfl (Zd rfl (Zg (ld r1 rfl) (Qh _) (Zg (ld f1 (show partA true 0 7 (evX e cv)=some (.agg (evX e cv)) from rfl)) (Qh _) (Zg (QdA (e:=e) hcv _) (Xl _ _) ?_)))));have len1:(σ++[ABlk.box (evX e cv)]).length=σ.length+1:=by simp
 have len2:(σ++[ABlk.box (evX e cv)]++[ABlk.rows 7 [evX e cv]]).length=σ.length+2:=by simp
 rcases hl with ⟨rfl,rfl⟩|⟨h0,c,rows,hc0,rfl,hc,hR⟩
 ·refine Zg (XdA 7 72 f2 hcl (by decide)) (Xl _ _) (Zd rfl (Zd rfl ?_));have r3:=Zf [.rows 7 [evX e cv]] r2 (by simp);have hlt3:=Xh r3 (by simp);refine Zg (stv r3 rfl rfl rfl) (Yj _ hlt3) (Xr (by have hne:rb≠σ.length+1:=(by omega); simp[Qn,Xw,Zr,YI,apart2,disj,List.range,List.range.loop,hne,hne.symm]) ?_);refine hK _ (.sl (σ++[ABlk.box (evX e cv)]++[ABlk.rows 7 [evX e cv]]).length 0 1 false) ⟨by simp,λk hk hkr _=>?_,λk n h=>.inl ?_⟩ ?_ (.inr ⟨by simp,(σ++[ABlk.box (evX e cv)]++[ABlk.rows 7 [evX e cv]]).length,[]++[evX e cv],by rw[len2]; omega,rfl,?_,EvRs.snoc [] [] e cv .nil hcv⟩)
  ·rw[Ye _ (by simp; omega) hkr,Ym _ (by simp; omega),Ym _ (by simp; omega),Ym _ hk]
  ·cases h; rw[len2]; omega
  ·exact Qp (List.getElem?_set_self hlt3)
  ·have:=Qf (σ++[ABlk.box (evX e cv)]++[ABlk.rows 7 [evX e cv]]) (.rows 7 [evX e cv]);rw[Ye _ (by simp) (by rw[len2]; omega),this]; rfl
 ·have hclt:=Xh hc (by simp);have c2:=Zf [.rows 7 [evX e cv]] (Zf [.box (evX e cv)] hc (by simp)) (by simp);have hclt2:c<(σ++[ABlk.box (evX e cv)]++[ABlk.rows 7 [evX e cv]]).length:=by rw[len2]; omega
  refine Zg (XaO 7 72 (rs:=rows) c2 f2 hR.len hcl (by omega)) (Qbu _ _ hclt2) (Zd rfl (Zd rfl ?_));have r3:=Zf [.rows 7 (rows++[evX e cv])] (Yg (x:=.dead) r2 (by simp) hc0) (by simp);have hlt3:=Xh r3 (by simp);refine Zg (stv r3 rfl rfl rfl) (Yj _ hlt3) (Xr (by have hne:rb≠σ.length+1:=(by omega); simp[Qn,Xw,Zr,YI,apart2,disj,List.range,List.range.loop,hne,hne.symm]) ?_);refine hK _ (.sl (σ++[ABlk.box (evX e cv)]++[ABlk.rows 7 [evX e cv]]).length 0 (l.length+1) false) ⟨by simp; omega,λk hk hkr hkc=>?_,λk n h=>.inl ?_⟩ ?_ (.inr ⟨by simp,(σ++[ABlk.box (evX e cv)]++[ABlk.rows 7 [evX e cv]]).length,rows++[evX e cv],by rw[len2]; omega,by simp,?_,EvRs.snoc rows l e cv hR hcv⟩)
  ·have hkc':k≠c:=λe=>hkc l.length (by rw[e]);rw[Ye _ (by simp; omega) hkr,Ym _ (by simp; omega),Ye _ (by simp; omega) hkc',Ym _ (by simp; omega),Ym _ hk]
  ·cases h; rw[len2]; omega
  ·exact Qp (List.getElem?_set_self hlt3)
  ·have:=Qf ((σ++[ABlk.box (evX e cv)]++[ABlk.rows 7 [evX e cv]]).set c .dead) (ABlk.rows 7 (rows++[evX e cv]));simp only[List.length_set] at this;rw[Ye _ (by simp) (by rw[len2]; omega),this]
theorem Xdg{σ:List ABlk}{rb:Nat}{b:Bk}{s:St}{sd tg fu:Int}{mv lv:AVal}(hr:hget σ rb=.box (rnC b s sd tg lv fu mv))(h01:sd=0∨sd=1)(who:Int){K:AVal→List ABlk→Prop}(hK:K (iv (whoS sd who)) σ):g57.u VV [.bptr rb 0,iv8 who] σ K:=by
 rw[H2.e]; unfold g57; dsimp only;refine Za (Xd ..) (Zb (λh=>?_) (λh=>?_))
 ·have h:who=1:=by simpa using h
  refine Za rfl (Za rfl (Za rfl (Za (ld hr rfl) (Za (Za8 ..) ?_))));rw[IntWalk.i64_in _ (by omega)];unfold whoS at hK; rwa [if_pos h] at hK
 ·have h:who≠1:=by simpa using h
  refine Za rfl (Za rfl (Za rfl (Za (ld hr rfl) ?_)));unfold whoS at hK; rwa [if_neg h] at hK
end Go.Ah.Tz
end
section
namespace Go.Ah.Tz
open Go.Proofs.Tryz (prog)
set_option maxRecDepth 100000
section
variable {P:Program} {GL:Globs}
theorem Qb6{f:FuncId}{xs:List AVal}{v y:AVal}{bs:List ABlk}(h:NCall P GL f xs v bs)(hy:∃rd,Bor (hp bs) rd v y):PCall P GL f xs y:=by
 obtain⟨rd,hR⟩:=hy;intro w M vs hM hg hx;refine(h w M vs hM hg hx).mono ?_;rintro e w' ⟨u,he,g',hle,r,hd⟩
 let M2:Nat→Option Obj:=λb=>if b<w.heap.size then g'.M b else w'.heap[b]?
 have cov:Cov g' (hp bs) w' M2:=by
  refine⟨λb o e=>?_,λb blk cb o e1 e2 e3 e4 e5=>?_⟩
  ·show (if b<w.heap.size then g'.M b else w'.heap[b]?)=some o;split
   ·exact e
   ·exact r.stable b o e
  ·obtain⟨_,hin,_⟩:=r.own b blk cb e1 e2 e3 e4
   grind
 have hd2:=hR GL w ⟨[],M⟩ g' (hp bs) w' M2 r cov (λ_ _=>rfl) u hd;refine⟨u,he,r.keeps,M2,λb o e=>cov.1 b o (hle b o e),λb o e=>?_,λb o e=>?_,hd2⟩
 ·have e':(if b<w.heap.size then g'.M b else w'.heap[b]?)=some o:=e;split at e'
  ·exact r.stable b o e'
  ·exact e'
 ·have e':(if b<w.heap.size then g'.M b else w'.heap[b]?)=some o:=e;split at e'
  ·rcases r.src b o e' with q|q|q<;>simp_all
  ·exact .inr (by omega)
end
attribute [local irreducible] Ans.rd Ans.pu Ans.wr Ans.dr Ans.gr Ans.gw Ans.gl Ans.gd Ans.opt joinK W
set_option maxHeartbeats 4000000
@[reducible] def clipV(l:List Int):AVal:=.rsl true false 1 (l.map cel)
theorem ZdB(nn:Bool)(rows:List (List AVal))(h:rows≠[])(σ:List ABlk):YD 1 [.rsl false nn 1 rows,.int .i64 rows.length,.int .i64 rows.length] σ=.ok (.rsl true nn 1 rows) [] []:=by
 cases rows with
 |nil=>exact(h rfl).elim
 |cons r rs=>
  have hb:Nat.ble (r::rs).length (r::rs).length=true:=Nat.ble_eq_true_of_le (Nat.le_refl _);have hc:cut 0 (r::rs).length (r::rs)=r::rs:=by unfold cut; simp
  show (bif Nat.beq 1 1&&(Nat.beq (r::rs).length (r::rs).length&&Nat.ble (r::rs).length (r::rs).length) then SRes.ok (.rsl true nn 1 (cut 0 (r::rs).length (r::rs))) [] [] else .stop)=_;simp only[hb,hc,Nat.beq_refl]; rfl
theorem c405(l:List Int):PC 58 [rowV l] (clipV l):=by
 refine Xv hP g58.ok rfl ?_;rw[H1.e]; unfold g58; dsimp only;refine Za rfl (Za rfl ?_);cases l with
 |nil=>
  refine Za (v:=.cap0) rfl ⟨[],Bor.weak (Bor.ro rfl) (λM u d=>?_)⟩;cases d with
  |cap0 _ a=>exact .rsl _ _ _ _ [] a 0 0 0 (λ_ _=>undef) (λ_=>rfl) (λh=>by cases h) (λh=>(h rfl).elim) (λ_=>rfl) (by simp) (by simp) (by simp) (by simp)
 |cons x l=>exact Za (ZdB false ((x::l).map cel) (by simp) _) ⟨[],Bor.ro rfl⟩
theorem c185P(l:List Int)(hl:l.length≤1000000000):PC 31 [rowV l] (rowV l):=
 Qb6 (c96 l hl) ⟨[0],RI.own (b:=0) rfl (by simp) rfl⟩
theorem Yck(l:List Int):ZaB (l.map cel)=true:=by
 induction l<;>simp_all [ZaB,cel]
theorem YaO(l m:List Int){y:AVal}{rd:List Nat}{σ:List ABlk}(hy:Yr 1 σ y=some (m.map cel,rd))(hl:l.length+m.length≤1000000000):Zn 1 8 [clipV l,y] σ=.ok (rowV (l++m)) rd []:=by
 show (match Yr 1 σ y with
   |some (ys,rd)=>bif Nat.beq 1 1&&(ZaB (l.map cel++ys)&&Nat.ble ((2*((l.map cel).length+ys.length)+192)*8) (2 ^ 48)) then SRes.ok (.rsl false false 1 (l.map cel++ys)) rd [] else .stop
   | none=>.stop)=_
 rw[hy];simp only;rw[←List.map_append,Yck,show Nat.ble ((2*((l.map cel).length+(m.map cel).length)+192)*8) (2 ^ 48)=true from Nat.ble_eq_true_of_le (by simp only[List.length_map]; omega)];rfl
def tell1(m:List Int)(s:St)(i:Int):St:=s.put i { s.side i with told:=(s.side i).told++m }
def tellS(s:St)(m:List Int)(is:List Int):St:=is.foldl (tell1 m) s
theorem Yco(s:St)(m is:List Int)(i:Nat)(h:i<is.length):tellS s m (is.take (i+1))=tell1 m (tellS s m (is.take i)) is[i]:=by
 grind [tellS,List.take_succ_eq_append_getElem]
def TB(N:Nat)(s:St):Prop:=s.s0.told.length≤N∧s.s1.told.length≤N
theorem TB.tell{N:Nat}{s:St}(h:TB N s)(m:List Int){i:Int}(hi:i=0∨i=1):TB (N+m.length) (tell1 m s i):=by
 obtain⟨h1,h2⟩:=h;rcases hi with rfl|rfl
 ·refine⟨?_,?_⟩<;>simp[tell1,St.put,St.side]<;>omega
 ·refine⟨?_,?_⟩<;>simp[tell1,St.put,St.side]<;>omega
theorem Ydr{σ:List ABlk}{rb:Nat}{x:ABlk}(h:hget σ rb=x)(hx:x≠.dead):σ.set rb x=σ:=by
 have hl:=Xh h hx;have:=Y2 h hx
 grind [List.set_getElem_self]
theorem Qbk{σ:List ABlk}{rb:Nat}{b:Bk}{s:St}{sd tg fu:Int}{mv lv:AVal}(hr:hget σ rb=.box (rnC b s sd tg lv fu mv))(m:List Int)(y:AVal)(rd:List Nat)(hy:∀x:ABlk,Yr 1 (σ.set rb x) y=some (m.map cel,rd))
 (is:List Int)(k:Nat)(hk:hget σ k=.rows 1 (is.map cel))(hkr:k≠rb)(h01:∀i∈is,i=0∨i=1)(N:Nat)(hT:TB N s)(hN:N+is.length*m.length+m.length≤1000000000)(his:is.length≤1000000000){K:AVal→List ABlk→Prop}
 (hK:K (.tup []) (σ.set rb (.box (rnC b (tellS s m is) sd tg lv fu mv)))):g59.u VV [.bptr rb 0,y,.sl k 0 is.length true] σ K:=by
 have hrb:=Xh hr (by simp);have hkl:=Xh hk (by simp);rw[H3.e]; unfold g59; dsimp only;refine Za rfl ?_;refine Xj (ι:=Nat) (λi vs τ=>vs=[iv i]∧i≤is.length∧TB (N+i*m.length) (tellS s m (is.take i))∧τ=σ.set rb (.box (rnC b (tellS s m (is.take i)) sd tg lv fu mv))) (λi=>is.length-i) 0 ⟨rfl,by omega,by simpa[tellS] using hT,?_⟩ ?_
 ·simp_all [tellS,Ydr]
 rintro i vs τ again ⟨rfl,hi,hT,rfl⟩ hag;refine Za rfl (Zb (λh=>?_) (λh=>?_))
 ·have h:i<is.length:=by simpa using h
  have hkτ:=Yg (x:=.box (rnC b (tellS s m (is.take i)) sd tg lv fu mv)) hk (by simp) hkr.symm;have hg:(is.map cel)[i]?=some [iv is[i]]:=by simp[h,cel]
  refine Za (Ycz _ k 0 is.length true 1 (is.map cel) .i64 i h hkτ) (Za (ldp hkτ (by rw[Nat.zero_add]; exact hg) rfl) (Za rfl (Za rfl (Za rfl ?_))));have hrτ:hget (σ.set rb (.box (rnC b (tellS s m (is.take i)) sd tg lv fu mv))) rb=.box (rnC b (tellS s m (is.take i)) sd tg lv fu mv):=Qp (by simp[hrb]);have hlen:rb<(σ.set rb (.box (rnC b (tellS s m (is.take i)) sd tg lv fu mv))).length:=by simpa using hrb
  have hmul:i*m.length≤is.length*m.length:=Nat.mul_le_mul_right _ hi;have hd:=h01 is[i] (List.getElem_mem h);have hnext:tellS s m (is.take (i+1))=tell1 m (tellS s m (is.take i)) is[i]:=Yco s m is i h;have hT':TB (N+(i+1)*m.length) (tellS s m (is.take (i+1))):=by
   rw[hnext];have:=hT.tell m hd
   grind
  generalize tellS s m (is.take i)=t at *;generalize is[i]=d at *;have hbd:∀l:List Int,l.length≤N+i*m.length→l.length+m.length≤1000000000:=λl hl=>by omega
  rcases hd with rfl|rfl
  ·refine Za rfl (Za rfl (Za rfl (Za (ld hrτ rfl) (Xb (c405 t.s0.told) rfl g58.ok.plain rfl ?_))));refine Yc (YaO t.s0.told m (hy _) (hbd _ hT.1)) rfl (Za rfl (Yc (stv hrτ rfl rfl rfl) (Yj _ hlen) (Za (Yh ..) ?_)));rw[Qd (n:=i) (by omega),List.set_set];exact hag (i+1) _ _ (by omega) ⟨rfl,by omega,hT',by rw[hnext]; rfl⟩
  ·refine Za rfl (Za rfl (Za rfl (Za (ld hrτ rfl) (Xb (c405 t.s1.told) rfl g58.ok.plain rfl ?_))));refine Yc (YaO t.s1.told m (hy _) (hbd _ hT.2)) rfl (Za rfl (Yc (stv hrτ rfl rfl rfl) (Yj _ hlen) (Za (Yh ..) ?_)));rw[Qd (n:=i) (by omega),List.set_set];exact hag (i+1) _ _ (by omega) ⟨rfl,by omega,hT',by rw[hnext]; rfl⟩
 grind
def Dn(rb:Nat)(b:Bk)(sd tg fu:Int)(l:List Ev)(lv:AVal)(σ:List ABlk)(r:Int×St×List Ev)(v:AVal)(σ':List ABlk):Prop:=
 ∃lv' mv',Fr rb lv lv' σ σ'∧hget σ' rb=.box (rnC b r.2.1 sd tg lv' fu mv')∧v=iv r.1∧LV rb (l++r.2.2) lv' σ'
def gainF(s:St)(sd n:Int):Int×St×List Ev:=
 if n<0 then (0,s,[]) else if 1000000<(s.side sd).mana+n then (171,s,[]) else (0,s.put sd { s.side sd with mana:=(s.side sd).mana+n },[⟨7,sd,0,0,0,n,[]⟩])
theorem QdD{σ:List ABlk}{rb:Nat}{b:Bk}{s:St}{sd tg fu:Int}{mv lv:AVal}{l:List Ev}(hr:hget σ rb=.box (rnC b s sd tg lv fu mv))(hl:LV rb l lv σ)(hn:l.length≤1000000000)(h01:sd=0∨sd=1)
 (hm:0≤(s.side sd).mana∧(s.side sd).mana≤1000000)(x:Ef)(n:Int)(hb:n≤1000000){K:AVal→List ABlk→Prop}(hK:∀v σ',Dn rb b sd tg fu l lv σ (gainF s sd n) v σ'→K v σ'):g35.u VV [.bptr rb 0,.agg (efC x),iv n] σ K:=by
 have hrb:=Xh hr (by simp);have f0:Fr rb lv lv σ (σ++[ABlk.box (efC x)]):=Fr.app _ (λk n e=>hl.lt e);have r1:=Zf [ABlk.box (efC x)] hr (by simp);have hrb1:rb<(σ++[ABlk.box (efC x)]).length:=by simp; omega
 have l1:LV rb l lv (σ++[ABlk.box (efC x)]):=hl.old (λk hk _=>Ym _ hk);rw[H3.e]; unfold g35; dsimp only;refine Yc (Yaa _ _) (Xl σ _) (Za rfl (Za rfl (Za rfl (Za (ld r1 rfl) (Za rfl (Za rfl (Za rfl ?_)))))));rcases h01 with rfl|rfl
 ·have hm:0≤s.s0.mana∧s.s0.mana≤1000000:=hm;refine Za rfl (Za rfl (Zb (λh=>?_) (λh=>?_)))
  ·have h:n<0:=by simpa using h
   exact hK _ _ ⟨lv,mv,f0,by rw[gainF,if_pos h]; exact r1,by rw[gainF,if_pos h],by rw[gainF,if_pos h]; simpa using l1⟩
  have h:¬n<0:=by simpa using h
  refine Za rfl (Za rfl (Za (ld r1 rfl) (Za (Yh ..) (Za rfl ?_))));rw[IntWalk.i64_in _ (by omega)];refine Zb (λh2=>?_) (λh2=>?_)
  ·have h2:1000000<s.s0.mana+n:=by simpa using h2
   have e:gainF s 0 n=(171,s,[]):=by rw[gainF,if_neg h]; exact if_pos h2
   exact hK _ _ ⟨lv,mv,f0,by rw[e]; exact r1,by rw[e],by rw[e]; simpa using l1⟩
  have h2:¬1000000<s.s0.mana+n:=by simpa using h2
  have e:gainF s 0 n=(0,s.put 0 { s.side 0 with mana:=s.s0.mana+n },[⟨7,0,0,0,0,n,[]⟩]):=by rw[gainF,if_neg h]; exact if_neg h2
  refine Za rfl (Za rfl (Za (ld r1 rfl) (Za (Yh ..) (Za rfl (Za rfl ?_)))));rw[IntWalk.i64_in _ (by omega)];refine Yc (stv r1 rfl rfl rfl) (Yj _ hrb1) ?_;have r2:hget ((σ++[ABlk.box (efC x)]).set rb (.box (rnC b (s.put 0 { s.side 0 with mana:=s.s0.mana+n }) 0 tg lv fu mv))) rb=.box (rnC b (s.put 0 { s.side 0 with mana:=s.s0.mana+n }) 0 tg lv fu mv):=Qp (List.getElem?_set_self hrb1);refine Za rfl (Za rfl (Za rfl (Za (ld r2 rfl) (Za (v:=.agg (evX ⟨7,0,0,0,0,n,[]⟩ .nils)) rfl ?_))));refine Xg hP (f:=55) rfl g55.ok rfl ?_;refine XaL r2 (l1.old (λk hk hkr=>Ye _ hk hkr)) hn _ _ (.inr ⟨rfl,rfl⟩) (λσ' lv' q1 q2 q3=>hK _ _ ⟨lv',mv,(f0.trans (Fr.set lv _)).trans q1,by rw[e]; exact q2,by rw[e],by rw[e]; exact q3⟩)
 ·have hm:0≤s.s1.mana∧s.s1.mana≤1000000:=hm;refine Za rfl (Za rfl (Zb (λh=>?_) (λh=>?_)))
  ·have h:n<0:=by simpa using h
   exact hK _ _ ⟨lv,mv,f0,by rw[gainF,if_pos h]; exact r1,by rw[gainF,if_pos h],by rw[gainF,if_pos h]; simpa using l1⟩
  have h:¬n<0:=by simpa using h
  refine Za rfl (Za rfl (Za (ld r1 rfl) (Za (Yh ..) (Za rfl ?_))));rw[IntWalk.i64_in _ (by omega)];refine Zb (λh2=>?_) (λh2=>?_)
  ·have h2:1000000<s.s1.mana+n:=by simpa using h2
   have e:gainF s 1 n=(171,s,[]):=by rw[gainF,if_neg h]; exact if_pos h2
   exact hK _ _ ⟨lv,mv,f0,by rw[e]; exact r1,by rw[e],by rw[e]; simpa using l1⟩
  have h2:¬1000000<s.s1.mana+n:=by simpa using h2
  have e:gainF s 1 n=(0,s.put 1 { s.side 1 with mana:=s.s1.mana+n },[⟨7,1,0,0,0,n,[]⟩]):=by rw[gainF,if_neg h]; exact if_neg h2
  refine Za rfl (Za rfl (Za (ld r1 rfl) (Za (Yh ..) (Za rfl (Za rfl ?_)))));rw[IntWalk.i64_in _ (by omega)];refine Yc (stv r1 rfl rfl rfl) (Yj _ hrb1) ?_;have r2:hget ((σ++[ABlk.box (efC x)]).set rb (.box (rnC b (s.put 1 { s.side 1 with mana:=s.s1.mana+n }) 1 tg lv fu mv))) rb=.box (rnC b (s.put 1 { s.side 1 with mana:=s.s1.mana+n }) 1 tg lv fu mv):=Qp (List.getElem?_set_self hrb1);refine Za rfl (Za rfl (Za rfl (Za (ld r2 rfl) (Za (v:=.agg (evX ⟨7,1,0,0,0,n,[]⟩ .nils)) rfl ?_))));refine Xg hP (f:=55) rfl g55.ok rfl ?_;refine XaL r2 (l1.old (λk hk hkr=>Ye _ hk hkr)) hn _ _ (.inr ⟨rfl,rfl⟩) (λσ' lv' q1 q2 q3=>hK _ _ ⟨lv',mv,(f0.trans (Fr.set lv _)).trans q1,by rw[e]; exact q2,by rw[e],by rw[e]; exact q3⟩)
end Go.Ah.Tz
end
section
namespace Go.Ah.Tz
open Go.Proofs.Tryz (prog)
set_option maxRecDepth 100000
attribute [local irreducible] Ans.rd Ans.pu Ans.wr Ans.dr Ans.gr Ans.gw Ans.gl Ans.gd Ans.opt joinK W
set_option maxHeartbeats 4000000
theorem Qdd(l:List Int)(j:Nat)(h:j≤l.length)(σ:List ABlk):ZG 1 [rowV l,iv j] σ=.ok (rowV (l.take j)) [] []:=by
 have h1:Nat.ble j (l.map cel).length=true:=Nat.ble_eq_true_of_le (by simpa using h);have h2:cut 0 j (l.map cel)=(l.take j).map cel:=by unfold cut; rw[List.drop_zero,List.map_take]
 show (bif Nat.beq 1 1&&Nat.ble j (l.map cel).length then SRes.ok (.rsl false false 1 (cut 0 j (l.map cel))) [] [] else .stop)=_;rw[h1,h2]; rfl
theorem Zcz(x:Int)(l:List Int)(σ:List ABlk):ZL 1 [rowV (x::l),iv 1] σ=.ok (rowV l) [] []:=by
 have h1:Nat.ble 1 ((x::l).map cel).length=true:=Nat.ble_eq_true_of_le (by simp);have h2:cut 1 ((x::l).map cel).length ((x::l).map cel)=l.map cel:=by unfold cut; rw[List.take_length]; rfl
 show (bif Nat.beq 1 1&&Nat.ble 1 ((x::l).map cel).length then SRes.ok (.rsl false false 1 (cut 1 ((x::l).map cel).length ((x::l).map cel))) [] [] else .stop)=_;rw[h1,h2]; rfl
def lookF(s:St)(sd n:Int):Int×St×List Ev:=
 match (s.side sd).deck.take (min (max n 0) (s.side sd).deck.length).toNat with
 |[]=>(0,s,[])
 |c::cs=>(0,tellS s (c::cs) [sd],[⟨9,sd,0,0,0,0,c::cs⟩])
theorem YdF{σ:List ABlk}{rb:Nat}{b:Bk}{s:St}{sd tg fu:Int}{mv lv:AVal}{l:List Ev}(hr:hget σ rb=.box (rnC b s sd tg lv fu mv))(hl:LV rb l lv σ)(hn:l.length≤1000000000)(h01:sd=0∨sd=1)
 (hT:TB 100000000 s)(hd:(s.side sd).deck.length≤100000000)(x:Ef)(n:Int){K:AVal→List ABlk→Prop}(hK:∀v σ',Dn rb b sd tg fu l lv σ (lookF s sd n) v σ'→K v σ'):g37.u VV [.bptr rb 0,.agg (efC x),iv n] σ K:=by
 have hrb:=Xh hr (by simp);have f0:Fr rb lv lv σ (σ++[ABlk.box (efC x)]):=Fr.app _ (λk n e=>hl.lt e);have r1:=Zf [ABlk.box (efC x)] hr (by simp);have l1:LV rb l lv (σ++[ABlk.box (efC x)]):=hl.old (λk hk _=>Ym _ hk);have hF:∀cs,(s.side sd).deck.take (min (max n 0) (s.side sd).deck.length).toNat=cs→lookF s sd n=match cs with | []=>(0,s,[])|c::cs=>(0,tellS s (c::cs) [sd],[⟨9,sd,0,0,0,0,c::cs⟩]):=by
  intro cs h; rw[lookF,h]
 obtain⟨j,hj,hjl⟩:∃j:Nat,min (max n 0) ((s.side sd).deck.length:Int)=j∧j≤(s.side sd).deck.length:=⟨(min (max n 0) ((s.side sd).deck.length:Int)).toNat,by omega,by omega⟩;rw[hj,Int.toNat_natCast] at hF;rw[H3.e]; unfold g37; dsimp only;refine Yc (Yaa _ _) (Xl σ _) (Za rfl (Za rfl (Za rfl (Za (ld r1 rfl) (Za rfl (Za rfl (Za rfl ?_)))))));rcases h01 with rfl|rfl
 ·refine Za rfl (Za rfl (Za (ld r1 rfl) (Za (Zaf ..) (Za rfl (Za (YF ..) ?_)))));have hjl:j≤s.s0.deck.length:=hjl;have hd:s.s0.deck.length≤100000000:=hd;rw[show min (max n 0) ((s.s0.deck.map cel).length:Int)=j from by rw[List.length_map]; exact hj];refine Za (Qdd _ j hjl _) (Xb (c185P _ (by rw[List.length_take]; omega)) rfl g31.ok.plain rfl (Za rfl (Za (Xaa ..) ?_)));have hle:(s.s0.deck.take j).length≤100000000:=by rw[List.length_take]; omega
  have hF:=hF (s.s0.deck.take j) rfl;generalize s.s0.deck.take j=cs at *;refine Zb (λh=>?_) (λh=>?_)
  ·obtain⟨c,cs,rfl⟩:∃c cs',cs=c::cs':=by
    cases cs with
    |nil=>simp at h
    |cons c cs=>exact⟨c,cs,rfl⟩
   have hF:lookF s 0 n=(0,tellS s (c::cs) [0],[⟨9,0,0,0,0,0,c::cs⟩]):=hF;refine Yc (v:=.sl (σ++[ABlk.box (efC x)]).length 0 1 true) (rd:=[]) (up:=[((σ++[ABlk.box (efC x)]).length,.rows 1 [[iv 0]])]) rfl (Xl _ _) ?_;have hrb1:rb<(σ++[ABlk.box (efC x)]).length:=by simp; omega
   have r2:=Zf [.rows 1 [[iv 0]]] r1 (by simp);have f1:Fr rb lv lv (σ++[ABlk.box (efC x)]) (σ++[ABlk.box (efC x)]++[.rows 1 [[iv 0]]]):=Fr.app _ (λk n e=>l1.lt e);have l2:LV rb l lv (σ++[ABlk.box (efC x)]++[.rows 1 [[iv 0]]]):=l1.old (λk hk _=>Ym _ hk);refine Xg hP (f:=59) rfl g59.ok rfl ?_;refine Qbk r2 (c::cs) (rowV (c::cs)) [] (λ_=>rfl) [0] _ (Qf _ _) (by omega) (by simp) 100000000 hT (by simp at hle ⊢; omega) (by simp) ?_;refine Za (v:=.agg (evX ⟨9,0,0,0,0,0,c::cs⟩ (rowV (c::cs)))) rfl ?_;refine Xg hP (f:=55) rfl g55.ok rfl ?_;refine XaL (Qp (List.getElem?_set_self (by simp; omega))) (l2.old (λk hk hkr=>Ye _ hk hkr)) hn _ _ (.inl rfl) (λσ' lv' q1 q2 q3=>?_);exact(hK _ _ ⟨lv',mv,((f0.trans f1).trans (Fr.set lv _)).trans q1,by rw[hF]; exact q2,by rw[hF],by rw[hF]; exact q3⟩)
  ·have:cs=[]:=by
    cases cs with
    |nil=>rfl
    |cons c cs=>simp at h
   subst this;have hF:lookF s 0 n=(0,s,[]):=hF;exact hK _ _ ⟨lv,mv,f0,by rw[hF]; exact r1,by rw[hF],by rw[hF]; simpa using l1⟩
 ·refine Za rfl (Za rfl (Za (ld r1 rfl) (Za (Zaf ..) (Za rfl (Za (YF ..) ?_)))));have hjl:j≤s.s1.deck.length:=hjl;have hd:s.s1.deck.length≤100000000:=hd;rw[show min (max n 0) ((s.s1.deck.map cel).length:Int)=j from by rw[List.length_map]; exact hj];refine Za (Qdd _ j hjl _) (Xb (c185P _ (by rw[List.length_take]; omega)) rfl g31.ok.plain rfl (Za rfl (Za (Xaa ..) ?_)));have hle:(s.s1.deck.take j).length≤100000000:=by rw[List.length_take]; omega
  have hF:=hF (s.s1.deck.take j) rfl;generalize s.s1.deck.take j=cs at *;refine Zb (λh=>?_) (λh=>?_)
  ·obtain⟨c,cs,rfl⟩:∃c cs',cs=c::cs':=by
    cases cs with
    |nil=>simp at h
    |cons c cs=>exact⟨c,cs,rfl⟩
   have hF:lookF s 1 n=(0,tellS s (c::cs) [1],[⟨9,1,0,0,0,0,c::cs⟩]):=hF;refine Yc (v:=.sl (σ++[ABlk.box (efC x)]).length 0 1 true) (rd:=[]) (up:=[((σ++[ABlk.box (efC x)]).length,.rows 1 [[iv 1]])]) rfl (Xl _ _) ?_;have hrb1:rb<(σ++[ABlk.box (efC x)]).length:=by simp; omega
   have r2:=Zf [.rows 1 [[iv 1]]] r1 (by simp);have f1:Fr rb lv lv (σ++[ABlk.box (efC x)]) (σ++[ABlk.box (efC x)]++[.rows 1 [[iv 1]]]):=Fr.app _ (λk n e=>l1.lt e);have l2:LV rb l lv (σ++[ABlk.box (efC x)]++[.rows 1 [[iv 1]]]):=l1.old (λk hk _=>Ym _ hk);refine Xg hP (f:=59) rfl g59.ok rfl ?_;refine Qbk r2 (c::cs) (rowV (c::cs)) [] (λ_=>rfl) [1] _ (Qf _ _) (by omega) (by simp) 100000000 hT (by simp at hle ⊢; omega) (by simp) ?_;refine Za (v:=.agg (evX ⟨9,1,0,0,0,0,c::cs⟩ (rowV (c::cs)))) rfl ?_;refine Xg hP (f:=55) rfl g55.ok rfl ?_;refine XaL (Qp (List.getElem?_set_self (by simp; omega))) (l2.old (λk hk hkr=>Ye _ hk hkr)) hn _ _ (.inl rfl) (λσ' lv' q1 q2 q3=>?_);exact(hK _ _ ⟨lv',mv,((f0.trans f1).trans (Fr.set lv _)).trans q1,by rw[hF]; exact q2,by rw[hF],by rw[hF]; exact q3⟩)
  ·have:cs=[]:=by
    cases cs with
    |nil=>rfl
    |cons c cs=>simp at h
   subst this;have hF:lookF s 1 n=(0,s,[]):=hF;exact hK _ _ ⟨lv,mv,f0,by rw[hF]; exact r1,by rw[hF],by rw[hF]; simpa using l1⟩
theorem Qa6{sd:Int}(h:sd=0∨sd=1)(w:Int):whoS sd w=0∨whoS sd w=1:=by
 unfold whoS; split<;>omega
theorem src1{σ:List ABlk}{k:Nat}{c:Int}(h:hget σ k=.rows 1 [[iv c]]):Yr 1 σ (.sl k 0 1 true)=some ([c].map cel,[k]):=by
 simp only[Yr,h];simp[cut]; rfl
def showF(s:St)(i:Int):Int×St×List Ev:=(0,tellS s (s.side i).hand [0,1],[⟨10,i,0,0,0,0,(s.side i).hand⟩])
theorem YdI{σ:List ABlk}{rb:Nat}{b:Bk}{s:St}{sd tg fu:Int}{mv lv:AVal}{l:List Ev}(hr:hget σ rb=.box (rnC b s sd tg lv fu mv))(hl:LV rb l lv σ)(hn:l.length≤1000000000)(h01:sd=0∨sd=1)
 (hT:TB 100000000 s)(hd0:s.s0.hand.length≤100000000)(hd1:s.s1.hand.length≤100000000)(x:Ef)(n:Int){K:AVal→List ABlk→Prop}(hK:∀v σ',Dn rb b sd tg fu l lv σ (showF s (whoS sd x.who)) v σ'→K v σ'):g38.u VV [.bptr rb 0,.agg (efC x),iv n] σ K:=by
 have hrb:=Xh hr (by simp);have f0:Fr rb lv lv σ (σ++[ABlk.box (efC x)]):=Fr.app _ (λk n e=>hl.lt e);have r1:=Zf [ABlk.box (efC x)] hr (by simp);have l1:LV rb l lv (σ++[ABlk.box (efC x)]):=hl.old (λk hk _=>Ym _ hk);rw[H3.e]; unfold g38; dsimp only;refine Yc (Yaa _ _) (Xl σ _) (Za rfl (Za (ld (Qf _ _) (efLd1 x)) ?_));refine Xg hP (f:=57) rfl g57.ok rfl (Xdg r1 h01 _ ?_);have hw:=Qa6 h01 x.who;generalize whoS sd x.who=i at *;refine Za rfl (Za rfl (Za rfl ?_));have hrb1:rb<(σ++[ABlk.box (efC x)]).length:=by simp; omega
 have f1:Fr rb lv lv (σ++[ABlk.box (efC x)]) (σ++[ABlk.box (efC x)]++[.rows 1 [[iv 0],[iv 1]]]):=Fr.app _ (λk n e=>l1.lt e);have l2:LV rb l lv (σ++[ABlk.box (efC x)]++[.rows 1 [[iv 0],[iv 1]]]):=l1.old (λk hk _=>Ym _ hk);have r2:=Zf [.rows 1 [[iv 0],[iv 1]]] r1 (by simp);rcases hw with rfl|rfl
 ·refine Za rfl (Za rfl (Za (ld r1 rfl) (Xb (c185P s.s0.hand (by omega)) rfl g31.ok.plain rfl ?_)));refine Yc (v:=.sl (σ++[ABlk.box (efC x)]).length 0 2 true) (rd:=[]) (up:=[((σ++[ABlk.box (efC x)]).length,.rows 1 [[iv 0],[iv 1]])]) rfl (Xl _ _) ?_;refine Xg hP (f:=59) rfl g59.ok rfl ?_;refine Qbk r2 s.s0.hand (rowV s.s0.hand) [] (λ_=>rfl) [0,1] _ (Qf _ _) (by omega) (by simp) 100000000 hT (by simp; omega) (by simp) ?_;refine Za (v:=.agg (evX ⟨10,0,0,0,0,0,s.s0.hand⟩ (rowV s.s0.hand))) rfl ?_;refine Xg hP (f:=55) rfl g55.ok rfl ?_;refine XaL (Qp (List.getElem?_set_self (by simp; omega))) (l2.old (λk hk hkr=>Ye _ hk hkr)) hn _ _ (.inl rfl) (λσ' lv' q1 q2 q3=>?_);exact hK _ _ ⟨lv',mv,((f0.trans f1).trans (Fr.set lv _)).trans q1,q2,rfl,q3⟩
 ·refine Za rfl (Za rfl (Za (ld r1 rfl) (Xb (c185P s.s1.hand (by omega)) rfl g31.ok.plain rfl ?_)));refine Yc (v:=.sl (σ++[ABlk.box (efC x)]).length 0 2 true) (rd:=[]) (up:=[((σ++[ABlk.box (efC x)]).length,.rows 1 [[iv 0],[iv 1]])]) rfl (Xl _ _) ?_;refine Xg hP (f:=59) rfl g59.ok rfl ?_;refine Qbk r2 s.s1.hand (rowV s.s1.hand) [] (λ_=>rfl) [0,1] _ (Qf _ _) (by omega) (by simp) 100000000 hT (by simp; omega) (by simp) ?_;refine Za (v:=.agg (evX ⟨10,1,0,0,0,0,s.s1.hand⟩ (rowV s.s1.hand))) rfl ?_;refine Xg hP (f:=55) rfl g55.ok rfl ?_;refine XaL (Qp (List.getElem?_set_self (by simp; omega))) (l2.old (λk hk hkr=>Ye _ hk hkr)) hn _ _ (.inl rfl) (λσ' lv' q1 q2 q3=>?_);exact hK _ _ ⟨lv',mv,((f0.trans f1).trans (Fr.set lv _)).trans q1,q2,rfl,q3⟩
def dropF(s:St)(i:Int):Int×St×List Ev:=
 match (s.side i).hand with
 |[]=>(0,s,[])
 |c::h=>(0,tellS (s.put i { s.side i with hand:=h,grave:=(s.side i).grave++[c] }) [c] [0,1],[⟨8,i,c,0,0,0,[]⟩])
theorem ZdA{σ:List ABlk}{rb:Nat}{b:Bk}{s:St}{sd tg fu:Int}{mv lv:AVal}{l:List Ev}(hr:hget σ rb=.box (rnC b s sd tg lv fu mv))(hl:LV rb l lv σ)(hn:l.length≤1000000000)(h01:sd=0∨sd=1)
 (hT:TB 100000000 s)(hd0:s.s0.hand.length≤100000000∧s.s0.grave.length≤100000000)(hd1:s.s1.hand.length≤100000000∧s.s1.grave.length≤100000000)(x:Ef)(n:Int){K:AVal→List ABlk→Prop}(hK:∀v σ',Dn rb b sd tg fu l lv σ (dropF s (whoS sd x.who)) v σ'→K v σ'):g36.u VV [.bptr rb 0,.agg (efC x),iv n] σ K:=by
 have hrb:=Xh hr (by simp);have f0:Fr rb lv lv σ (σ++[ABlk.box (efC x)]):=Fr.app _ (λk n e=>hl.lt e);have r1:=Zf [ABlk.box (efC x)] hr (by simp);have l1:LV rb l lv (σ++[ABlk.box (efC x)]):=hl.old (λk hk _=>Ym _ hk);rw[H3.e]; unfold g36; dsimp only;refine Yc (Yaa _ _) (Xl σ _) (Za rfl (Za (ld (Qf _ _) (efLd1 x)) ?_));refine Xg hP (f:=57) rfl g57.ok rfl (Xdg r1 h01 _ ?_);have hw:=Qa6 h01 x.who;generalize whoS sd x.who=i at *;refine Za rfl (Za rfl (Za rfl ?_));have hrb1:rb<(σ++[ABlk.box (efC x)]).length:=by simp; omega
 generalize hσ:σ++[ABlk.box (efC x)]=τ at *;rcases hw with rfl|rfl
 ·refine Za rfl (Za rfl (Za rfl (Za (ld r1 rfl) (Za rfl (Za (Xd ..) ?_)))));obtain⟨hd,hg⟩:=hd0;have hF:∀h,s.s0.hand=h→dropF s 0=match h with | []=>(0,s,[])|c::h=>(0,tellS (s.put 0 { s.s0 with hand:=h,grave:=s.s0.grave++[c] }) [c] [0,1],[⟨8,0,c,0,0,0,[]⟩]):=by
   intro h e; subst e; rfl
  have r1':=r1;generalize hh:s.s0.hand=h at *;cases h with
  |nil=>
   have hF:=hF [] rfl;refine Qc ?_;exact hK _ _ ⟨lv,mv,f0,by rw[hF]; exact r1',by rw[hF],by rw[hF]; simpa using l1⟩
  |cons c h=>
  have hF:dropF s 0=(0,tellS (s.put 0 { s.s0 with hand:=h,grave:=s.s0.grave++[c] }) [c] [0,1],[⟨8,0,c,0,0,0,[]⟩]):=hF _ rfl;refine Zb (λh=>by simp at h; omega) (λ_=>?_);refine Za rfl (Za rfl (Za (ld r1 rfl) ?_));rw[hh];refine Za rfl (Za rfl (Za rfl (Za rfl (Za (ld r1 rfl) ?_))));rw[hh];have hhl:h.length≤1000000000:=by simp at hd; omega
  refine Za (Zcz c h _) (Xb (c185P h hhl) rfl g31.ok.plain rfl (Za rfl (Za rfl ?_)));refine Yc (stv (row':=rnC b (s.put 0 { s.s0 with hand:=h }) sd tg lv fu mv) r1 rfl rfl rfl) (Yj _ hrb1) ?_;have r2:hget (τ.set rb (.box (rnC b (s.put 0 { s.s0 with hand:=h }) sd tg lv fu mv))) rb=.box (rnC b (s.put 0 { s.s0 with hand:=h }) sd tg lv fu mv):=Qp (List.getElem?_set_self hrb1);have f2:Fr rb lv lv σ (τ.set rb (.box (rnC b (s.put 0 { s.s0 with hand:=h }) sd tg lv fu mv))):=f0.trans (Fr.set lv _);have l2:LV rb l lv (τ.set rb (.box (rnC b (s.put 0 { s.s0 with hand:=h }) sd tg lv fu mv))):=l1.old (λk hk hkr=>Ye _ hk hkr);have hrb2:rb<(τ.set rb (.box (rnC b (s.put 0 { s.s0 with hand:=h }) sd tg lv fu mv))).length:=by simpa using hrb1
  generalize τ.set rb (.box (rnC b (s.put 0 { s.s0 with hand:=h }) sd tg lv fu mv))=τ2 at *;refine Za rfl (Za rfl (Za (ld r2 rfl) (Xb (c405 s.s0.grave) rfl g58.ok.plain rfl ?_)));refine Yc (v:=.sl τ2.length 0 1 true) (rd:=[]) (up:=[(τ2.length,.rows 1 [[iv c]])]) rfl (Xl _ _) ?_;have r3:=Zf [ABlk.rows 1 [[iv c]]] r2 (by simp);have f3:Fr rb lv lv σ (τ2++[ABlk.rows 1 [[iv c]]]):=f2.trans (Fr.app _ (λk n e=>l2.lt e));have l3:LV rb l lv (τ2++[ABlk.rows 1 [[iv c]]]):=l2.old (λk hk _=>Ym _ hk);have n3:=Qf τ2 (.rows 1 [[iv c]]);have hrb3:rb<(τ2++[ABlk.rows 1 [[iv c]]]).length:=by simp; omega
  refine Yc (YaO s.s0.grave [c] (src1 n3) (by simp; omega)) rfl (Za rfl (Za rfl ?_));generalize τ2++[ABlk.rows 1 [[iv c]]]=τ3 at *;refine Yc (stv (row':=rnC b (s.put 0 { s.s0 with hand:=h,grave:=s.s0.grave++[c] }) sd tg lv fu mv) r3 rfl rfl rfl) (Yj _ hrb3) ?_;have r4:hget (τ3.set rb (.box (rnC b (s.put 0 { s.s0 with hand:=h,grave:=s.s0.grave++[c] }) sd tg lv fu mv))) rb=.box (rnC b (s.put 0 { s.s0 with hand:=h,grave:=s.s0.grave++[c] }) sd tg lv fu mv):=Qp (List.getElem?_set_self hrb3);have f4:Fr rb lv lv σ (τ3.set rb (.box (rnC b (s.put 0 { s.s0 with hand:=h,grave:=s.s0.grave++[c] }) sd tg lv fu mv))):=f3.trans (Fr.set lv _);have l4:LV rb l lv (τ3.set rb (.box (rnC b (s.put 0 { s.s0 with hand:=h,grave:=s.s0.grave++[c] }) sd tg lv fu mv))):=l3.old (λk hk hkr=>Ye _ hk hkr);have hrb4:rb<(τ3.set rb (.box (rnC b (s.put 0 { s.s0 with hand:=h,grave:=s.s0.grave++[c] }) sd tg lv fu mv))).length:=by simpa using hrb3
  have hT4:TB 100000000 (s.put 0 { s.s0 with hand:=h,grave:=s.s0.grave++[c] }):=hT;generalize τ3.set rb (.box (rnC b (s.put 0 { s.s0 with hand:=h,grave:=s.s0.grave++[c] }) sd tg lv fu mv))=τ4 at *;generalize s.put 0 { s.s0 with hand:=h,grave:=s.s0.grave++[c] }=s4 at *;refine Yc (v:=.sl τ4.length 0 1 true) (rd:=[]) (up:=[(τ4.length,.rows 1 [[iv c]])]) rfl (Xl _ _) ?_;have r5:=Zf [ABlk.rows 1 [[iv c]]] r4 (by simp);have f5:Fr rb lv lv σ (τ4++[ABlk.rows 1 [[iv c]]]):=f4.trans (Fr.app _ (λk n e=>l4.lt e));have l5:LV rb l lv (τ4++[ABlk.rows 1 [[iv c]]]):=l4.old (λk hk _=>Ym _ hk);have n5:=Qf τ4 (.rows 1 [[iv c]]);have hrb5:rb<(τ4++[ABlk.rows 1 [[iv c]]]).length:=by simp; omega
  have ne5:τ4.length≠rb:=by omega
  generalize τ4++[ABlk.rows 1 [[iv c]]]=τ5 at *;refine Yc (v:=.sl τ5.length 0 2 true) (rd:=[]) (up:=[(τ5.length,.rows 1 [[iv 0],[iv 1]])]) rfl (Xl _ _) ?_;have r6:=Zf [ABlk.rows 1 [[iv 0],[iv 1]]] r5 (by simp);have f6:Fr rb lv lv σ (τ5++[ABlk.rows 1 [[iv 0],[iv 1]]]):=f5.trans (Fr.app _ (λk n e=>l5.lt e));have l6:LV rb l lv (τ5++[ABlk.rows 1 [[iv 0],[iv 1]]]):=l5.old (λk hk _=>Ym _ hk);have n6:=Zf [ABlk.rows 1 [[iv 0],[iv 1]]] n5 (by simp);have m6:=Qf τ5 (.rows 1 [[iv 0],[iv 1]]);have hrb6:rb<(τ5++[ABlk.rows 1 [[iv 0],[iv 1]]]).length:=by simp; omega
  refine Xg hP (f:=59) rfl g59.ok rfl ?_;refine Qbk r6 [c] (.sl τ4.length 0 1 true) [τ4.length] (λy=>src1 (Yg n6 (by simp) ne5.symm)) [0,1] _ m6 (by omega) (by simp) 100000000 hT4 (by simp) (by simp) ?_;refine Za (v:=.agg (evX ⟨8,0,c,0,0,0,[]⟩ .nils)) rfl ?_;refine Xg hP (f:=55) rfl g55.ok rfl ?_;refine XaL (Qp (List.getElem?_set_self hrb6)) (l6.old (λk hk hkr=>Ye _ hk hkr)) hn _ _ (.inr ⟨rfl,rfl⟩) (λσ' lv' q1 q2 q3=>?_);exact hK _ _ ⟨lv',mv,(f6.trans (Fr.set lv _)).trans q1,by rw[hF]; exact q2,by rw[hF],by rw[hF]; exact q3⟩
 ·refine Za rfl (Za rfl (Za rfl (Za (ld r1 rfl) (Za rfl (Za (Xd ..) ?_)))));obtain⟨hd,hg⟩:=hd1;have hF:∀h,s.s1.hand=h→dropF s 1=match h with | []=>(0,s,[])|c::h=>(0,tellS (s.put 1 { s.s1 with hand:=h,grave:=s.s1.grave++[c] }) [c] [0,1],[⟨8,1,c,0,0,0,[]⟩]):=by
   intro h e; subst e; rfl
  have r1':=r1;generalize hh:s.s1.hand=h at *;cases h with
  |nil=>
   have hF:=hF [] rfl;refine Qc ?_;exact hK _ _ ⟨lv,mv,f0,by rw[hF]; exact r1',by rw[hF],by rw[hF]; simpa using l1⟩
  |cons c h=>
  have hF:dropF s 1=(0,tellS (s.put 1 { s.s1 with hand:=h,grave:=s.s1.grave++[c] }) [c] [0,1],[⟨8,1,c,0,0,0,[]⟩]):=hF _ rfl;refine Zb (λh=>by simp at h; omega) (λ_=>?_);refine Za rfl (Za rfl (Za (ld r1 rfl) ?_));rw[hh];refine Za rfl (Za rfl (Za rfl (Za rfl (Za (ld r1 rfl) ?_))));rw[hh];have hhl:h.length≤1000000000:=by simp at hd; omega
  refine Za (Zcz c h _) (Xb (c185P h hhl) rfl g31.ok.plain rfl (Za rfl (Za rfl ?_)));refine Yc (stv (row':=rnC b (s.put 1 { s.s1 with hand:=h }) sd tg lv fu mv) r1 rfl rfl rfl) (Yj _ hrb1) ?_;have r2:hget (τ.set rb (.box (rnC b (s.put 1 { s.s1 with hand:=h }) sd tg lv fu mv))) rb=.box (rnC b (s.put 1 { s.s1 with hand:=h }) sd tg lv fu mv):=Qp (List.getElem?_set_self hrb1);have f2:Fr rb lv lv σ (τ.set rb (.box (rnC b (s.put 1 { s.s1 with hand:=h }) sd tg lv fu mv))):=f0.trans (Fr.set lv _);have l2:LV rb l lv (τ.set rb (.box (rnC b (s.put 1 { s.s1 with hand:=h }) sd tg lv fu mv))):=l1.old (λk hk hkr=>Ye _ hk hkr);have hrb2:rb<(τ.set rb (.box (rnC b (s.put 1 { s.s1 with hand:=h }) sd tg lv fu mv))).length:=by simpa using hrb1
  generalize τ.set rb (.box (rnC b (s.put 1 { s.s1 with hand:=h }) sd tg lv fu mv))=τ2 at *;refine Za rfl (Za rfl (Za (ld r2 rfl) (Xb (c405 s.s1.grave) rfl g58.ok.plain rfl ?_)));refine Yc (v:=.sl τ2.length 0 1 true) (rd:=[]) (up:=[(τ2.length,.rows 1 [[iv c]])]) rfl (Xl _ _) ?_;have r3:=Zf [ABlk.rows 1 [[iv c]]] r2 (by simp);have f3:Fr rb lv lv σ (τ2++[ABlk.rows 1 [[iv c]]]):=f2.trans (Fr.app _ (λk n e=>l2.lt e));have l3:LV rb l lv (τ2++[ABlk.rows 1 [[iv c]]]):=l2.old (λk hk _=>Ym _ hk);have n3:=Qf τ2 (.rows 1 [[iv c]]);have hrb3:rb<(τ2++[ABlk.rows 1 [[iv c]]]).length:=by simp; omega
  refine Yc (YaO s.s1.grave [c] (src1 n3) (by simp; omega)) rfl (Za rfl (Za rfl ?_));generalize τ2++[ABlk.rows 1 [[iv c]]]=τ3 at *;refine Yc (stv (row':=rnC b (s.put 1 { s.s1 with hand:=h,grave:=s.s1.grave++[c] }) sd tg lv fu mv) r3 rfl rfl rfl) (Yj _ hrb3) ?_;have r4:hget (τ3.set rb (.box (rnC b (s.put 1 { s.s1 with hand:=h,grave:=s.s1.grave++[c] }) sd tg lv fu mv))) rb=.box (rnC b (s.put 1 { s.s1 with hand:=h,grave:=s.s1.grave++[c] }) sd tg lv fu mv):=Qp (List.getElem?_set_self hrb3);have f4:Fr rb lv lv σ (τ3.set rb (.box (rnC b (s.put 1 { s.s1 with hand:=h,grave:=s.s1.grave++[c] }) sd tg lv fu mv))):=f3.trans (Fr.set lv _);have l4:LV rb l lv (τ3.set rb (.box (rnC b (s.put 1 { s.s1 with hand:=h,grave:=s.s1.grave++[c] }) sd tg lv fu mv))):=l3.old (λk hk hkr=>Ye _ hk hkr);have hrb4:rb<(τ3.set rb (.box (rnC b (s.put 1 { s.s1 with hand:=h,grave:=s.s1.grave++[c] }) sd tg lv fu mv))).length:=by simpa using hrb3
  have hT4:TB 100000000 (s.put 1 { s.s1 with hand:=h,grave:=s.s1.grave++[c] }):=hT;generalize τ3.set rb (.box (rnC b (s.put 1 { s.s1 with hand:=h,grave:=s.s1.grave++[c] }) sd tg lv fu mv))=τ4 at *;generalize s.put 1 { s.s1 with hand:=h,grave:=s.s1.grave++[c] }=s4 at *;refine Yc (v:=.sl τ4.length 0 1 true) (rd:=[]) (up:=[(τ4.length,.rows 1 [[iv c]])]) rfl (Xl _ _) ?_;have r5:=Zf [ABlk.rows 1 [[iv c]]] r4 (by simp);have f5:Fr rb lv lv σ (τ4++[ABlk.rows 1 [[iv c]]]):=f4.trans (Fr.app _ (λk n e=>l4.lt e));have l5:LV rb l lv (τ4++[ABlk.rows 1 [[iv c]]]):=l4.old (λk hk _=>Ym _ hk);have n5:=Qf τ4 (.rows 1 [[iv c]]);have hrb5:rb<(τ4++[ABlk.rows 1 [[iv c]]]).length:=by simp; omega
  have ne5:τ4.length≠rb:=by omega
  generalize τ4++[ABlk.rows 1 [[iv c]]]=τ5 at *;refine Yc (v:=.sl τ5.length 0 2 true) (rd:=[]) (up:=[(τ5.length,.rows 1 [[iv 0],[iv 1]])]) rfl (Xl _ _) ?_;have r6:=Zf [ABlk.rows 1 [[iv 0],[iv 1]]] r5 (by simp);have f6:Fr rb lv lv σ (τ5++[ABlk.rows 1 [[iv 0],[iv 1]]]):=f5.trans (Fr.app _ (λk n e=>l5.lt e));have l6:LV rb l lv (τ5++[ABlk.rows 1 [[iv 0],[iv 1]]]):=l5.old (λk hk _=>Ym _ hk);have n6:=Zf [ABlk.rows 1 [[iv 0],[iv 1]]] n5 (by simp);have m6:=Qf τ5 (.rows 1 [[iv 0],[iv 1]]);have hrb6:rb<(τ5++[ABlk.rows 1 [[iv 0],[iv 1]]]).length:=by simp; omega
  refine Xg hP (f:=59) rfl g59.ok rfl ?_;refine Qbk r6 [c] (.sl τ4.length 0 1 true) [τ4.length] (λy=>src1 (Yg n6 (by simp) ne5.symm)) [0,1] _ m6 (by omega) (by simp) 100000000 hT4 (by simp) (by simp) ?_;refine Za (v:=.agg (evX ⟨8,1,c,0,0,0,[]⟩ .nils)) rfl ?_;refine Xg hP (f:=55) rfl g55.ok rfl ?_;refine XaL (Qp (List.getElem?_set_self hrb6)) (l6.old (λk hk hkr=>Ye _ hk hkr)) hn _ _ (.inr ⟨rfl,rfl⟩) (λσ' lv' q1 q2 q3=>?_);exact hK _ _ ⟨lv',mv,(f6.trans (Fr.set lv _)).trans q1,by rw[hF]; exact q2,by rw[hF],by rw[hF]; exact q3⟩
end Go.Ah.Tz
end
section
namespace Go.Ah.Tz
open Go.Proofs.Tryz (prog)
set_option maxRecDepth 100000
def condT(b:Bk)(s:St)(sd op who:Int)(name:Tx)(ns:List Int)(qs:List Bool):Bool:=
 if op=0 then decide (ns.getD 0 0<ns.getD 1 0) else if op=1 then decide (ns.getD 0 0≤ns.getD 1 0) else if op=2 then decide (ns.getD 0 0=ns.getD 1 0)
 else if op=3 then !qs.getD 0 false else if op=4 then qs.getD 0 false&&qs.getD 1 false else if op=5 then qs.getD 0 false||qs.getD 1 false
 else (sdK s (whoS sd who)).hand.any λc=>(Q0 b c).name==name
mutual
def condF (b:Bk) (s:St) (sd tg:Int):Cn→Bool
 |.mk op who name nums kids=>condT b s sd op who name (numFs b s sd tg nums) (condFs b s sd tg kids)
def condFs (b:Bk) (s:St) (sd tg:Int):List Cn→List Bool
 |[]=>[]
 |x::l=>condF b s sd tg x::condFs b s sd tg l
end
theorem ZcZ(b:Bk)(s:St)(sd tg:Int)(x:Cn):condF b s sd tg x=condT b s sd x.op x.who x.name (numFs b s sd tg x.nums) (condFs b s sd tg x.kids):=by cases x; rfl
theorem QbF(b:Bk)(s:St)(sd tg:Int):∀(l:List Nm) (i:Nat) (h:i<l.length),(numFs b s sd tg l).getD i 0=numF b s sd tg l[i]
 |x::l,0,_=>rfl
 |x::l,i+1,h=>by
  have:=QbF b s sd tg l i (by simpa using h);simpa[numFs] using this
theorem Qbb(b:Bk)(s:St)(sd tg:Int):∀(l:List Cn) (i:Nat) (h:i<l.length),(condFs b s sd tg l).getD i false=condF b s sd tg l[i]
 |x::l,0,_=>rfl
 |x::l,i+1,h=>by
  have:=Qbb b s sd tg l i (by simpa using h);simpa[condFs] using this
def arrN(ns:List Int)(i:Nat):List AVal:=[iv (if 0<i then ns.getD 0 0 else 0),iv (if 1<i then ns.getD 1 0 else 0)]
def arrB(qs:List Bool)(i:Nat):List AVal:=[.bool (if 0<i then qs.getD 0 false else false),.bool (if 1<i then qs.getD 1 false else false)]
theorem XbF{t:Bool}:∀ {l:List Nm},nmsOk t l=true→∀y∈l,nmOk t y=true
 |a::l,h,y,hy=>by
  simp only[nmsOk,Bool.and_eq_true] at h;simp only[List.mem_cons] at hy;rcases hy with rfl|hy
  ·exact h.1
  ·exact XbF h.2 y hy
theorem Xbx{cs:List Cd}{t:Bool}:∀ {l:List Cn},cnsOk cs t l=true→∀y∈l,cnOk cs t y=true
 |a::l,h,y,hy=>by
  simp only[cnsOk,Bool.and_eq_true] at h;simp only[List.mem_cons] at hy;rcases hy with rfl|hy
  ·exact h.1
  ·exact Xbx h.2 y hy
def InB(b:Bk)(s:St):Prop:=∀k c,c∈(sdK s k).deck∨c∈(sdK s k).hand→0≤c∧c.toNat<b.cards.length
attribute [local irreducible] Ans.rd Ans.pu Ans.wr Ans.dr Ans.gr Ans.gw Ans.gl Ans.gd Ans.opt joinK W
set_option maxHeartbeats 8000000
theorem c569'(b:Bk)(hf:bkFit b=true)(hsm:Qj b.cards)(s:St)(hs:StLe 1000000000 s)(hm:mayR (bkR b).1 b s true=true)(sd tg:Int)(h0:0≤sd)(h1:sd≤1)(hd:InB b s)(t:Bool) :
  ∀(k:Nat) (x:Cn) (row:List AVal) (j:Nat),CnAt row j x→SizeOf.sizeOf x≤k→cnFit x=true→cnOk b.cards t x=true→PC 200 [.agg [.rptr row j],asP b s sd tg] (.iface 4 (.bool (condF b s sd tg x)))
 |0,x,_,_,_,h,_,_=>by cases x; simp at h
 |k+1,x,row,j,hx,hk,hfx,hok=>by
  have hk1:=hok;rw[YbN] at hk1;simp only[Bool.and_eq_true] at hk1;obtain⟨k1,k2,k3,_⟩:=hk1;simp only[cnTop,Bool.and_eq_true,decide_eq_true_eq] at k1;obtain⟨ka,kb,kc,kd⟩:=k1;have kc2:x.nums.length≤2:=by rw[kc,cnK3]; split<;>omega
  have kd2:x.kids.length≤2:=by grind [cnK4]
  have hnum:∀(i:Nat) (hi:i<x.nums.length),PC 180 [.agg [.rptr (nmC x.nums[i]) 0],asP b s sd tg] (.iface 3 (iv ((numFs b s sd tg x.nums).getD i 0))):=by
   intro i hi;have hmem:=List.getElem_mem hi;rw[QbF b s sd tg x.nums i hi];exact c289' b hf hsm s hs hm sd tg h0 h1 (λc hc=>hd _ c (.inl hc)) t _ _ _ 0 (nmAt _) (Nat.le_refl _) (QT hfx hmem) (XbF k2 _ hmem)
  have hkid:∀(i:Nat) (hi:i<x.kids.length),PC 200 [.agg [.rptr (cnC x.kids[i]) 0],asP b s sd tg] (.iface 4 (.bool ((condFs b s sd tg x.kids).getD i false))):=by
   intro i hi;have hmem:=List.getElem_mem hi;rw[Qbb b s sd tg x.kids i hi];exact c569' b hf hsm s hs hm sd tg h0 h1 hd t k _ _ 0 (cnAt _) (by have:=Xag hmem; omega) (XT hfx hmem) (Xbx k3 _ hmem)
  rw[ZcZ];generalize numFs b s sd tg x.nums=ns at hnum ⊢;generalize condFs b s sd tg x.kids=qs at hkid ⊢;refine Qb hP g200.ok rfl rfl ?_;rw[H2.e]; unfold g200; dsimp only;refine Yc (v:=.bptr 0 0) (rd:=[]) (up:=[(0,.box [.rptr row j])]) rfl rfl (Yc (v:=.bptr 1 0) rfl rfl (Yc (v:=.bptr 2 0) rfl rfl ?_));refine Za rfl (Za (ld (row:=[.rptr row j]) rfl rfl) (Za rfl (Za rfl (Za (ldr hx.h3) (Za (v:=iv x.nums.length) (rd:=[]) (by simp[Qs]) ?_)))));refine Xj (ι:=Nat) (λi vs τ=>vs=[iv i]∧i≤x.nums.length∧τ=[.box [.rptr row j],.box (arrN ns i),.box [.bool false,.bool false]]) (λi=>x.nums.length-i) 0 ⟨rfl,by omega,rfl⟩ ?_;rintro i vs τ again ⟨rfl,hi,rfl⟩ hag;refine Za rfl (Zb (λh=>?_) (λh=>?_))
  ·have h:i<x.nums.length:=by simpa using h
   refine Za rfl (Za (ld (row:=[.rptr row j]) rfl rfl) (Za rfl (Za rfl (Za (ldr hx.h3) (Za (Yo _ nmC _ _ _ x.nums _ i h) (Za rfl (Xb (hnum i h) rfl g180.ok.plain rfl (Za rfl ?_))))))));have h01:i=0∨i=1:=by omega
   rcases h01 with rfl|rfl
   ·refine Za rfl (Yc (v:=.junk) (rd:=[]) (up:=[(1,.box [iv (ns.getD 0 0),iv 0])]) rfl rfl (Za rfl (hag 1 _ _ (by omega) ⟨rfl,by omega,rfl⟩)))
   ·refine Za rfl (Yc (v:=.junk) (rd:=[]) (up:=[(1,.box [iv (ns.getD 0 0),iv (ns.getD 1 0)])]) rfl rfl (Za rfl (hag 2 _ _ (by omega) ⟨rfl,by omega,rfl⟩)))
  have h:i=x.nums.length:=by simp at h; omega
  subst h;clear hag;refine Za rfl (Za (ld (row:=[.rptr row j]) rfl rfl) (Za rfl (Za rfl (Za (ldr hx.h4) (Za (v:=iv x.kids.length) (rd:=[]) (by simp[Qs]) ?_)))));generalize hA:arrN ns x.nums.length=A1;refine Xj (ι:=Nat) (λi vs τ=>vs=[iv i]∧i≤x.kids.length∧τ=[.box [.rptr row j],.box A1,.box (arrB qs i)]) (λi=>x.kids.length-i) 0 ⟨rfl,by omega,rfl⟩ ?_;rintro i vs τ again ⟨rfl,hi,rfl⟩ hag;refine Za rfl (Zb (λh=>?_) (λh=>?_))
  ·have h:i<x.kids.length:=by simpa using h
   refine Za rfl (Za (ld (row:=[.rptr row j]) rfl rfl) (Za rfl (Za rfl (Za (ldr hx.h4) (Za (Yo _ cnC _ _ _ x.kids _ i h) (Za rfl (Xb (hkid i h) rfl g200.ok.plain rfl (Za rfl ?_))))))));have h01:i=0∨i=1:=by omega
   rcases h01 with rfl|rfl
   ·refine Za rfl (Yc (v:=.junk) (rd:=[]) (up:=[(2,.box [.bool (qs.getD 0 false),.bool false])]) rfl rfl (Za rfl (hag 1 _ _ (by omega) ⟨rfl,by omega,rfl⟩)))
   ·refine Za rfl (Yc (v:=.junk) (rd:=[]) (up:=[(2,.box [.bool (qs.getD 0 false),.bool (qs.getD 1 false)])]) rfl rfl (Za rfl (hag 2 _ _ (by omega) ⟨rfl,by omega,rfl⟩)))
  have h:i=x.kids.length:=by simp at h; omega
  subst h;clear hag;generalize hB:arrB qs x.kids.length=B1;refine Za rfl (Za (ld (row:=[.rptr row j]) rfl rfl) (Za rfl (Za rfl (Za (ldr hx.h0) ?_))));have hop:x.op=0∨x.op=1∨x.op=2∨x.op=3∨x.op=4∨x.op=5∨x.op=6:=by omega
  rcases hop with e|e|e|e|e|e|e
  ·have hA':A1=[iv (ns.getD 0 0),iv (ns.getD 1 0)]:=by rw[←hA,kc,e]; rfl
   subst hA'; rw[e];exact Za rfl (Qc (Za rfl (Za rfl (Za rfl (Za rfl (Za rfl (Za rfl rfl)))))))
  ·have hA':A1=[iv (ns.getD 0 0),iv (ns.getD 1 0)]:=by rw[←hA,kc,e]; rfl
   subst hA'; rw[e];exact Za rfl (Yd (Za rfl (Qc (Za rfl (Za rfl (Za rfl (Za rfl (Za rfl (Za rfl rfl)))))))))
  ·have hA':A1=[iv (ns.getD 0 0),iv (ns.getD 1 0)]:=by rw[←hA,kc,e]; rfl
   subst hA'; rw[e];exact Za rfl (Yd (Za rfl (Yd (Za rfl (Qc (Za rfl (Za rfl (Za rfl (Za rfl (Za (Xd ..) (Za rfl rfl)))))))))))
  ·have hB':B1=[.bool (qs.getD 0 false),.bool false]:=by rw[←hB,kd,e]; rfl
   subst hB'; rw[e];exact Za rfl (Yd (Za rfl (Yd (Za rfl (Yd (Za rfl (Qc (Za rfl (Za rfl (Za rfl (Za rfl rfl)))))))))))
  ·have hB':B1=[.bool (qs.getD 0 false),.bool (qs.getD 1 false)]:=by rw[←hB,kd,e]; rfl
   subst hB'; rw[e];refine Za rfl (Yd (Za rfl (Yd (Za rfl (Yd (Za rfl (Yd (Za rfl (Qc (Za rfl (Za rfl ?_)))))))))));rw[show condT b s sd 4 x.who x.name ns qs=(qs.getD 0 false&&qs.getD 1 false) from rfl];rcases YBE (qs.getD 0 false) with q|q
   ·rw[q];refine Ya (Za rfl (Ya (Za rfl (Za rfl (Za rfl ?_)))));rfl
   ·rw[q];refine Qa rfl (Qa rfl (Za rfl (Za rfl ?_)));rfl
  ·have hB':B1=[.bool (qs.getD 0 false),.bool (qs.getD 1 false)]:=by rw[←hB,kd,e]; rfl
   subst hB'; rw[e];refine Za rfl (Yd (Za rfl (Yd (Za rfl (Yd (Za rfl (Yd (Za rfl (Yd (Za rfl (Qc (Za rfl (Za rfl ?_)))))))))))));rw[show condT b s sd 5 x.who x.name ns qs=(qs.getD 0 false||qs.getD 1 false) from rfl];rcases YBE (qs.getD 0 false) with q|q
   ·rw[q];refine Qa rfl (Qa rfl (Za rfl (Za rfl ?_)));rfl
   ·rw[q];refine Ya (Za rfl (Ya (Za rfl (Za rfl (Za rfl ?_)))));rfl
  ·rw[e];refine Za rfl (Yd (Za rfl (Yd (Za rfl (Yd (Za rfl (Yd (Za rfl (Yd (Za rfl (Yd ?_)))))))))));refine Za rfl (Za (ld (row:=[.rptr row j]) rfl rfl) (Za rfl (Za rfl (Za (ldr hx.h1) (Xb (c295 b s sd tg x.who h0 h1) rfl g186.ok.plain rfl ?_)))));have hv:condT b s sd 6 x.who x.name ns qs=(sdK s (whoS sd x.who)).hand.any λc=>(Q0 b c).name==x.name:=rfl;rw[hv];have hin:∀c∈(sdK s (whoS sd x.who)).hand,0≤c∧c.toNat<b.cards.length:=λc hc=>hd _ c (.inr hc);obtain⟨jj,hjj,hpt,hln⟩:∃jj:Nat,partA false (jj+4) 1 (stC s)=some (rowV (sdK s (whoS sd x.who)).hand)∧(bif whoS sd x.who==0 then 7 else 15)=jj∧(sdK s (whoS sd x.who)).hand.length≤1000000000:=by
    rcases X8 (who:=x.who) h0 h1 with h|h
    ·rw[h]; exact⟨7,rfl,rfl,hs.s0.hand⟩
    ·rw[h]; exact⟨15,rfl,rfl,hs.s1.hand⟩
   rw[hpt];generalize (sdK s (whoS sd x.who)).hand=hand at hjj hin hln ⊢;refine Za rfl (Za rfl (Za (ldr hjj) (Za (v:=iv hand.length) (rd:=[]) (by simp[Qs]) ?_)));refine Xj (ι:=Nat) (λi vs τ=>vs=[iv i]∧i≤hand.length∧τ=[.box [.rptr row j],.box A1,.box B1]∧(hand.take i).any (λc=>(Q0 b c).name==x.name)=false) (λi=>hand.length-i) 0 ⟨rfl,by omega,rfl,rfl⟩ ?_;rintro i vs τ again ⟨rfl,hi,rfl,hno⟩ hag;refine Za rfl (Zb (λh=>?_) (λh=>?_))
   ·have h:i<hand.length:=by simpa using h
    obtain⟨q1,q2⟩:=hin hand[i] (List.getElem_mem h);refine Za (Yo _ cel _ _ _ hand _ i h) (Za (v:=iv hand[i]) (ldr rfl) ?_);refine Za rfl (Za rfl (Za (v:=.rptr (bkC b) 0) (ldr (row:=asR b s sd tg) rfl) (Za rfl (Za rfl (Za (v:=cdV b.cards) (ldr (row:=bkC b) rfl) ?_)))));refine Za (Qa7 _ cdC _ _ _ b.cards _ _ q1 q2) (Za rfl (Za (v:=.str b.cards[hand[i].toNat].name) (ldr rfl) ?_));refine Za rfl (Za (ld (row:=[.rptr row j]) rfl rfl) (Za rfl (Za rfl (Za (ldr hx.h2) (Za (Xe ..) ?_)))));have hc:Q0 b hand[i]=b.cards[hand[i].toNat]:=by simp[Q0,q2]
    refine Zb (λhq=>?_) (λhq=>?_)
    ·have:hand.any (λc=>(Q0 b c).name==x.name)=true:=List.any_eq_true.2 ⟨hand[i],List.getElem_mem h,by rw[hc]; exact hq⟩;rw[this];exact Za rfl rfl
    ·refine Za (Yh ..) ?_;rw[Qd (n:=i) (by omega)];refine hag (i+1) _ _ (by omega) ⟨rfl,by omega,rfl,?_⟩
     grind [Zu]
   ·have h:i=hand.length:=by simp at h; omega
    subst h;rw[List.take_length] at hno;rw[hno];exact Za rfl rfl
theorem c569(b:Bk)(hf:bkFit b=true)(hsm:Qj b.cards)(s:St)(hs:StLe 1000000000 s)(hm:mayR (bkR b).1 b s true=true)(sd tg:Int)(h0:0≤sd)(h1:sd≤1)(hd:InB b s)(t:Bool)(x:Cn)(hx:cnFit x=true)(hok:cnOk b.cards t x=true) :
  PC 200 [.agg [.rptr (cnC x) 0],asP b s sd tg] (.iface 4 (.bool (condF b s sd tg x))):=c569' b hf hsm s hs hm sd tg h0 h1 hd t _ x _ 0 (cnAt x) (Nat.le_refl _) hx hok
end Go.Ah.Tz
end
section
namespace Go.Ah.Tz
open Go.Proofs.Tryz (prog)
set_option maxRecDepth 100000
def ifE(y:Cn):Ef:=.mk 8 0 nm0 [] y [] []
def Za2(y:Cn):Cd:=⟨[80,114,111,98,101],false,0,0,0,0,0,0,[ifE y],[],[],0⟩
def Qag(b:Bk)(y:Cn):Bool:=!decide (cdW (Za2 y)-1>200)&&lstOk b.cards true 1 [ifE y]
theorem Ycv{b:Bk}{y:Cn}(h:Qag b y=true):cnOk b.cards true y=true:=by
 simp only[Qag,lstOk,efsOk,Bool.and_eq_true] at h;obtain⟨_,_,_,h,_⟩:=h;rw[Zas,if_pos (show (ifE y).op=8 from rfl)] at h;simp only[Bool.and_eq_true] at h;exact h.2.2.2.2.2.1
@[reducible] def ifR(y:Cn):List AVal:=[iv8 8,iv8 0,iv8 0,iv 0,iv8 0,.nils,.str [],iv8 y.op,iv8 y.who,.str y.name,.rsl false false 4 (y.nums.map nmC),.rsl false false 5 (y.kids.map cnC),.nils,.nils]
theorem XdE{h0:Hp}{rd:List Nat}(y:Cn):BorL h0 rd (ifR y) (efC (ifE y)):=by
 rw[ZA];exact .cons (Bor.ro rfl) <| .cons (Bor.ro rfl) <| .cons (Bor.ro rfl) <| .cons (Bor.ro rfl) <| .cons (Bor.ro rfl) <| .cons (Bor.weak (Bor.ro rfl) (λM u d=>d.nils_rsl 4)) <| .cons (Bor.ro rfl) <| .cons (Bor.ro rfl) <| .cons (Bor.ro rfl) <| .cons (Bor.ro rfl) <|
  .cons (Bor.ro rfl) <| .cons (Bor.ro rfl) <| .cons (Bor.weak (Bor.ro rfl) (λM u d=>d.nils_rsl 14)) <| .cons (Bor.weak (Bor.ro rfl) (λM u d=>d.nils_rsl 14)) .nil
theorem QdE{h0:Hp}{rd:List Nat}(y:Cn){b:Nat}(hb:h0 b=some (.rows 14 [ifR y]))(hin:b∈rd):Bor h0 rd (.sl b 0 1 true) (efV [ifE y]):=by
 refine Bor.weak (y:=.rsl true false 14 [efC (ifE y)]) (Bor.sl hb hin (by simp) rfl (λi row row' e1 e2=>?_)) (λM u d=>d.rsl_weak)
 grind [XdE]
theorem Ydf{y:Cn}(h:cnFit y=true):lsFit [ifE y]=true:=by
 simp[lsFit,ifE,Xap,efFit,h,nmFit,nm0,bigE,ZaA,i8B,i64B]
attribute [local irreducible] Ans.rd Ans.pu Ans.wr Ans.dr Ans.gr Ans.gw Ans.gl Ans.gd Ans.opt joinK W
set_option maxHeartbeats 4000000
theorem c172C(b:Bk)(hf:bkFit b=true)(y:Cn)(hy:cnFit y=true)(hsz:(cnP y).length≤1000000):PC 63 [.nilp,.rptr (cnC y) 0,.rptr (bkC b) 0] (.bool (Qag b y)):=by
 have hcs:XG b.cards=true:=by
  simp_all [bkFit]
 have hP1:(cdP (Za2 y)).length≤500000000:=by grind [cdP,Za2,efPs,ifE,efP,cntOp]
 have h124:=c124 (Za2 y) (Ydf hy) rfl rfl hP1;have h125:=c125 b.cards hcs [ifE y] (Ydf hy);have hwr:-9223372036854775808≤cdW (Za2 y)-1∧cdW (Za2 y)-1≤9223372036854775807:=by rw[XcY]; omega
 unfold Qag;rw[ZF];refine Qb hP g63.ok rfl rfl ?_;rw[H3.e]; unfold g63; dsimp only;refine Za rfl (Yc (v:=.bptr 0 0) rfl rfl (Yc (v:=.junk) (rd:=[]) (up:=[(0,.box [iv8 3,iv8 0,iv8 0,iv 0,iv8 0,.nils,.str [],iv8 0,iv8 0,.str [],.nils,.nils,.nils,.nils])]) rfl rfl (Za rfl (ZV (Yd ?_)))));refine Zd rfl (Zg (ldr rfl) rfl (Zd rfl (Zg (v:=.junk) (rd:=[]) (up:=[(0,.box [iv8 8,iv8 0,iv8 0,iv 0,iv8 0,.nils,.str [],iv8 0,iv8 0,.str [],.nils,.nils,.nils,.nils])]) rfl rfl (Zd rfl (Zg (v:=.junk) (rd:=[]) (up:=[(0,.box (ifR y))]) rfl rfl (Xr (by kernel_rfl) ?_))))));refine Za (ld (row:=ifR y) rfl rfl) (Yc (v:=.sl 1 0 1 true) (rd:=[]) (up:=[(1,.rows 14 [ifR y])]) rfl rfl (Za rfl (Yc (v:=.bptr 2 0) rfl rfl ?_)));refine Yc (v:=.junk) (rd:=[]) (up:=[(2,.box [.str [80,114,111,98,101],.bool false,iv 0,iv 0,iv 0,iv 0,iv 0,iv 0,.sl 1 0 1 true,.nils,.nils,iv 0])]) rfl rfl ?_;refine Za (ld (row:=[.str [80,114,111,98,101],.bool false,iv 0,iv 0,iv 0,iv 0,iv 0,iv 0,.sl 1 0 1 true,.nils,.nils,iv 0]) rfl rfl) ?_;refine ZC (rd:=[1]) h124 rfl g77.ok.plain (.cons (Bor.agg ?_) .nil) rfl ?_
 ·exact .cons (Bor.ro rfl) <| .cons (Bor.ro rfl) <| .cons (Bor.ro rfl) <| .cons (Bor.ro rfl) <| .cons (Bor.ro rfl) <| .cons (Bor.ro rfl) <| .cons (Bor.ro rfl) <| .cons (Bor.ro rfl) <| .cons (QdE y rfl (by simp)) <|
   .cons (Bor.weak (Bor.ro rfl) (λM u d=>d.nils_rsl 14)) <| .cons (Bor.weak (Bor.ro rfl) (λM u d=>d.nils_rsl 14)) <| .cons (Bor.ro rfl) .nil
 refine Za (Za8 ..) ?_;rw[IntWalk.i64_in _ hwr];refine Za (v:=.bool (decide (cdW (Za2 y)-1>200))) rfl ?_;refine Zb (λh=>?_) (λh=>?_)
 ·rw[h]; rfl
 rw[h];refine Zd rfl (Zd rfl (Zg (v:=cdV b.cards) (ldr (row:=bkC b) rfl) rfl (Zd rfl (Zg (v:=.sl 1 0 1 true) (ld (row:=[.str [80,114,111,98,101],.bool false,iv 0,iv 0,iv 0,iv 0,iv 0,iv 0,.sl 1 0 1 true,.nils,.nils,iv 0]) rfl rfl) rfl ?_))));exact XX (rd:=[1]) h125 rfl g91.ok.plain (.cons (Bor.ro rfl) (.cons (QdE y rfl (by simp)) .nil)) rfl (Xr (by kernel_rfl) rfl)
theorem c169(b:Bk)(hf:bkFit b=true)(hsm:Qj b.cards)(s:St)(hs:StLe 1000000000 s)(hm:mayR (bkR b).1 b s true=true)(sd tg:Int)(h0:0≤sd)(h1:sd≤1)(hd:InB b s)(y:Cn)(hy:cnFit y=true)(hsz:(cnP y).length≤1000000) :
  PC 40 [bkV b,stV s,.agg [iv sd,iv tg],.agg (cnC y)] (.tup [.bool (Qag b y&&condF b s sd tg y),iv (if Qag b y=true then 0 else 2)]):=by
 have hz:=c289' b hf hsm s hs hm sd tg h0 h1 (λc hc=>hd _ c (.inl hc)) true _ nm0 (nmC nm0) 0 (nmAt _) (Nat.le_refl _) rfl rfl;have a0:=c81 b hf hsm s hs hm sd tg h0 h1 _ _ _ hz;have h82:=c172C b hf y hy hsz;have a1:Qag b y=true→PC 62 [.rptr (bkC b) 0,.rptr (stC s) 0,.agg [iv sd,iv tg],.iface 135 (.agg [.rptr (cnC y) 0])] (.tup [.iface 4 (.bool (condF b s sd tg y)),iv 0]):=λh=>
  c81C b hf hsm s hs hm sd tg h0 h1 _ _ _ (c569 b hf hsm s hs hm sd tg h0 h1 hd true y hy (Ycv h))
 refine Qb hP g40.ok rfl rfl ?_;rw[H4.e]; unfold g40; dsimp only;refine Yc (v:=.bptr 0 0) (rd:=[]) (up:=[(0,.box (bkC b))]) rfl rfl (Yc (v:=.bptr 1 0) (rd:=[]) (up:=[(1,.box (stC s))]) rfl rfl (Yc (v:=.bptr 2 0) rfl rfl ?_));refine Yc (v:=.bptr 3 0) (rd:=[]) (up:=[(3,.box (cnC y))]) (by rw[ZF]; rfl) rfl ?_;refine Za (ld (row:=[iv sd,iv tg]) rfl rfl) (Za rfl (Yc (v:=.bptr 4 0) rfl rfl (Za rfl (Za rfl ?_))));have B0:∀ {σ:List ABlk} {rd:List Nat},hget σ 0=.box (bkC b)→0∈rd→Bor (hp σ) rd (.bptr 0 0) (.rptr (bkC b) 0):=λh hin=>Bor.box (XL h) hin (BorL.ro rfl);have B1:∀ {σ:List ABlk} {rd:List Nat},hget σ 1=.box (stC s)→1∈rd→Bor (hp σ) rd (.bptr 1 0) (.rptr (stC s) 0):=λh hin=>Bor.box (XL h) hin (BorL.ro rfl);have B3:∀ {σ:List ABlk} {rd:List Nat},hget σ 3=.box (cnC y)→3∈rd→Bor (hp σ) rd (.bptr 3 0) (.rptr (cnC y) 0):=λh hin=>Bor.box (XL h) hin (BorL.ro (by rw[ZF]; rfl));refine ZC (rd:=[0,1,4]) a0 rfl g81_plain (.cons (B0 rfl (by simp)) <| .cons (B1 rfl (by simp)) <| .cons (Bor.ro rfl) <| .cons (Bor.iface (Bor.agg (.cons (Bor.box (row:=[iv8 0,iv 0,iv8 0,.nils]) rfl (by simp) ?_) .nil))) .nil) rfl ?_
 ·exact .cons (Bor.ro rfl) <| .cons (Bor.ro rfl) <| .cons (Bor.ro rfl) <| .cons (Bor.weak (Bor.ro rfl) (λM u d=>d.nils_rsl 4)) .nil
 refine Za rfl (Za rfl (Za rfl (Xa ?_)));refine ZC (rd:=[0,3]) h82 rfl g63.ok.plain (.cons (Bor.ro rfl) <| .cons (B3 rfl (by simp)) <| .cons (B0 rfl (by simp)) .nil) rfl ?_;rcases YBE (Qag b y) with hq|hq
 ·rw[hq];refine Ya (Za rfl (Za rfl (Yd (Za rfl (ZV (Qc ?_))))));refine Za (ld (row:=[iv sd,iv tg]) rfl rfl) (Za rfl (Za rfl ?_));refine ZC (rd:=[0,1,3]) (a1 hq) rfl g81_plain (.cons (B0 rfl (by simp)) <| .cons (B1 rfl (by simp)) <| .cons (Bor.ro rfl) <| .cons (Bor.iface (Bor.agg (.cons (B3 rfl (by simp)) .nil))) .nil) rfl ?_;exact Za rfl (Za rfl (Za rfl (Yd (Za rfl rfl))))
 ·rw[hq];refine Ya (Za rfl (Za rfl (Qc rfl)))
def whoR(s:St)(sd tg who:Int):Int×Int×Bool:=
 if who=0 then (0,sd,true) else if who=1 then (0,1-sd,true) else if who≠2 then (0,0,false)
 else if tg = -2∨tg = -3 then (0,-2-tg,true) else if 0<tg then (if (unitR s tg).2.2=true then (tg,(unitR s tg).1,true) else (0,0,false)) else (0,0,false)
theorem c170(s:St)(hs:StLe 1000000000 s)(sd tg who:Int)(h0:0≤sd)(h1:sd≤1):PC 85 [stV s,.agg [iv sd,iv tg],iv8 who] (.tup [iv (whoR s sd tg who).1,iv (whoR s sd tg who).2.1,.bool (whoR s sd tg who).2.2]):=by
 have h71:=c71 s hs tg;refine Qb hP g85.ok rfl rfl ?_;rw[H3.e]; unfold g85; dsimp only;refine Yc (v:=.bptr 0 0) (rd:=[]) (up:=[(0,.box (stC s))]) rfl rfl (Yc (v:=.bptr 1 0) (rd:=[]) (up:=[(1,.box [iv sd,iv tg])]) rfl rfl ?_);refine Za rfl (Za (ld (row:=[iv sd,iv tg]) (v:=iv sd) rfl rfl) (Za (v:=.bool (decide (sd<0))) rfl ?_));rw[show decide (sd<0)=false from decide_eq_false (by omega)];refine Ya (Za rfl (Ya (Za (ld (row:=[iv sd,iv tg]) (v:=iv sd) rfl rfl) (Ya (Za (v:=.bool (decide (sd>1))) rfl ?_)))));rw[show decide (sd>1)=false from decide_eq_false (by omega)];refine Za rfl (Yd (Zi λk' ek=>?_));have hno:whoR s sd tg who=(0,0,false)→k' [] [.box (stC s),.box [iv sd,iv tg]]:=by
  simp_all
 clear ek;refine Za (Xd ..) (Zb (λh=>?_) (λh=>?_))
 ·have h:who=0:=by simpa using h
  have e:whoR s sd tg who=(0,sd,true):=by rw[whoR,if_pos h]
  rw[e];exact Za rfl (Za (ld (row:=[iv sd,iv tg]) (v:=iv sd) rfl rfl) rfl)
 have h:who≠0:=by simpa using h
 refine Za (Xd ..) (Zb (λh2=>?_) (λh2=>?_))
 ·have h2:who=1:=by simpa using h2
  have e:whoR s sd tg who=(0,1-sd,true):=by rw[whoR,if_neg h,if_pos h2]
  rw[e];refine Za rfl (Za (ld (row:=[iv sd,iv tg]) (v:=iv sd) rfl rfl) (Za (Za8 ..) ?_));rw[IntWalk.i64_in _ (by omega)]
 have h2:who≠1:=by simpa using h2
 refine Za (Qaa ..) (Zb (λh3=>?_) (λh3=>?_))
 ·simp_all [whoR]
 have h3:¬who≠2:=by simpa using h3
 have e0:whoR s sd tg who=if tg = -2∨tg = -3 then (0,-2-tg,true) else if 0<tg then (if (unitR s tg).2.2=true then (tg,(unitR s tg).1,true) else (0,0,false)) else (0,0,false):=by simp_all [whoR]
 refine Za rfl (Za (ld (row:=[iv sd,iv tg]) (v:=iv tg) rfl rfl) (Za (Xd ..) ?_));have pick:∀K:AVal→Prop,K (.bool (decide (tg = -2∨tg = -3)))→VV.gr (.bool (decide (tg = -2))) false (λk=>VV.rd (Ze 1 [.bptr 1 0] [.box (stC s),.box [iv sd,iv tg]]) k) λt39=>
   VV.gr (.bool (decide (tg = -2))) false (λk=>VV.rd (Xk false 1 [t39] [.box (stC s),.box [iv sd,iv tg]]) k) λt40=>
   VV.gr (.bool (decide (tg = -2))) false (λk=>VV.rd (Yn .eql false [t40,(.int .i64 (-3))] [.box (stC s),.box [iv sd,iv tg]]) k) λt41=>
   VV.rd (Xm [.bool (decide (tg = -2)),(.bool true),t41] [.box (stC s),.box [iv sd,iv tg]]) K:=by
  intro K hK;by_cases hq:tg = -2
  ·rw[show decide (tg = -2)=true from decide_eq_true hq];refine Qa rfl (Qa rfl (Qa rfl (Za rfl ?_)));simp_all
  ·rw[show decide (tg = -2)=false from decide_eq_false hq];refine Ya (Za rfl (Ya (Za (ld (row:=[iv sd,iv tg]) (v:=iv tg) rfl rfl) (Ya (Za (Xd ..) (Za rfl ?_))))));simp_all
 refine pick _ (Zb (λh4=>?_) (λh4=>?_))
 ·have h4:tg = -2∨tg = -3:=by simpa using h4
  rw[e0,if_pos h4];refine Za rfl (Za (ld (row:=[iv sd,iv tg]) (v:=iv tg) rfl rfl) (Za (Za8 ..) ?_));rw[IntWalk.i64_in _ (by omega)]
 have h4:¬(tg = -2∨tg = -3):=by simpa using h4
 rw[if_neg h4] at e0;refine Za rfl (Za (ld (row:=[iv sd,iv tg]) (v:=iv tg) rfl rfl) (Za (Xaa ..) (Zb (λh5=>?_) (λh5=>?_))))
 ·have h5:0<tg:=by simpa using h5
  rw[if_pos h5] at e0;refine Za (ld (row:=stC s) rfl rfl) (Za rfl (Za (ld (row:=[iv sd,iv tg]) (v:=iv tg) rfl rfl) (Xb h71 rfl g117.ok.plain rfl ?_)));unfold unitV;refine Za rfl (Za rfl (Za rfl (Zb (λh6=>?_) (λh6=>?_))))
  ·rw[if_pos h6] at e0;rw[e0];exact Za rfl (Za (ld (row:=[iv sd,iv tg]) (v:=iv tg) rfl rfl) rfl)
  simp_all
 grind
end Go.Ah.Tz
end
section
namespace Go.Ah.Tz
open Go.Proofs.Tryz (prog)
set_option maxRecDepth 100000
def YcJ(s:St)(sd tg who:Int):AVal:=if (whoR s sd tg who).2.2=true then (if 0<(whoR s sd tg who).1 then .iface 159 (.agg [iv (whoR s sd tg who).1,iv (whoR s sd tg who).2.1]) else .iface 160 (iv (whoR s sd tg who).2.1)) else .nili
theorem QbV{s:St}{sd tg who:Int}(h01:sd=0∨sd=1)(h:(whoR s sd tg who).2.2=true):((whoR s sd tg who).2.1=0∨(whoR s sd tg who).2.1=1)∧0≤(whoR s sd tg who).1:=by
 grind [whoR,unitR]
def mvR(op:Int)(b:Bk)(s:St)(id k n:Int):St×Ev×Int:=if op=1 then mendF s id k n else harmF b s id k n
def hurtE(b:Bk)(s:St)(sd tg op who n:Int):Int×St×List Ev:=
 if (whoR s sd tg who).2.2=true∧0≤n then
  (if (mvR op b s (whoR s sd tg who).1 (whoR s sd tg who).2.1 n).2.2=0 then (0,(mvR op b s (whoR s sd tg who).1 (whoR s sd tg who).2.1 n).1,[(mvR op b s (whoR s sd tg who).1 (whoR s sd tg who).2.1 n).2.1])
  else ((mvR op b s (whoR s sd tg who).1 (whoR s sd tg who).2.1 n).2.2,s,[]))
 else (0,s,[])
theorem Ybo{σ:List ABlk}{b j n:Nat}{row:List AVal}{v:AVal}(hb:hget σ b=.box row)(hv:partA true j n row=some v):cellV true n (.bptr b j) σ=some v:=by
 simp only[cellV,hb,hv]
theorem Agr.lift{σ σ':List ABlk}(h:Agr σ σ' [])(rb:Nat){lv:AVal}:Fr rb lv lv σ σ':=⟨h.1,λk hk _ _=>h.2 k hk (by simp),λk n e=>.inr ⟨n,e⟩⟩
theorem Agr.app1(σ:List ABlk)(x:ABlk):Agr σ (σ++[x]) []:=Agr.app σ [x]
theorem Agr.setNew{σ τ:List ABlk}(h:Agr σ τ []){b:Nat}(hb:σ.length≤b)(x:ABlk):Agr σ (τ.set b x) []:=
 ⟨by simpa using h.1,λc hc _=>by rw[Ye x (Nat.lt_of_lt_of_le hc h.1) (by omega),h.2 c hc (by simp)]⟩
theorem Agr.app'{σ τ:List ABlk}(h:Agr σ τ [])(x:ABlk):Agr σ (τ++[x]) []:=by
 have:=h.trans (Agr.app1 τ x); simpa using this
attribute [local irreducible] Ans.rd Ans.pu Ans.wr Ans.dr Ans.gr Ans.gw Ans.gl Ans.gd Ans.opt joinK W
set_option maxHeartbeats 4000000
theorem Zdp{σ:List ABlk}{rb:Nat}{b:Bk}{s:St}{sd tg fu:Int}{mv lv:AVal}(hr:hget σ rb=.box (rnC b s sd tg lv fu mv))(h01:sd=0∨sd=1)(hs:StLe 1000000000 s)(who:Int){K:AVal→List ABlk→Prop}(hK:K (YcJ s sd tg who) σ):g54.u VV [.bptr rb 0,iv8 who] σ K:=by
 rw[H2.e]; unfold g54; dsimp only;refine Za rfl (Za rfl (Za (v:=stV s) (ld hr rfl) (Za rfl (Za rfl (Za (v:=.agg [iv sd,iv tg]) (ld hr rfl) ?_)))));refine Xb (c170 s hs sd tg who (by omega) (by omega)) rfl g85.ok.plain rfl ?_;unfold YcJ at hK;refine Za rfl (Za rfl (Za rfl (Za rfl (Zb (λh=>?_) (λh=>?_)))))
 ·simp_all
 ·rw[if_pos (by simpa using h)] at hK;refine Za (Xaa ..) (Zb (λh2=>?_) (λh2=>?_))
  ·rw[if_pos (by simpa using h2)] at hK; exact Za rfl (Za rfl hK)
  ·rw[if_neg (by simpa using h2)] at hK; exact Za rfl hK
theorem QcV{σ:List ABlk}{rb:Nat}{b:Bk}{s:St}{sd tg fu:Int}{lv:AVal}{F:FuncId}(hr:hget σ rb=.box (rnC b s sd tg lv fu (.func (.func F) [] [])))(id k n:Int){r:St×Ev×Int}(hc:PC F [bkV b,stV s,iv id,iv k,iv n] (resV r))(hpF:Yi prog F=true){K:AVal→List ABlk→Prop}
 (hK:∀σ',Agr σ σ' []→K (resV r) σ'):g201.u VV [.agg [iv id,iv k],.bptr rb 0,iv n] σ K:=by
 rw[H3.e]; unfold g201; dsimp only;refine Yc (v:=.bptr σ.length 0) (rd:=[]) (up:=[(σ.length,.box [iv id,iv k])]) rfl (Xl σ _) ?_;have a1:=Agr.app1 σ (.box [iv id,iv k]);have r1:=Zf [ABlk.box [iv id,iv k]] hr (by simp);have n1:=Qf σ (.box [iv id,iv k]);have l1:(σ++[ABlk.box [iv id,iv k]]).length=σ.length+1:=by simp
 generalize σ++[ABlk.box [iv id,iv k]]=τ1 at *;refine Yc (v:=.bptr τ1.length 0) (rd:=[]) (up:=[(τ1.length,.box zStC)]) rfl (Xl τ1 _) ?_;have a2:=a1.app' (.box zStC);have r2:=Zf [ABlk.box zStC] r1 (by simp);have n2:=Zf [ABlk.box zStC] n1 (by simp);have z2:=Qf τ1 (.box zStC);have l2:(τ1++[ABlk.box zStC]).length=τ1.length+1:=by simp
 generalize τ1++[ABlk.box zStC]=τ2 at *;refine Yc (v:=.bptr τ2.length 0) (rd:=[]) (up:=[(τ2.length,.box zEvC)]) rfl (Xl τ2 _) ?_;have a3:=a2.app' (.box zEvC);have r3:=Zf [ABlk.box zEvC] r2 (by simp);have n3:=Zf [ABlk.box zEvC] n2 (by simp);have z3:=Zf [ABlk.box zEvC] z2 (by simp);have e3:=Qf τ2 (.box zEvC);have l3:(τ2++[ABlk.box zEvC]).length=τ2.length+1:=by simp
 generalize τ2++[ABlk.box zEvC]=τ3 at *;refine Za rfl (Za rfl (Za (v:=.func (.func F) [] []) (ld r3 rfl) (Za rfl (Za rfl (Za (v:=bkV b) (ld r3 rfl) (Za rfl (Za rfl (Za (v:=stV s) (ld r3 rfl) ?_))))))));refine Za rfl (Za (v:=iv id) (ld n3 rfl) (Za rfl (Za (v:=iv k) (ld n3 rfl) ?_)));refine Xb (f:=F) (ys:=[bkV b,stV s,iv id,iv k,iv n]) hc rfl hpF rfl ?_;refine Zd rfl (Zd rfl (Zd rfl ?_));refine Zg (stv z3 rfl rfl rfl) (Yj _ (by omega)) ?_;have e4:=Yg (x:=.box (stC r.1)) e3 (by simp) (c:=τ1.length) (by omega);have s4:hget (τ3.set τ1.length (.box (stC r.1))) τ1.length=.box (stC r.1):=Qg _ (by omega);refine Zg (stv e4 rfl rfl rfl) (Yj _ (by simp; omega)) (Xr (by rfl) ?_);refine Qi (Ybo (Yg s4 (by simp) (by omega)) rfl) (Qi (Ybo (Qg _ (by simp; omega)) rfl) ?_);exact hK _ ((a3.setNew (by omega) _).setNew (by omega) _)
theorem XbS{σ:List ABlk}{rb:Nat}{b:Bk}{s:St}{sd tg fu:Int}{lv:AVal}{F:FuncId}(hr:hget σ rb=.box (rnC b s sd tg lv fu (.func (.func F) [] [])))(k n:Int){r:St×Ev×Int}(hc:PC F [bkV b,stV s,iv 0,iv k,iv n] (resV r))(hpF:Yi prog F=true){K:AVal→List ABlk→Prop}
 (hK:∀σ',Agr σ σ' []→K (resV r) σ'):g202.u VV [iv k,.bptr rb 0,iv n] σ K:=by
 rw[H3.e]; unfold g202; dsimp only;refine Yc (v:=.bptr σ.length 0) (rd:=[]) (up:=[(σ.length,.box zStC)]) rfl (Xl σ _) ?_;have a2:=Agr.app1 σ (.box zStC);have r2:=Zf [ABlk.box zStC] hr (by simp);have z2:=Qf σ (.box zStC);have l2:(σ++[ABlk.box zStC]).length=σ.length+1:=by simp
 generalize σ++[ABlk.box zStC]=τ2 at *;refine Yc (v:=.bptr τ2.length 0) (rd:=[]) (up:=[(τ2.length,.box zEvC)]) rfl (Xl τ2 _) ?_;have a3:=a2.app' (.box zEvC);have r3:=Zf [ABlk.box zEvC] r2 (by simp);have z3:=Zf [ABlk.box zEvC] z2 (by simp);have e3:=Qf τ2 (.box zEvC);have l3:(τ2++[ABlk.box zEvC]).length=τ2.length+1:=by simp
 generalize τ2++[ABlk.box zEvC]=τ3 at *;refine Za rfl (Za rfl (Za (v:=.func (.func F) [] []) (ld r3 rfl) (Za rfl (Za rfl (Za (v:=bkV b) (ld r3 rfl) (Za rfl (Za rfl (Za (v:=stV s) (ld r3 rfl) ?_))))))));refine Xb (f:=F) (ys:=[bkV b,stV s,iv 0,iv k,iv n]) hc rfl hpF rfl ?_;refine Zd rfl (Zd rfl (Zd rfl ?_));refine Zg (stv z3 rfl rfl rfl) (Yj _ (by omega)) ?_;have e4:=Yg (x:=.box (stC r.1)) e3 (by simp) (c:=σ.length) (by omega);have s4:hget (τ3.set σ.length (.box (stC r.1))) σ.length=.box (stC r.1):=Qg _ (by omega);refine Zg (stv e4 rfl rfl rfl) (Yj _ (by simp; omega)) (Xr (by rfl) ?_);refine Qi (Ybo (Yg s4 (by simp) (by omega)) rfl) (Qi (Ybo (Qg _ (by simp; omega)) rfl) ?_);exact hK _ ((a3.setNew (by omega) _).setNew (by omega) _)
theorem Zdf{σ:List ABlk}{rb:Nat}{b:Bk}{s:St}{sd tg fu:Int}{mv lv:AVal}{l:List Ev}(hr:hget σ rb=.box (rnC b s sd tg lv fu mv))(hl:LV rb l lv σ)(hn:l.length≤1000000000)(h01:sd=0∨sd=1)
 (hf:bkFit b=true)(hsm:Qj b.cards)(hs:StLe 2000000 s)(hm:mayR (bkR b).1 b s true=true)(x:Ef)(n:Int){K:AVal→List ABlk→Prop}(hK:∀v σ',Dn rb b sd tg fu l lv σ (hurtE b s sd tg x.op x.who n) v σ'→K v σ'):g33.u VV [.bptr rb 0,.agg (efC x),iv n] σ K:=by
 have hrb:=Xh hr (by simp);have f0:Fr rb lv lv σ (σ++[ABlk.box (efC x)]):=Fr.app _ (λk n e=>hl.lt e);have r1:=Zf [ABlk.box (efC x)] hr (by simp);have l1:LV rb l lv (σ++[ABlk.box (efC x)]):=hl.old (λk hk _=>Ym _ hk);have n1:=Qf σ (.box (efC x));have hrb1:rb<(σ++[ABlk.box (efC x)]).length:=by simp; omega
 have hne:σ.length≠rb:=by omega
 have hs9:StLe 1000000000 s:=⟨by have:=hs.attack; omega,⟨by have:=hs.s0.deck; omega,by have:=hs.s0.hand; omega,by have:=hs.s0.grave; omega,by have:=hs.s0.units; omega,by have:=hs.s0.told; omega⟩,⟨by have:=hs.s1.deck; omega,by have:=hs.s1.hand; omega,by have:=hs.s1.grave; omega,by have:=hs.s1.units; omega,by have:=hs.s1.told; omega⟩⟩;rw[H3.e]; unfold g33; dsimp only;refine Yc (Yaa _ _) (Xl σ _) (Za rfl (Za rfl ?_));generalize σ++[ABlk.box (efC x)]=τ at *;refine Yc (stv (row':=rnC b s sd tg lv fu (.func (.func 52) [] [])) r1 rfl rfl rfl) (Yj _ hrb1) ?_;refine Za rfl (Za (ld (Yg n1 (by simp) hne.symm) (efLd0 x)) (Za (Xd ..) (Zi λk' ek=>?_)));have hR:∀(F:FuncId) (υ:List ABlk),(∀id k n,k=0∨k=1→PC F [bkV b,stV s,iv id,iv k,iv n] (resV (mvR x.op b s id k n)))→Yi prog F=true→Fr rb lv lv σ υ→hget υ rb=.box (rnC b s sd tg lv fu (.func (.func F) [] []))→hget υ σ.length=.box (efC x)→LV rb l lv υ→k' [] υ:=by
  intro F υ hc hpF hfr hru hnu hlu;subst ek;have stay:hurtE b s sd tg x.op x.who n=(0,s,[])→K (iv 0) υ:=λe=>hK _ _ ⟨lv,_,hfr,by rw[e]; exact hru,by rw[e],by rw[e]; simpa using hlu⟩;refine Za rfl (Za (ld hnu (efLd1 x)) ?_);refine Xg hP (f:=54) rfl g54.ok rfl (Zdp hru h01 hs9 x.who ?_);have hok:=QbV (s:=s) (tg:=tg) (who:=x.who) h01;unfold YcJ;have last:∀(id k:Int) (υ2:List ABlk),whoR s sd tg x.who=(id,k,true)→0≤n→Agr υ υ2 [] →
    VV.rd (Xo 0 [resV (mvR x.op b s id k n)] υ2) λt40=>
    VV.rd (Xo 1 [resV (mvR x.op b s id k n)] υ2) λt41=>
    VV.rd (Xo 2 [resV (mvR x.op b s id k n)] υ2) λt42=>
    VV.wr (Zy zStC [] υ2) υ2 λt9 σ=>
    VV.wr (Zy zEvC [] σ) σ λt10 σ=>
    VV.wr (Qo 23 [t9,t40] σ) σ λ_ σ=>
    VV.wr (Qo 7 [t10,t41] σ) σ λ_ σ=>
    VV.rd (Yn .neq false [t42,(.int .i64 0)] σ) λt44=>
    VV.test t44 (K t42 σ) (
    VV.rd (Xk true 23 [t9] σ) λt47=>
    VV.rd (Zh [.bptr rb 0] σ) λt48=>
    VV.rd (Ze 2 [t48] σ) λt49=>
    VV.wr (Qo 23 [t49,t47] σ) σ λ_ σ=>
    VV.rd (Xk true 7 [t10] σ) λt51=>
    VV.call (.call 55) [.bptr rb 0,t51] σ λt52 σ=>K (.int .i64 0) σ):=by
   intro id k υ2 hw hn0 ha;have he:hurtE b s sd tg x.op x.who n=if (mvR x.op b s id k n).2.2=0 then (0,(mvR x.op b s id k n).1,[(mvR x.op b s id k n).2.1]) else ((mvR x.op b s id k n).2.2,s,[]):=by
    rw[hurtE,hw,if_pos ⟨rfl,hn0⟩]
   generalize mvR x.op b s id k n=r at *;have hru2:=ha.get hru (by simp) (by simp);have hlu2:LV rb l lv υ2:=hlu.old (λk hk _=>ha.2 k hk (by simp));have hfr2:Fr rb lv lv σ υ2:=hfr.trans (ha.lift rb);refine Za rfl (Za rfl (Za rfl ?_));refine Yc (v:=.bptr υ2.length 0) (rd:=[]) (up:=[(υ2.length,.box zStC)]) rfl (Xl υ2 _) ?_;have a3:=Agr.app1 υ2 (.box zStC);have z3:=Qf υ2 (.box zStC);have l3:(υ2++[ABlk.box zStC]).length=υ2.length+1:=by simp
   generalize υ2++[ABlk.box zStC]=υ3 at *;refine Yc (v:=.bptr υ3.length 0) (rd:=[]) (up:=[(υ3.length,.box zEvC)]) rfl (Xl υ3 _) ?_;have a4:=a3.app' (.box zEvC);have z4:=Zf [ABlk.box zEvC] z3 (by simp);have e4:=Qf υ3 (.box zEvC);have l4:(υ3++[ABlk.box zEvC]).length=υ3.length+1:=by simp
   generalize υ3++[ABlk.box zEvC]=υ4 at *;refine Yc (stv z4 rfl rfl rfl) (Yj _ (by omega)) ?_;have a5:=a4.setNew (b:=υ2.length) (by omega) (.box (stC r.1));have e5:=Yg (x:=.box (stC r.1)) e4 (by simp) (c:=υ2.length) (by omega);have s5:hget (υ4.set υ2.length (.box (stC r.1))) υ2.length=.box (stC r.1):=Qg _ (by omega);have l5:(υ4.set υ2.length (ABlk.box (stC r.1))).length=υ4.length:=by simp
   generalize υ4.set υ2.length (ABlk.box (stC r.1))=υ5 at *;refine Yc (stv e5 rfl rfl rfl) (Yj _ (by omega)) ?_;have a6:=a5.setNew (b:=υ3.length) (by omega) (.box (evC r.2.1));have s6:=Yg (x:=.box (evC r.2.1)) s5 (by simp) (c:=υ3.length) (by omega);have e6:hget (υ5.set υ3.length (.box (evC r.2.1))) υ3.length=.box (evC r.2.1):=Qg _ (by omega);have l6:(υ5.set υ3.length (ABlk.box (evC r.2.1))).length=υ5.length:=by simp
   generalize υ5.set υ3.length (ABlk.box (evC r.2.1))=υ6 at *;have hru6:=a6.get hru2 (by simp) (by simp);have hlu6:LV rb l lv υ6:=hlu2.old (λk hk _=>a6.2 k hk (by simp));have hfr6:Fr rb lv lv σ υ6:=hfr2.trans (a6.lift rb);have hrlt2:=Xh hru2 (by simp);refine Za (Qaa ..) (Zb (λh=>?_) (λh=>?_))
   ·have h:r.2.2≠0:=by simpa using h
    rw[if_neg h] at he;exact hK _ _ ⟨lv,_,hfr6,by rw[he]; exact hru6,by rw[he],by rw[he]; simpa using hlu6⟩
   ·have h:r.2.2=0:=by simpa using h
    rw[if_pos h] at he;refine Za (v:=stV r.1) (ld s6 rfl) (Za rfl (Za rfl (Yc (stv (row':=rnC b r.1 sd tg lv fu (.func (.func F) [] [])) hru6 rfl rfl rfl) (Yj _ (Xh hru6 (by simp))) (Za (v:=evV r.2.1) (ld (Yg e6 (by simp) (by omega)) rfl) ?_))));refine Xg hP (f:=55) rfl g55.ok rfl ?_;refine XaL (Qg _ (Xh hru6 (by simp))) (hlu6.old (λk hk hkr=>Ye _ hk hkr)) hn r.2.1 _ (.inl rfl) (λσ' lv' q1 q2 q3=>?_);exact hK _ _ ⟨lv',_,(hfr6.trans (Fr.set lv _)).trans q1,by rw[he]; exact q2,by rw[he],by rw[he]; exact q3⟩
  by_cases hq:(whoR s sd tg x.who).2.2=true
  ·obtain⟨hk,hid⟩:=hok hq;rw[if_pos hq];have hw:whoR s sd tg x.who=((whoR s sd tg x.who).1,(whoR s sd tg x.who).2.1,true):=by rw[←hq]
   have hneg:n<0→hurtE b s sd tg x.op x.who n=(0,s,[]):=λh=>by rw[hurtE,if_neg (by omega)]
   generalize (whoR s sd tg x.who).1=id at *;generalize (whoR s sd tg x.who).2.1=k at *;by_cases hi:0<id
   ·rw[if_pos hi];refine Za rfl (Za rfl (Za rfl (Za rfl (Ya (Za rfl (Ya (Za rfl (Za rfl (Zb (λh=>?_) (λh=>?_))))))))))
    ·exact stay (hneg (by simpa using h))
    ·have h:¬n<0:=by simpa using h
     refine Xg hP (f:=201) (ys:=[.agg [iv id,iv k],.bptr rb 0,iv n]) rfl g201.ok rfl ?_;exact QcV hru id k n (hc id k n hk) hpF (λυ2 ha=>last id k υ2 hw (by omega) ha)
   ·rw[if_neg hi];have:id=0:=by omega
    subst this;refine Za rfl (Za rfl (Za rfl (Za rfl (Ya (Za rfl (Ya (Za rfl (Za rfl (Zb (λh=>?_) (λh=>?_))))))))))
    ·exact stay (hneg (by simpa using h))
    ·have h:¬n<0:=by simpa using h
     refine Xg hP (f:=202) (ys:=[iv k,.bptr rb 0,iv n]) rfl g202.ok rfl ?_;exact XbS hru k n (hc 0 k n hk) hpF (λυ2 ha=>last 0 k υ2 hw (by omega) ha)
  ·rw[if_neg hq];refine Za rfl (Za rfl (Za rfl (Za rfl (Qa rfl (Qa rfl (Za rfl (Qc ?_)))))))
   grind [hurtE]
 refine Zb (λh=>?_) (λh=>?_)
 ·have h:x.op=1:=by simpa using h
  have r2:hget (τ.set rb (.box (rnC b s sd tg lv fu (.func (.func 52) [] [])))) rb=.box (rnC b s sd tg lv fu (.func (.func 52) [] [])):=Qg _ hrb1;refine Za rfl (Za rfl (Yc (stv (row':=rnC b s sd tg lv fu (.func (.func 53) [] [])) r2 rfl rfl rfl) (Yj _ (by simpa using hrb1)) ?_));rw[List.set_set];refine hR _ _ (λid k n hk=>?_) g53.ok.plain (f0.trans (Fr.set lv _)) (Qg _ hrb1) (Yg n1 (by simp) hne.symm) (l1.old (λk hk hkr=>Ye _ hk hkr));rw[mvR,if_pos h]; exact c26 b hf hsm s hs hm id k n hk
 ·have h:x.op≠1:=by simpa using h
  refine hR _ _ (λid k n hk=>?_) g52.ok.plain (f0.trans (Fr.set lv _)) (Qg _ hrb1) (Yg n1 (by simp) hne.symm) (l1.old (λk hk hkr=>Ye _ hk hkr));rw[mvR,if_neg h]; exact c22 b hf hsm s hs hm id k n hk
end Go.Ah.Tz
end
section
namespace Go.Ah.Tz
open Go.Proofs.Tryz (prog)
set_option maxRecDepth 100000
section
variable {P:Program} {GL:Globs}
theorem wci {k:MK} {xs:List AVal} {σ:List ABlk} {K K':AVal→List ABlk→Prop} (h:(W P GL).call k xs σ K) (hK:∀v σ',K v σ'→K' v σ'):(W P GL).call k xs σ K':=by obtain⟨R,h1,h2⟩:=h; exact⟨R,h1,λv σ' q=>hK v σ' (h2 v σ' q)⟩
theorem Zdi{k:MK}{xs:List AVal}{σ:List ABlk}{K:AVal→List ABlk→Prop}(pre:∀ (w0:World) (L:Ln) (g:Gm) (w:World),Rep GL w0 L g (hp σ) w→∃ σ2,Rep GL w0 L g (hp σ2) w ∧
  (W P GL).call k xs σ2 (λv σ'=>∃ σ'',(∀ (w0:World) (L:Ln) (g':Gm) (w':World),Rep GL w0 L g' (hp σ') w'→Rep GL w0 L g' (hp σ'') w')∧K v σ'')):(W P GL).call k xs σ K:=by
 refine⟨K,?_,λ_ _ h=>h⟩;intro o os hc w0 L g w a r hx;obtain⟨σ2,r2,R,hR,hK⟩:=pre w0 L g w r;have q:=hR o os hc w0 L g w a r2 hx;generalize (execOp a.eval o).run P w=res at q;cases res with
 |ok nx w'=>
  cases nx with
  |value u=>
   obtain⟨g',x,σ',k0,k1,k2,k3⟩:=q;obtain⟨σ'',m1,m2⟩:=hK _ _ k0;exact⟨g',x,σ'',m2,k1,m1 _ _ _ _ k2,k3⟩
  |skip=>
   obtain⟨g',σ',k0,k1,k2⟩:=q;obtain⟨σ'',m1,m2⟩:=hK _ _ k0;exact⟨g',σ'',m2,k1,m1 _ _ _ _ k2⟩
  |enter f args=>
   refine Calls.mono q ?_;rintro e w'' ⟨u,he,g',x,σ',k0,k1,k2,k3⟩;obtain⟨σ'',m1,m2⟩:=hK _ _ k0;exact⟨u,he,g',x,σ'',m2,k1,m1 _ _ _ _ k2,k3⟩
  |_=>exact q.elim
 |_=>exact q.elim
end
end Go.Ah.Tz
namespace Go.Ah
theorem Qde{σ:List ABlk}{c:Nat}(x:ABlk)(h:c<σ.length):hp (σ.set c x)=hup (hp σ) c x:=by
 funext n
 unfold hp hup;rw[List.getElem?_set]
 grind
theorem Rep.hideL{GL:Globs}{w0:World}{L:Ln}{g:Gm}{σ:List ABlk}{w:World}(r:Rep GL w0 L g (hp σ) w){c sz:Nat}{rs:List (List AVal)}(hc:hget σ c=.full sz rs)(k:Nat):Rep GL w0 L g (hp (σ.set c (.rows sz (rs.take k)))) w:=by
 rw[Qde _ (Xh hc (by simp))];exact r.hide (XZ hc (by simp)) k
theorem Rep.revealL{GL:Globs}{w0:World}{L:Ln}{g:Gm}{σ:List ABlk}{w:World}(r:Rep GL w0 L g (hp σ) w){c sz rb j:Nat}{rs:List (List AVal)}{row:List AVal}{ex:Bool}(hc:hget σ c=.rows sz rs)(h0:rs≠[])(hr:hget σ rb=.box row)(hj:row[j]?=some (.sl c 0 rs.length ex)) :
  ∃m,Rep GL w0 L g (hp (σ.set c (.full sz (rs++List.replicate m (List.replicate sz .junk))))) w:=by
 have hb:=XZ hr (by simp);obtain⟨cb,ec⟩:=r.dom rb _ hb;have hv:cb.virt=false:=by
  cases hv:cb.virt with
  |false=>rfl
  |true=>have:=r.hollow rb _ cb hb rfl ec hv; cases this
 obtain⟨_,_,o,_,arr,T,rfl,hs,hd⟩:=r.own rb _ cb hb rfl ec hv;have hlt:j<arr.size:=by rw[hs]; exact(YLG hj).1
 obtain⟨m,hm⟩:=r.reveal (XZ hc (by simp)) h0 rfl (hd j _ arr[j] hj (by simp[hlt]));exact⟨m,by rw[Qde _ (Xh hc (by simp))]; exact hm⟩
end Go.Ah
namespace Go.Ah.Tz
open Go.Proofs.Tryz (prog)
attribute [local irreducible] Ans.rd Ans.pu Ans.wr Ans.dr Ans.gr Ans.gw Ans.gl Ans.gd Ans.opt joinK W
set_option maxHeartbeats 4000000
theorem srcX1{n:Nat}{σ:List ABlk}{c:Nat}{row:List AVal}(hc:hget σ c=.rows n [row]):Yr n σ (.sl c 0 1 true)=some ([row],[c]):=by
 simp only[Yr,hc];simp[cut]; rfl
theorem Ycy{σ:List ABlk}{c len f2:Nat}{rs:List (List AVal)}{row:List AVal}(hc:hget σ c=.full 7 rs)(h2:hget σ f2=.rows 7 [row])(hr:row.all AVal.cell=true)(hle:len+1≤rs.length)(hroom:len≤1000000000) :
  Zn 7 72 [.sl c 0 len false,.sl f2 0 1 true] σ=.ok (.sl c 0 (len+1) false) [f2] [(c,.full 7 (over len [row] rs))]:=by
 have:Zn 7 72 [.sl c 0 len false,.sl f2 0 1 true] σ=Yar 7 72 σ c len rs (.sl f2 0 1 true):=by simp[Zn,Zal,hc]
 rw[this];unfold Yar;simp only[srcX1 h2,YN hr,List.length_cons,List.length_nil,Nat.zero_add];rw[show Nat.ble ((2*(len+1)+192)*72) (2 ^ 48)=true from Nat.ble_eq_true_of_le (by omega),show Nat.ble (len+1) rs.length=true from Nat.ble_eq_true_of_le hle];rfl
theorem Xcy{σ:List ABlk}{c len f2:Nat}{rs:List (List AVal)}{row:List AVal}(hc:hget σ c=.full 7 rs)(h2:hget σ f2=.rows 7 [row])(hr:row.all AVal.cell=true)(hle:rs.length=len)(hroom:len≤1000000000) :
  Zn 7 72 [.sl c 0 len false,.sl f2 0 1 true] σ=.ok (.sl σ.length 0 (len+1) false) [c,f2] [(σ.length,.rows 7 (rs++[row]))]:=by
 have:Zn 7 72 [.sl c 0 len false,.sl f2 0 1 true] σ=Yar 7 72 σ c len rs (.sl f2 0 1 true):=by simp[Zn,Zal,hc]
 rw[this];unfold Yar;have hq:Nat.ble (len+1) rs.length=false:=by
  cases h:Nat.ble (len+1) rs.length with
  |false=>rfl
  |true=>have:=YNL h; omega
 simp only[srcX1 h2,YN hr,List.length_cons,List.length_nil,Nat.zero_add,hq];rw[show Nat.ble ((2*(len+1)+192)*72) (2 ^ 48)=true from Nat.ble_eq_true_of_le (by omega),show Nat.ble len rs.length=true from Nat.ble_eq_true_of_le (by omega),List.take_of_length_le (by omega)];rfl
theorem EvRs.take{rows:List (List AVal)}{l:List Ev}(h:EvRs rows l)(k:Nat):EvRs (rows.take k) (l.take k):=by
 induction h with
 |nil=>simp; exact .nil
 |snoc rows l e cv h hc ih=>
  have hl:=h.len;by_cases hk:k≤l.length
  ·rw[List.take_append_of_le_length (by omega),List.take_append_of_le_length hk]; exact ih
  ·rw[List.take_of_length_le (by simp; omega),List.take_of_length_le (by simp; omega)];exact .snoc _ _ _ _ h hc
def LX(rb:Nat)(l:List Ev)(lv:AVal)(evs:List Ev)(lvi:AVal)(τ:List ABlk):Prop:=
 (l=[]∧lv=.nils∧LV rb evs lvi τ)∨(l≠[]∧∃ c rows rest,c≠rb∧lv=.sl c 0 l.length false∧hget τ c=.full 7 (rows ++ rest) ∧
  ((lvi=.sl c 0 (l.length + evs.length) false∧EvRs rows (l ++ evs))∨(EvRs rows l∧LV rb (l ++ evs) lvi τ∧∀ n,lvi≠.sl c 0 n false)))
theorem LX.old{rb:Nat}{l evs:List Ev}{lv lvi:AVal}{σ σ':List ABlk}(h:LX rb l lv evs lvi σ)(hk:∀k,k<σ.length→k≠rb→hget σ' k=hget σ k):LX rb l lv evs lvi σ':=by
 rcases h with ⟨h1,h2,h3⟩|⟨h0,c,rows,rest,h1,h2,hc,h3⟩
 ·exact .inl ⟨h1,h2,h3.old hk⟩
 ·refine .inr ⟨h0,c,rows,rest,h1,h2,by rw[hk c (Xh hc (by simp)) h1]; exact hc,?_⟩;rcases h3 with h3|⟨h3,h4,h5⟩
  ·exact .inl h3
  ·exact .inr ⟨h3,h4.old hk,h5⟩
theorem LX.back{rb:Nat}{l evs:List Ev}{lv lvi:AVal}{σ:List ABlk}(h:LX rb l lv evs lvi σ):LX rb l lv [] lv σ:=by
 rcases h with ⟨rfl,rfl,h3⟩|⟨h0,c,rows,rest,h1,h2,hc,h3⟩
 ·exact .inl ⟨rfl,rfl,.inl ⟨rfl,rfl⟩⟩
 ·rcases h3 with ⟨_,h3⟩|⟨h3,_⟩
  ·have:=h3.take l.length;rw[List.take_left] at this;exact .inr ⟨h0,c,rows.take l.length,rows.drop l.length++rest,h1,h2,by rw[←List.append_assoc,List.take_append_drop]; exact hc,.inl ⟨by simpa using h2,by simpa using this⟩⟩
  ·exact .inr ⟨h0,c,rows,rest,h1,h2,hc,.inl ⟨by simpa using h2,by simpa using h3⟩⟩
theorem LX.cells{rb:Nat}{l evs:List Ev}{lv lvi:AVal}{σ:List ABlk}(h:LX rb l lv evs lvi σ):cellsOf lv=some [lv]:=by
 rcases h with ⟨_,rfl,_⟩|⟨_,c,rows,rest,_,rfl,_⟩<;>rfl
theorem LX.ne_box{rb:Nat}{l evs:List Ev}{lv lvi:AVal}{σ:List ABlk}(h:LX rb l lv evs lvi σ){k:Nat}{row:List AVal}(hk:hget σ k=.box row)(n:Nat):lvi≠.sl k 0 n false:=by
 rcases h with ⟨_,_,h⟩|⟨_,c,rows,rest,_,_,hc,⟨h,_⟩|⟨_,h,_⟩⟩
 ·rcases h with ⟨_,h⟩|⟨_,c,rows,_,h,hc,_⟩<;>grind
 ·grind
 ·rcases h with ⟨_,h⟩|⟨_,c,rows,_,h,hc,_⟩<;>grind
theorem say_x{σ:List ABlk}{rb:Nat}{b:Bk}{s:St}{sd tg fu:Int}{mv lv lvi:AVal}{l evs:List Ev}(hr:hget σ rb=.box (rnC b s sd tg lvi fu mv))(hl:LX rb l lv evs lvi σ)(hn:(l++evs).length≤1000000000)(e:Ev)(cv:AVal)(hcv:CvOk cv e.cards){K:AVal→List ABlk→Prop}
 (hK:∀σ' lv',Fr rb lvi lv' σ σ'→hget σ' rb=.box (rnC b s sd tg lv' fu mv)→LX rb l lv (evs++[e]) lv' σ'→K (.tup []) σ'):g55.u VV [.bptr rb 0,.agg (evX e cv)] σ K:=by
 rcases hl with ⟨rfl,rfl,hl⟩|⟨h0,c,rows,rest,hc0,rfl,hc,⟨rfl,hR⟩|⟨hR,hl,hne⟩⟩
 ·exact XaL hr hl (by simpa using hn) e cv hcv λσ' lv' p1 p2 p3=>hK σ' lv' p1 p2 (.inl ⟨rfl,rfl,p3⟩)
 rotate_left
 ·refine XaL hr hl hn e cv hcv λσ' lv' p1 p2 p3=>hK σ' lv' p1 p2 (.inr ⟨h0,c,rows,rest,hc0,rfl,by rw[p1.keep c (Xh hc (by simp)) hc0 hne]; exact hc,.inr ⟨hR,by simpa using p3,λn q=>?_⟩⟩);rcases p1.new c n q with q|⟨m,q⟩
  ·have:=Xh hc (by simp); omega
  ·exact hne m q
 have hrb:=Xh hr (by simp);have hcl:(evX e cv).all AVal.cell=true:=by rcases hcv with rfl|⟨rfl,_⟩<;>rfl
 have hlen:=hR.len;rw[List.length_append] at hlen hn;rw[H2.e]; unfold g55; dsimp only;generalize hX:evX e cv=X at *;have r1:=Zf [.box (evX e cv)] hr (by simp);have r2:=Zf [.rows 7 [evX e cv]] r1 (by simp);have f1:=Qf σ (.box (evX e cv));have f2:=Qf (σ++[.box (evX e cv)]) (.rows 7 [evX e cv]);subst hX;refine Yc (Ydd (e:=e) hcv _) (Xl σ _) (Zd rfl (Zd rfl (Zg (ld r1 rfl) (Qh _) (Zg (ld f1 (show partA true 0 7 (evX e cv)=some (.agg (evX e cv)) from rfl)) (Qh _) (Zg (QdA (e:=e) hcv _) (Xl _ _) ?_)))));have len1:(σ++[ABlk.box (evX e cv)]).length=σ.length+1:=by simp
 have len2:(σ++[ABlk.box (evX e cv)]++[ABlk.rows 7 [evX e cv]]).length=σ.length+2:=by simp
 have hclt:=Xh hc (by simp);have c2:=Zf [.rows 7 [evX e cv]] (Zf [.box (evX e cv)] hc (by simp)) (by simp);have hclt2:c<(σ++[ABlk.box (evX e cv)]++[ABlk.rows 7 [evX e cv]]).length:=by rw[len2]; omega
 have hq1:rb≠σ.length+1:=by omega
 have hq2:c≠σ.length+1:=by omega
 cases rest with
 |cons x rest=>
  have hov:over (l.length+evs.length) [evX e cv] (rows++x::rest)=(rows++[evX e cv])++rest:=by
   unfold over;rw[List.take_append_of_le_length (by omega),List.take_of_length_le (by omega),List.drop_append,List.drop_of_length_le (by simp; omega)];simp[←hlen]
  refine Zg (Ycy c2 f2 hcl (by simp; omega) hn) (Yj _ hclt2) (Zd rfl (Zd rfl ?_));rw[hov];have r3:=Yg (x:=.full 7 ((rows++[evX e cv])++rest)) r2 (by simp) hc0;have hlt3:=Xh r3 (by simp);refine Zg (stv r3 rfl rfl rfl) (Yj _ hlt3) (Xr (by simp[Qn,Xw,Zr,YI,apart2,disj,List.range,List.range.loop,hq1,hq1.symm,hq2,hq2.symm,hc0,hc0.symm]) ?_);refine hK _ (.sl c 0 (l.length+evs.length+1) false) ⟨by simp,λk hk hkr hkc=>?_,λk n h=>.inr ?_⟩ ?_ (.inr ⟨h0,c,rows++[evX e cv],rest,hc0,rfl,?_,.inl ⟨by simp[Nat.add_assoc],by rw[←List.append_assoc]; exact EvRs.snoc _ _ _ _ hR hcv⟩⟩)
  ·have hkc':k≠c:=λq=>hkc _ (by rw[q]);rw[Ye _ (by simp; omega) hkr,Ye _ (by simp; omega) hkc',Ym _ (by simp; omega),Ym _ hk]
  ·cases h; exact⟨_,rfl⟩
  ·exact Qp (List.getElem?_set_self hlt3)
  ·rw[Ye _ (by simp; omega) hc0]; exact Qg _ hclt2
 |nil=>
  rw[List.append_nil] at hc c2;refine Zg (Xcy c2 f2 hcl hlen hn) (Xl _ _) (Zd rfl (Zd rfl ?_));have r3:=Zf [.rows 7 (rows++[evX e cv])] r2 (by simp);have c3:=Zf [.rows 7 (rows++[evX e cv])] c2 (by simp);have d3:=Qf (σ++[ABlk.box (evX e cv)]++[ABlk.rows 7 [evX e cv]]) (.rows 7 (rows++[evX e cv]));have hlt3:=Xh r3 (by simp);refine Zg (stv r3 rfl rfl rfl) (Yj _ hlt3) (Xr (by simp[Qn,Xw,Zr,YI,apart2,disj,List.range,List.range.loop,hq1,hq1.symm,hq2,hq2.symm,hc0,hc0.symm]) ?_);refine hK _ (.sl (σ++[ABlk.box (evX e cv)]++[ABlk.rows 7 [evX e cv]]).length 0 (l.length+evs.length+1) false) ⟨by simp,λk hk hkr _=>?_,λk n h=>.inl ?_⟩ ?_ (.inr ⟨h0,c,rows.take l.length,rows.drop l.length,hc0,rfl,?_,.inr ⟨?_,.inr ⟨by simp,(σ++[ABlk.box (evX e cv)]++[ABlk.rows 7 [evX e cv]]).length,rows++[evX e cv],by rw[len2]; omega,by simp[Nat.add_assoc],?_,by rw[←List.append_assoc]; exact EvRs.snoc _ _ _ _ hR hcv⟩,λn q=>?_⟩⟩)
  ·rw[Ye _ (by simp; omega) hkr,Ym _ (by simp; omega),Ym _ (by simp; omega),Ym _ hk]
  ·cases h; rw[len2]; omega
  ·exact Qp (List.getElem?_set_self hlt3)
  ·rw[List.take_append_drop,Ye _ (by simp; omega) hc0]; exact c3
  ·have:=hR.take l.length; rwa [List.take_left] at this
  ·rw[Ye _ (by simp) (by rw[len2]; omega)]; exact d3
  ·cases q; omega
theorem Ydw{k:MK}{xs:List AVal}{σ:List ABlk}{rb:Nat}{b:Bk}{s:St}{sd tg fu:Int}{mv lv:AVal}{l:List Ev}(hr:hget σ rb=.box (rnC b s sd tg lv fu mv))(hl:LV rb l lv σ){K:AVal→List ABlk→Prop}
 (h:∀ τ,hget τ rb=.box (rnC b s sd tg lv fu mv)→LX rb l lv [] lv τ→(∀ lv' υ,Fr rb lv lv' τ υ→Fr rb lv lv' σ υ) →
   VV.call k xs τ (λv σ'=>∃ evs lv' mv' s' fu',Fr rb lv lv' σ σ'∧hget σ' rb=.box (rnC b s' sd tg lv' fu' mv')∧LX rb l lv evs lv' σ'∧(∀ σ'',Fr rb lv lv' σ σ''→hget σ'' rb=.box (rnC b s' sd tg lv' fu' mv')→LV rb (l ++ evs) lv' σ''→K v σ''))):VV.call k xs σ K:=by
 have done:∀(σ':List ABlk) (evs:List Ev) (lv' mv':AVal) (s':St) (fu':Int) (v:AVal),Fr rb lv lv' σ σ'→hget σ' rb=.box (rnC b s' sd tg lv' fu' mv')→LX rb l lv evs lv' σ'→(∀σ'',Fr rb lv lv' σ σ''→hget σ'' rb=.box (rnC b s' sd tg lv' fu' mv')→LV rb (l++evs) lv' σ''→K v σ'') →
   ∃σ'',(∀(w0:World) (L:Ln) (g':Gm) (w':World),Rep GL0 w0 L g' (hp σ') w'→Rep GL0 w0 L g' (hp σ'') w')∧K v σ'':=by
  intro σ' evs lv' mv' s' fu' v hf hr' hx hK;rcases hx with ⟨rfl,rfl,h3⟩|⟨h0,c,rows,rest,hc0,h2,hc,h3⟩
  ·exact⟨σ',λ_ _ _ _ r=>r,hK _ hf hr' h3⟩
  ·have hclt:=Xh hc (by simp);have hrn:=Yg (x:=.rows 7 ((rows++rest).take rows.length)) hr' (by simp) hc0;refine⟨σ'.set c (.rows 7 ((rows++rest).take rows.length)),λw0 L g' w' r=>r.hideL hc _,hK _ ⟨by simpa using hf.len,λk hk hkr hkc=>?_,hf.new⟩ hrn ?_⟩
   ·have:k≠c:=λq=>hkc l.length (by rw[h2,q]);have hlk:=hf.len;rw[Ye _ (by omega) this]; exact hf.keep k hk hkr hkc
   ·rcases h3 with ⟨h3,hR⟩|⟨hR,h3,h4⟩
    ·refine .inr ⟨by simp[h0],c,rows,hc0,by rw[h3]; simp,?_,hR⟩;rw[Qg _ hclt,List.take_left]
    ·rcases h3 with h3|⟨q0,d,rs,q1,q2,q3,q4⟩
     ·exact .inl h3
     ·refine .inr ⟨q0,d,rs,q1,q2,?_,q4⟩;have:d≠c:=λq=>h4 (l++evs).length (by rw[q2,q]);rw[Ye _ (Xh q3 (by simp)) this]; exact q3
 have post:∀τ,VV.call k xs τ (λv σ'=>∃evs lv' mv' s' fu',Fr rb lv lv' σ σ'∧hget σ' rb=.box (rnC b s' sd tg lv' fu' mv')∧LX rb l lv evs lv' σ'∧(∀σ'',Fr rb lv lv' σ σ''→hget σ'' rb=.box (rnC b s' sd tg lv' fu' mv')→LV rb (l++evs) lv' σ''→K v σ'')) →
   VV.call k xs τ (λv σ'=>∃σ'',(∀(w0:World) (L:Ln) (g':Gm) (w':World),Rep GL0 w0 L g' (hp σ') w'→Rep GL0 w0 L g' (hp σ'') w')∧K v σ''):=by
  intro τ hw;refine wci hw λv σ' q=>?_;obtain⟨evs,lv',mv',s',fu',a1,a2,a3,a4⟩:=q;exact done σ' evs lv' mv' s' fu' v a1 a2 a3 a4
 refine Zdi λw0 L g w r=>?_;rcases hl with ⟨rfl,rfl⟩|⟨h0,c,rows,hc0,rfl,hc,hR⟩
 ·exact⟨σ,r,post _ (h σ hr (.inl ⟨rfl,rfl,.inl ⟨rfl,rfl⟩⟩) λ_ _ q=>q)⟩
 ·have hlen:=hR.len;have hn0:rows≠[]:=by intro q; rw[q] at hlen; exact h0 (List.length_eq_zero_iff.1 (by simpa using hlen.symm))
  obtain⟨m,hm⟩:=r.revealL (j:=27) (ex:=false) hc hn0 hr (by rw[hlen]; rfl);have hclt:=Xh hc (by simp);refine⟨_,hm,post _ (h _ (Yg hr (by simp) hc0) (.inr ⟨h0,c,rows,_,hc0,rfl,Qg _ hclt,.inl ⟨by simp,by simpa using hR⟩⟩) λlv' υ q=>⟨by simpa using q.len,λk hk hkr hkc=>?_,by simpa using q.new⟩)⟩;have:k≠c:=λq=>hkc l.length (by rw[q]);rw[q.keep k (by simpa using hk) hkr hkc,Ye _ hk this]
end Go.Ah.Tz
end
section
namespace Go.Ah.Tz
open Go.Proofs.Tryz (prog)
set_option maxRecDepth 100000
structure OkS (b:Bk) (N C:Nat) (s:St):Prop where
 may:MayP b s
 told:TB N s
 cards:Zk s≤C
theorem YcI{b:Bk}{s:St}(h:MayP b s):StLe 2000000 s:=by
 obtain⟨hd,h0,h1,_,ha⟩:=h;have side:∀x:Sd,SideP b x→SdLe 2000000 x:=by
  intro x k;have k1:=(Qr.1 k.deck).1;have k2:=(Qr.1 k.hand).1;have k3:=(Qr.1 k.grave).1;have k4:=(Qr.1 k.told).1;have k5:=k.units;exact⟨by omega,by omega,by omega,by omega,by omega⟩
 refine⟨?_,side _ h0,side _ h1⟩;by_cases hp:s.phase=1
 ·have:=(ha.2 hp).2.1; omega
 ·rw[ha.1 hp]; simp
theorem OkS.le{b:Bk}{N C:Nat}{s:St}(h:OkS b N C s):StLe 2000000 s:=YcI h.may
theorem OkS.le9{b:Bk}{N C:Nat}{s:St}(h:OkS b N C s):StLe 1000000000 s:=by
 have hs:=h.le;exact⟨by have:=hs.attack; omega,⟨by have:=hs.s0.deck; omega,by have:=hs.s0.hand; omega,by have:=hs.s0.grave; omega,by have:=hs.s0.units; omega,by have:=hs.s0.told; omega⟩,⟨by have:=hs.s1.deck; omega,by have:=hs.s1.hand; omega,by have:=hs.s1.grave; omega,by have:=hs.s1.units; omega,by have:=hs.s1.told; omega⟩⟩
theorem OkS.mono{b:Bk}{N N' C C':Nat}{s:St}(h:OkS b N C s)(h1:N≤N')(h2:C≤C'):OkS b N' C' s:=⟨h.may,⟨Nat.le_trans h.told.1 h1,Nat.le_trans h.told.2 h1⟩,by have:=h.cards; omega⟩
theorem OkS.draw{b:Bk}{N C:Nat}{s:St}(h:OkS b N C s)(hN:N<1000000)(hC:C<1000000){k:Int}(h01:k=0∨k=1)(e:(drawF s k).2.2=0):OkS b (N+1) C (drawF s k).1:=by
 obtain⟨hM,⟨t0,t1⟩,hc⟩:=h;have hg:s.s0.grave.length<1000000∧s.s1.grave.length<1000000:=by unfold Zk at hc; omega
 rcases h01 with rfl|rfl
 ·obtain⟨k1,k2⟩:=ZaW hM e hg.1 (by omega) (by omega);refine⟨k1,?_,by rw[k2]; exact hc⟩;rcases XaV s e with ⟨_,q⟩|⟨c,l,_,q⟩|⟨c,l,_,_,q⟩<;>rw[q]<;>refine⟨?_,?_⟩<;>simp<;>omega
 ·obtain⟨k1,k2⟩:=YaW hM e hg.2 (by omega) (by omega);refine⟨k1,?_,by rw[k2]; exact hc⟩;rcases QaV s e with ⟨_,q⟩|⟨c,l,_,q⟩|⟨c,l,_,_,q⟩<;>rw[q]<;>refine⟨?_,?_⟩<;>simp<;>omega
def Zz(k:Int):Nat→St→Int×St×List Ev
 |0,s=>(0,s,[])
 |j+1,s=>if (drawF s k).2.2=0 then ((Zz k j (drawF s k).1).1,(Zz k j (drawF s k).1).2.1,(drawF s k).2.1::(Zz k j (drawF s k).1).2.2) else ((drawF s k).2.2,s,[])
def drawE(s:St)(k n:Int):Int×St×List Ev:=
 if (Zz k (min (max n 0) 60).toNat s).1=0 then Zz k (min (max n 0) 60).toNat s else ((Zz k (min (max n 0) 60).toNat s).1,s,[])
theorem Qby{b:Bk}{C:Nat}(hC:C<1000000){k:Int}(h01:k=0∨k=1):∀(j:Nat) {N:Nat} {s:St},OkS b N C s→N+j≤1000000→OkS b (N+j) C (Zz k j s).2.1
 |0,N,s,h,_=>h
 |j+1,N,s,h,hN=>by
  unfold Zz;split
  ·rename_i e;have:=Qby hC h01 j (h.draw (by omega) hC h01 e) (by omega)
   grind
  ·exact h.mono (by omega) (Nat.le_refl _)
theorem LV.ne_box{rb:Nat}{l:List Ev}{lv:AVal}{σ:List ABlk}(h:LV rb l lv σ){k:Nat}{row:List AVal}(hk:hget σ k=.box row)(n:Nat):lv≠.sl k 0 n false:=by
 rcases h with ⟨_,h⟩|⟨_,c,rows,_,h,hc,_⟩<;>grind
theorem Fr.back{rb:Nat}{lv lv':AVal}{σ τ:List ABlk}(h:Fr rb lv lv' σ τ):Fr rb lv lv σ τ:=⟨h.len,h.keep,λk n e=>.inr ⟨n,e⟩⟩
theorem Fr.get{rb:Nat}{lv lv':AVal}{σ τ:List ABlk}(h:Fr rb lv lv' σ τ){l:List Ev}(hl:LV rb l lv σ){k:Nat}{row:List AVal}(hk:hget σ k=.box row)(hr:k≠rb):hget τ k=.box row:=by
 rw[h.keep k (Xh hk (by simp)) hr (hl.ne_box hk)]; exact hk
def Yae(b:Bk)(s:St)(sd:Int)(name:Tx):Int×St×List Ev:=
 if Yab b s sd (fndI 0 b.cards name).1=true then (0,s,[]) else (0,QC s sd (fndI 0 b.cards name).1,[⟨2,sd,(fndI 0 b.cards name).1,s.next,0,0,[]⟩])
theorem OkS.summon{b:Bk}{N C:Nat}{s:St}(h:OkS b N C s){sd:Int}(h01:sd=0∨sd=1)(name:Tx):OkS b N (C+1) (Yae b s sd name).2.1:=by
 unfold Yae;split
 ·exact h.mono (Nat.le_refl _) (by omega)
 ·rename_i e;obtain⟨hM,ht,hc⟩:=h;rcases h01 with rfl|rfl
  ·obtain⟨k1,k2⟩:=XaH hM (by simpa using e);exact⟨k1,ht,by rw[k2]; omega⟩
  ·obtain⟨k1,k2⟩:=QaH hM (by simpa using e);exact⟨k1,ht,by rw[k2]; omega⟩
attribute [local irreducible] Ans.rd Ans.pu Ans.wr Ans.dr Ans.gr Ans.gw Ans.gl Ans.gd Ans.opt joinK W
set_option maxHeartbeats 4000000
theorem Bor.junk{h0:Hp}{rd:List Nat}{x:AVal}:Bor h0 rd x .junk:=λ_ _ _ _ _ _ _ _ _ _ v _=>.junk _ v
theorem BorL.ro_app{h0:Hp}{rd:List Nat}{zs ws:List AVal}(h:BorL h0 rd zs ws):∀ {l:List AVal},roL l=true→BorL h0 rd (l++zs) (l++ws)
 |[],_=>h
 |x::l,hl=>by
  simp_all [BorL.cons,Bor.ro,BorL.ro_app]
theorem c404(b:Bk)(s:St)(sd tg fu who:Int)(h01:sd=0∨sd=1):PC 57 [.rptr (rnC b s sd tg .junk fu .junk) 0,iv8 who] (iv (whoS sd who)):=by
 refine Qb hP g57.ok rfl rfl ?_;rw[H2.e]; unfold g57; dsimp only;refine Za (Xd ..) (Zb (λh=>?_) (λh=>?_))
 ·have h:who=1:=by simpa using h
  refine Za rfl (Za rfl (Za rfl (Za (v:=iv sd) (ldr rfl) (Za (Za8 ..) ?_))));rw[IntWalk.i64_in _ (by omega),whoS,if_pos h]
 ·have h:who≠1:=by simpa using h
  refine Za rfl (Za rfl (Za rfl (Za (v:=iv sd) (ldr rfl) ?_)));rw[whoS,if_neg h]
theorem Xdq{σ:List ABlk}{rb:Nat}{b:Bk}{s:St}{sd tg fu:Int}{mv lv:AVal}(hr:hget σ rb=.box (rnC b s sd tg lv fu mv))(who:Int):BorL (hp σ) [rb] [.bptr rb 0,iv8 who] [.rptr (rnC b s sd tg .junk fu .junk) 0,iv8 who]:=by
 refine .cons (Bor.box (XL hr) (by simp) ?_) (.cons (Bor.ro rfl) .nil);refine BorL.ro_app (l:=bkC b) (BorL.ro_app (l:=stC s) ?_ rfl) rfl;exact .cons (Bor.ro rfl) <| .cons (Bor.ro rfl) <| .cons Bor.junk <| .cons (Bor.ro rfl) <| .cons Bor.junk .nil
theorem Fr.getX{rb:Nat}{lv lvi lv':AVal}{l evs:List Ev}{σ τ:List ABlk}(h:Fr rb lvi lv' σ τ)(hl:LX rb l lv evs lvi σ){k:Nat}{row:List AVal}(hk:hget σ k=.box row)(hr:k≠rb):hget τ k=.box row:=by
 rw[h.keep k (Xh hk (by simp)) hr (hl.ne_box hk)]; exact hk
theorem Qdz{σ:List ABlk}{rb:Nat}{b:Bk}{s:St}{sd tg fu:Int}{mv lv:AVal}{l:List Ev}(hr:hget σ rb=.box (rnC b s sd tg lv fu mv))(hl:LX rb l lv [] lv σ)(hn:l.length+60≤1000000000)(h01:sd=0∨sd=1)
 (hf:bkFit b=true)(hsm:Qj b.cards)(hbk:(bkR b).1=0){N C:Nat}(hok:OkS b N C s)(hN:N+60≤1000000)(hC:C<1000000)(x:Ef)(n:Int){K:AVal→List ABlk→Prop}(hK:∀v σ' lv' mv',Fr rb lv lv' σ σ'→hget σ' rb=.box (rnC b (drawE s (whoS sd x.who) n).2.1 sd tg lv' fu mv')→v=iv (drawE s (whoS sd x.who) n).1→LX rb l lv (drawE s (whoS sd x.who) n).2.2 lv' σ'→K v σ'):g34.u VV [.bptr rb 0,.agg (efC x),iv n] σ K:=by
 have hrb:=Xh hr (by simp);have a0:=Agr.app1 σ (.box (efC x));have r0:=Zf [ABlk.box (efC x)] hr (by simp);have n0:=Qf σ (.box (efC x));have len0:(σ++[ABlk.box (efC x)]).length=σ.length+1:=by simp
 have hne:σ.length≠rb:=by omega
 rw[H3.e]; unfold g34; dsimp only;refine Yc (Yaa _ _) (Xl σ _) ?_;generalize σ++[ABlk.box (efC x)]=τ0 at *;refine Zd rfl (Zd rfl (Zg (v:=stV s) (ld r0 rfl) (Qh _) (Zd rfl (Zd rfl (Zg (v:=lv) (ld r0 rfl) (Qh _) ?_)))));refine Zg (v:=.bptr τ0.length 0) (rd:=[]) (up:=[(τ0.length,.box zStC)]) rfl (Xl τ0 _) ?_;have a1:=a0.app' (.box zStC);have r1:=Zf [ABlk.box zStC] r0 (by simp);have n1:=Zf [ABlk.box zStC] n0 (by simp);have z1:=Qf τ0 (.box zStC);have len1:(τ0++[ABlk.box zStC]).length=τ0.length+1:=by simp
 generalize τ0++[ABlk.box zStC]=τ1 at *;have hnt:τ0.length≠rb:=by omega
 refine Zg (stv z1 rfl rfl rfl) (Yj _ (by omega)) (Xr (by simp[Qn,Xw,Zr,YI,apart2,disj,List.range,List.range.loop,hnt,hnt.symm]) ?_);have a2:=a1.setNew (b:=τ0.length) (by omega) (.box (stC s));have r2:=Yg (x:=.box (stC s)) r1 (by simp) hnt;have n2:=Yg (x:=.box (stC s)) n1 (by simp) (c:=τ0.length) (by omega);have s2:hget (τ1.set τ0.length (.box (stC s))) τ0.length=.box (stC s):=Qg _ (by omega);have len2:(τ1.set τ0.length (ABlk.box (stC s))).length=τ1.length:=by simp
 generalize τ1.set τ0.length (ABlk.box (stC s))=τ2 at *;obtain⟨j,hj,hj60,hjn⟩:∃j:Nat,min (max n 0) 60=j∧j≤60∧(min (max n 0) 60).toNat=j:=⟨(min (max n 0) 60).toNat,by omega,by omega,rfl⟩;refine Za (Zaf ..) (Za (YF ..) ?_);rw[hj];unfold drawE at hK;rw[hjn] at hK;have hk:=Qa6 h01 x.who;generalize hkk:whoS sd x.who=k at *;have hl2:LX rb l lv [] lv τ2:=hl.old (λk hk _=>a2.2 k hk (by simp));refine Xj (ι:=Nat) (λi vs τ=>∃t evs lvi,vs=[iv i]∧i≤j∧Zz k j s=((Zz k (j-i) t).1,(Zz k (j-i) t).2.1,evs++(Zz k (j-i) t).2.2)∧evs.length=i∧OkS b (N+i) C t∧Fr rb lv lvi σ τ∧hget τ rb=.box (rnC b t sd tg lvi fu mv)∧LX rb l lv evs lvi τ∧hget τ τ0.length=.box (stC s)∧hget τ σ.length=.box (efC x))
  (λi=>j-i) 0 ⟨s,[],lv,rfl,by omega,rfl,rfl,hok,a2.lift rb,r2,hl2,s2,n2⟩ ?_
 rintro i vs τ again ⟨t,evs,lvi,rfl,hi,hgo,hev,ht,hfr,hrt,hlt,hst,hnt0⟩ hag;have hrlt:=Xh hrt (by simp);have hslt:=Xh hst (by simp);have hnlt:=Xh hnt0 (by simp);refine Za rfl (Zb (λh=>?_) (λh=>?_))
 ·have h:i<j:=by simpa using h
  refine Zd rfl (Zd rfl (Zg (v:=bkV b) (ld hrt rfl) (Qh _) (Zd rfl (Zd rfl (Zg (v:=stV t) (ld hrt rfl) (Qh _) (Zd rfl (Zg (ld hnt0 (efLd1 x)) (Qh _) ?_)))))));refine XX (rd:=[rb]) (c404 b t sd tg fu x.who h01) rfl g57.ok.plain (Xdq hrt x.who) rfl ?_;rw[hkk];have c43:PC 56 [bkV b,stV t,iv k] (resV (drawF t k)):=by
   rcases hk with rfl|rfl
   ·exact c18_0 b hf hsm t ht.le (YM.2 ⟨hbk,ht.may⟩)
   ·exact c18_1 b hf hsm t ht.le (YM.2 ⟨hbk,ht.may⟩)
  refine Xf c43 rfl g56.ok.plain rfl (Zd rfl (Zd rfl (Zd rfl ?_)));refine Zg (v:=.bptr τ.length 0) (rd:=[]) (up:=[(τ.length,.box zStC)]) rfl (Xl τ _) ?_;have b1:=Agr.app1 τ (.box zStC);have z3:=Qf τ (.box zStC);have len3:(τ++[ABlk.box zStC]).length=τ.length+1:=by simp
  generalize τ++[ABlk.box zStC]=τ3 at *;refine Zg (v:=.bptr τ3.length 0) (rd:=[]) (up:=[(τ3.length,.box zEvC)]) rfl (Xl τ3 _) ?_;have b2:=b1.app' (.box zEvC);have z4:=Zf [ABlk.box zEvC] z3 (by simp);have e4:=Qf τ3 (.box zEvC);have len4:(τ3++[ABlk.box zEvC]).length=τ3.length+1:=by simp
  generalize τ3++[ABlk.box zEvC]=τ4 at *;refine Zg (stv z4 rfl rfl rfl) (Yj _ (by omega)) ?_;have b3:=b2.setNew (b:=τ.length) (by omega) (.box (stC (drawF t k).1));have s5:hget (τ4.set τ.length (.box (stC (drawF t k).1))) τ.length=.box (stC (drawF t k).1):=Qg _ (by omega);have e5:=Yg (x:=.box (stC (drawF t k).1)) e4 (by simp) (c:=τ.length) (by omega);have len5:(τ4.set τ.length (ABlk.box (stC (drawF t k).1))).length=τ4.length:=by simp
  generalize τ4.set τ.length (ABlk.box (stC (drawF t k).1))=τ5 at *;refine Zg (stv e5 rfl rfl rfl) (Yj _ (by omega)) ?_;have b4:=b3.setNew (b:=τ3.length) (by omega) (.box (evC (drawF t k).2.1));have s6:=Yg (x:=.box (evC (drawF t k).2.1)) s5 (by simp) (c:=τ3.length) (by omega);have e6:hget (τ5.set τ3.length (.box (evC (drawF t k).2.1))) τ3.length=.box (evC (drawF t k).2.1):=Qg _ (by omega);have len6:(τ5.set τ3.length (ABlk.box (evC (drawF t k).2.1))).length=τ5.length:=by simp
  generalize τ5.set τ3.length (ABlk.box (evC (drawF t k).2.1))=τ6 at *;have q1:τ.length≠rb:=by omega
  have q2:τ3.length≠rb:=by omega
  have q3:τ.length≠σ.length:=by omega
  have q4:τ3.length≠σ.length:=by omega
  have q5:τ3.length≠τ.length:=by omega
  refine Xr (by simp[Qn,Xw,Zr,YI,apart2,disj,List.range,List.range.loop,q1,q2,q3,q4,q5,q1.symm,q2.symm,q3.symm,q4.symm,q5.symm]) ?_;have r6:=b4.get hrt (by simp) (by simp);have st6:=b4.get hst (by simp) (by simp);have nt6:=b4.get hnt0 (by simp) (by simp);have l6:LX rb l lv evs lvi τ6:=hlt.old (λk hk _=>b4.2 k hk (by simp));have f6:Fr rb lv lvi σ τ6:=hfr.trans (b4.lift rb);have hrl6:=Xh r6 (by simp);have hd:Zz k (j-i) t=if (drawF t k).2.2=0 then ((Zz k (j-(i+1)) (drawF t k).1).1,(Zz k (j-(i+1)) (drawF t k).1).2.1,(drawF t k).2.1::(Zz k (j-(i+1)) (drawF t k).1).2.2) else ((drawF t k).2.2,t,[]):=by
   rw[show j-i=(j-(i+1))+1 from by omega]; rfl
  refine Za (Qaa ..) (Zb (λh2=>?_) (λh2=>?_))
  ·have h2:(drawF t k).2.2≠0:=by simpa using h2
   rw[if_neg h2] at hd;have hfin:(Zz k j s).1=(drawF t k).2.2:=by rw[hgo,hd]
   refine Za (v:=stV s) (ld st6 rfl) (Za rfl (Za rfl (Yc (stv (row':=rnC b s sd tg lvi fu mv) r6 rfl rfl rfl) (Yj _ hrl6) (Za rfl (Za rfl ?_)))));have r7:hget (τ6.set rb (.box (rnC b s sd tg lvi fu mv))) rb=.box (rnC b s sd tg lvi fu mv):=Qg _ hrl6;have hcs:=hl.cells;refine Yc (stv (row':=rnC b s sd tg lv fu mv) r7 hcs rfl rfl) (Yj _ (by simpa using hrl6)) ?_;rw[List.set_set];exact hK _ _ lv mv ((f6.back).trans (Fr.set lv _)) (by rw[hfin,if_neg h2]; exact Qg _ hrl6) (by rw[hfin,if_neg h2]) (by rw[hfin,if_neg h2]; exact(l6.old (λk hk hkr=>Ye _ hk hkr)).back)
  ·have h2:(drawF t k).2.2=0:=by simpa using h2
   rw[if_pos h2] at hd;refine Za (v:=stV (drawF t k).1) (ld s6 rfl) (Za rfl (Za rfl (Yc (stv (row':=rnC b (drawF t k).1 sd tg lvi fu mv) r6 rfl rfl rfl) (Yj _ hrl6) (Za (v:=evV (drawF t k).2.1) (ld (Yg e6 (by simp) (by omega)) rfl) ?_))));refine Xg hP (f:=55) rfl g55.ok rfl ?_;have l7:LX rb l lv evs lvi (τ6.set rb (.box (rnC b (drawF t k).1 sd tg lvi fu mv))):=l6.old (λk hk hkr=>Ye _ hk hkr);refine say_x (Qg _ hrl6) l7 (by simp[hev]; omega) (drawF t k).2.1 _ (.inl rfl) (λσ' lv' p1 p2 p3=>?_);refine Za (Yh ..) ?_;rw[Qd (n:=i) (by omega)];refine hag (i+1) _ _ (by omega) ⟨(drawF t k).1,evs++[(drawF t k).2.1],lv',rfl,by omega,by rw[hgo,hd]; simp,by simp[hev],?_,(f6.trans (Fr.set lvi _)).trans p1,p2,p3,?_,?_⟩
   ·exact ht.draw (by omega) hC hk h2
   ·exact p1.getX l7 (Yg st6 (by simp) hnt.symm) hnt
   ·exact p1.getX l7 (Yg nt6 (by simp) hne.symm) hne
 ·have h:i=j:=by simp at h; omega
  subst h;rw[Nat.sub_self] at hgo;have hgo:Zz k i s=(0,t,evs):=by rw[hgo]; simp[Zz]
  exact hK _ _ lvi mv hfr (by rw[hgo]; exact hrt) (by rw[hgo]; rfl) (by rw[hgo]; exact hlt)
theorem Xdz{k:MK}{xs:List AVal}{σ:List ABlk}{rb:Nat}{b:Bk}{s:St}{sd tg fu:Int}{mv lv:AVal}{l:List Ev}(hr:hget σ rb=.box (rnC b s sd tg lv fu mv))(hl:LV rb l lv σ)(hn:l.length+60≤1000000000)(h01:sd=0∨sd=1)
 (hf:bkFit b=true)(hsm:Qj b.cards)(hbk:(bkR b).1=0){N C:Nat}(hok:OkS b N C s)(hN:N+60≤1000000)(hC:C<1000000)(x:Ef)(n:Int)(hc:Zt k xs=some (34,[.bptr rb 0,.agg (efC x),iv n])){K:AVal→List ABlk→Prop}(hK:∀v σ',Dn rb b sd tg fu l lv σ (drawE s (whoS sd x.who) n) v σ'→K v σ'):VV.call k xs σ K:=
 Ydw hr hl λ_ hr' hx hfr=>Xg hP hc g34.ok rfl (Qdz hr' hx hn h01 hf hsm hbk hok hN hC x n (λv σ' lv' mv' p1 p2 p3 p4=>⟨_,lv',mv',_,fu,hfr lv' σ' p1,p2,p4,λσ'' q1 q2 q3=>hK v σ'' ⟨lv',mv',q1,q2,p3,q3⟩⟩))
end Go.Ah.Tz
end
section
namespace Go.Ah.Tz
open Go.Proofs.Tryz (prog)
set_option maxRecDepth 100000
attribute [local irreducible] Ans.rd Ans.pu Ans.wr Ans.dr Ans.gr Ans.gw Ans.gl Ans.gd Ans.opt joinK W
set_option maxHeartbeats 4000000
theorem QcD(b:Bk)(s:St)(k c:Int):∃st ev q,Yay b s k c=resX st ev (.bool q)∧((q=false∧Yab b s k c=true)∨(q=true∧Yab b s k c=false∧st=QC s k c∧ev=⟨2,k,c,s.next,0,0,[]⟩)):=by
 unfold Yay;by_cases h:Yab b s k c=true
 ·rw[if_pos h]; exact⟨_,_,_,rfl,.inl ⟨rfl,h⟩⟩
 ·rw[if_neg h]; exact⟨_,_,_,rfl,.inr ⟨rfl,by simpa using h,rfl,rfl⟩⟩
theorem Zdb{σ:List ABlk}{rb:Nat}{b:Bk}{s:St}{sd tg fu:Int}{mv lv:AVal}{l:List Ev}(hr:hget σ rb=.box (rnC b s sd tg lv fu mv))(hl:LV rb l lv σ)(hn:l.length≤1000000000)(h01:sd=0∨sd=1)
 (hf:bkFit b=true)(hsm:Qj b.cards)(hbk:(bkR b).1=0){N C:Nat}(hok:OkS b N C s)(hbig:b.cards.length≤big)(x:Ef)(n:Int){K:AVal→List ABlk→Prop}(hK:∀v σ',Dn rb b sd tg fu l lv σ (Yae b s sd x.name) v σ'→K v σ'):g39.u VV [.bptr rb 0,.agg (efC x),iv n] σ K:=by
 have hrb:=Xh hr (by simp);have a0:=Agr.app1 σ (.box (efC x));have r0:=Zf [ABlk.box (efC x)] hr (by simp);have n0:=Qf σ (.box (efC x));have len0:(σ++[ABlk.box (efC x)]).length=σ.length+1:=by simp
 rw[H3.e]; unfold g39; dsimp only;refine Yc (Yaa _ _) (Xl σ _) ?_;generalize σ++[ABlk.box (efC x)]=τ at *;refine Za rfl (Za rfl (Za (v:=bkV b) (ld r0 rfl) (Za rfl (Za (v:=.str x.name) (ld n0 (by rw[ZA]; rfl)) ?_))));refine Xb (c224 b hbig x.name) rfl g60.ok.plain rfl (Za rfl (Za rfl ?_));unfold Yae at hK;generalize (fndI 0 b.cards x.name).1=c at hK ⊢;refine Zd rfl (Zd rfl (Zg (v:=bkV b) (ld r0 rfl) (Qh _) (Zd rfl (Zd rfl (Zg (v:=stV s) (ld r0 rfl) (Qh _) (Zd rfl (Zd rfl (Zd rfl (Zg (v:=iv sd) (ld r0 rfl) (Qh _) ?_)))))))));have c46:PC 61 [bkV b,stV s,iv sd,iv c] (Yay b s sd c):=by
  rcases h01 with rfl|rfl
  ·exact c21_0 b hf hsm s hok.le (YM.2 ⟨hbk,hok.may⟩) c
  ·exact c21_1 b hf hsm s hok.le (YM.2 ⟨hbk,hok.may⟩) c
 obtain⟨st,ev,q,he,hq⟩:=QcD b s sd c;rw[he] at c46;refine Xf c46 rfl g61.ok.plain rfl (Zd rfl (Zd rfl (Zd rfl ?_)));refine Zg (v:=.bptr τ.length 0) (rd:=[]) (up:=[(τ.length,.box zStC)]) rfl (Xl τ _) ?_;have b1:=a0.app' (.box zStC);have b1':=Agr.app1 τ (.box zStC);have z3:=Qf τ (.box zStC);have len3:(τ++[ABlk.box zStC]).length=τ.length+1:=by simp
 generalize τ++[ABlk.box zStC]=τ3 at *;refine Zg (v:=.bptr τ3.length 0) (rd:=[]) (up:=[(τ3.length,.box zEvC)]) rfl (Xl τ3 _) ?_;have b2:=b1.app' (.box zEvC);have b2':=b1'.app' (.box zEvC);have z4:=Zf [ABlk.box zEvC] z3 (by simp);have e4:=Qf τ3 (.box zEvC);have len4:(τ3++[ABlk.box zEvC]).length=τ3.length+1:=by simp
 generalize τ3++[ABlk.box zEvC]=τ4 at *;refine Zg (stv z4 rfl rfl rfl) (Yj _ (by omega)) ?_;have b3:=b2.setNew (b:=τ.length) (by omega) (.box (stC st));have b3':=b2'.setNew (b:=τ.length) (by omega) (.box (stC st));have s5:hget (τ4.set τ.length (.box (stC st))) τ.length=.box (stC st):=Qg _ (by omega);have e5:=Yg (x:=.box (stC st)) e4 (by simp) (c:=τ.length) (by omega);have len5:(τ4.set τ.length (ABlk.box (stC st))).length=τ4.length:=by simp
 generalize τ4.set τ.length (ABlk.box (stC st))=τ5 at *;refine Zg (stv e5 rfl rfl rfl) (Yj _ (by omega)) ?_;have b4:=b3.setNew (b:=τ3.length) (by omega) (.box (evC ev));have b4':=b3'.setNew (b:=τ3.length) (by omega) (.box (evC ev));have s6:=Yg (x:=.box (evC ev)) s5 (by simp) (c:=τ3.length) (by omega);have e6:hget (τ5.set τ3.length (.box (evC ev))) τ3.length=.box (evC ev):=Qg _ (by omega);have len6:(τ5.set τ3.length (ABlk.box (evC ev))).length=τ5.length:=by simp
 generalize τ5.set τ3.length (ABlk.box (evC ev))=τ6 at *;have q1:τ.length≠rb:=by omega
 have q2:τ3.length≠rb:=by omega
 have q3:τ.length≠σ.length:=by omega
 have q4:τ3.length≠σ.length:=by omega
 have q5:τ3.length≠τ.length:=by omega
 refine Xr (by simp[Qn,Xw,Zr,YI,apart2,disj,List.range,List.range.loop,q1,q2,q3,q4,q5,q1.symm,q2.symm,q3.symm,q4.symm,q5.symm]) ?_;have r6:=b4'.get r0 (by simp) (by simp);have l6:LV rb l lv τ6:=hl.old (λk hk _=>b4.2 k hk (by simp));have f6:Fr rb lv lv σ τ6:=b4.lift rb;have hrl6:=Xh r6 (by simp);rcases hq with ⟨rfl,hq⟩|⟨rfl,hq,rfl,rfl⟩
 ·refine Yd ?_;exact hK _ _ ⟨lv,mv,f6,by rw[if_pos hq]; exact r6,by rw[if_pos hq],by rw[if_pos hq]; simpa using l6⟩
 ·rw[if_neg (by simp[hq])] at hK;refine Qc ?_;refine Za (v:=stV (QC s sd c)) (ld s6 rfl) (Za rfl (Za rfl (Yc (stv (row':=rnC b (QC s sd c) sd tg lv fu mv) r6 rfl rfl rfl) (Yj _ hrl6) (Za (v:=evV ⟨2,sd,c,s.next,0,0,[]⟩) (ld (Yg e6 (by simp) (by omega)) rfl) ?_))));refine Xg hP (f:=55) rfl g55.ok rfl ?_;refine XaL (Qg _ hrl6) (l6.old (λk hk hkr=>Ye _ hk hkr)) hn _ _ (.inl rfl) (λσ' lv' p1 p2 p3=>?_);exact hK _ _ ⟨lv',mv,(f6.trans (Fr.set lv _)).trans p1,p2,rfl,p3⟩
end Go.Ah.Tz
end
section
namespace Go.Ah.Tz
open Go.Proofs.Tryz (prog)
set_option maxRecDepth 100000
def opE(b:Bk)(s:St)(sd tg op who:Int)(name:Tx)(n:Int):Int×St×List Ev:=
 if op=0∨op=1 then hurtE b s sd tg op who n else if op=2 then drawE s (whoS sd who) n else if op=3 then gainF s sd n
 else if op=4 then dropF s (whoS sd who) else if op=5 then lookF s sd n else if op=6 then showF s (whoS sd who) else Yae b s sd name
def usesF(op:Int):Int:=if op=5 then 0 else 1
mutual
def run1 (b:Bk) (sd tg:Int):Ef→St→Int→Int×St×Int×List Ev
 |.mk op who n name c thn els,s,fu=>
  if op=8 then (if (Qag b c&&condF b s sd tg c)=true then runs b sd tg thn s fu else runs b sd tg els s fu)
  else if fu<usesF op then (190,s,fu,[])
  else ((opE b s sd tg op who name (numF b s sd tg n)).1,(opE b s sd tg op who name (numF b s sd tg n)).2.1,
   (if (opE b s sd tg op who name (numF b s sd tg n)).1=0 then fu - usesF op else fu),(opE b s sd tg op who name (numF b s sd tg n)).2.2)
def runs (b:Bk) (sd tg:Int):List Ef→St→Int→Int×St×Int×List Ev
 |[],s,fu=>(0,s,fu,[])
 |x::l,s,fu=>
  if (run1 b sd tg x s fu).1=0 then
   ((runs b sd tg l (run1 b sd tg x s fu).2.1 (run1 b sd tg x s fu).2.2.1).1,(runs b sd tg l (run1 b sd tg x s fu).2.1 (run1 b sd tg x s fu).2.2.1).2.1,
    (runs b sd tg l (run1 b sd tg x s fu).2.1 (run1 b sd tg x s fu).2.2.1).2.2.1,(run1 b sd tg x s fu).2.2.2 ++ (runs b sd tg l (run1 b sd tg x s fu).2.1 (run1 b sd tg x s fu).2.2.1).2.2.2)
  else run1 b sd tg x s fu
end
theorem QcM(b:Bk)(sd tg:Int)(x:Ef)(s:St)(fu:Int):run1 b sd tg x s fu =
  if x.op=8 then (if (Qag b x.c&&condF b s sd tg x.c)=true then runs b sd tg x.thn s fu else runs b sd tg x.els s fu)
  else if fu<usesF x.op then (190,s,fu,[])
  else ((opE b s sd tg x.op x.who x.name (numF b s sd tg x.n)).1,(opE b s sd tg x.op x.who x.name (numF b s sd tg x.n)).2.1,
   (if (opE b s sd tg x.op x.who x.name (numF b s sd tg x.n)).1=0 then fu - usesF x.op else fu),(opE b s sd tg x.op x.who x.name (numF b s sd tg x.n)).2.2):=by
 cases x; rw[run1]; rfl
theorem ZbY{kd:Int}{fP:Int→Int×Int}{fU:Th→Int×Int}{s:St}{id k:Int}{N:Nat}(h:TB N s)(h01:k=0∨k=1)(e:(chgF kd fP fU s id k).2.2=0):TB N (chgF kd fP fU s id k).1:=by
 have z:∀(x:Int),x≠0→(zSt,zEv,x).2.2=0→False:=λx hx h=>hx h;unfold chgF at e ⊢;by_cases hid:id=0
 ·rw[if_pos hid] at e ⊢;unfold chgP at e ⊢;split at e
  ·rename_i hw;rw[if_pos hw];rcases h01 with rfl|rfl<;>exact h
  ·exact(z 171 (by decide) e).elim
 rw[if_neg hid] at e ⊢;by_cases hid2:id<0
 ·simp_all
 rw[if_neg hid2] at e ⊢;cases q0:fnd s.s0.units id with
 |some i=>
  rw[q0] at e;simp only at e ⊢;unfold chgU at e ⊢;split at e
  ·rename_i hw;rw[if_pos hw]; exact h
  ·exact(z 171 (by decide) e).elim
 |none=>
  rw[q0] at e;simp only at e ⊢;cases q1:fnd s.s1.units id with
  |some i=>
   rw[q1] at e;simp only at e ⊢;unfold chgU at e ⊢;split at e
   ·rename_i hw;rw[if_pos hw]; exact h
   ·exact(z 171 (by decide) e).elim
  |none=>simp_all
theorem OkS.mv{b:Bk}{N C:Nat}{s:St}(h:OkS b N C s){op id k n:Int}(h01:k=0∨k=1)(e:(mvR op b s id k n).2.2=0):OkS b N C (mvR op b s id k n).1:=by
 unfold mvR at e ⊢;split at e
 ·rename_i q;rw[if_pos q];obtain⟨k1,k2,_⟩:=Xbg h.may h01 e;exact⟨k1,ZbY h.told h01 e,by rw[k2]; exact h.cards⟩
 ·rename_i q;rw[if_neg q];obtain⟨k1,k2,_⟩:=Zbe h.may h01 e;exact⟨k1,ZbY h.told h01 e,by rw[k2]; exact h.cards⟩
theorem OkS.hurt{b:Bk}{N C:Nat}{s:St}(h:OkS b N C s){sd:Int}(h01:sd=0∨sd=1)(tg op who n:Int):OkS b N C (hurtE b s sd tg op who n).2.1:=by
 unfold hurtE;split
 ·rename_i q;split
  ·rename_i e;exact h.mv (QbV h01 q.1).1 e
  ·exact h
 ·exact h
theorem ZbN{n:Nat}{l l':List Int}{most most':Int}(h:Zm n l most=true)(hl:∀c∈l',c∈l)(hm:(l'.length:Int)≤most'):Zm n l' most'=true:=by
 simp_all [Qr]
theorem QbM{n:Nat}{l m:List Int}{most most':Int}(h:Zm n l most=true)(k:Zm n m most'=true)(hm:((l.length+m.length:Nat):Int)≤most):Zm n (l++m) most=true:=by
 grind [Qr]
theorem SideP.tell{b:Bk}{x:Sd}(h:SideP b x){m:List Int}{most:Int}(hm:Zm b.cards.length m most=true)(hl:x.told.length+m.length≤1000000):SideP b { x with told:=x.told++m }:=
 ⟨h.life,h.mana,h.most,h.deck,h.hand,h.grave,QbM h.told hm (by omega),h.units⟩
theorem OkS.tell1{b:Bk}{N C:Nat}{s:St}(h:OkS b N C s){m:List Int}{most:Int}(hm:Zm b.cards.length m most=true)(hl:N+m.length≤1000000){i:Int}(h01:i=0∨i=1):OkS b (N+m.length) C (Tz.tell1 m s i):=by
 obtain⟨hM,ht,hc⟩:=h;have ht':=ht.tell m h01;obtain⟨t0,t1⟩:=ht;rcases h01 with rfl|rfl
 ·exact⟨⟨hM.hd,hM.s0.tell hm (by omega),hM.s1,hM.un,hM.at_⟩,ht',hc⟩
 ·exact⟨⟨hM.hd,hM.s0,hM.s1.tell hm (by omega),hM.un,hM.at_⟩,ht',hc⟩
theorem OkS.tell01{b:Bk}{N C:Nat}{s:St}(h:OkS b N C s){m:List Int}{most:Int}(hm:Zm b.cards.length m most=true)(hl:N+(m.length+m.length)≤1000000):OkS b (N+(m.length+m.length)) C (tellS s m [0,1]):=by
 have:=(h.tell1 hm (by omega) (i:=0) (.inl rfl)).tell1 hm (by omega) (i:=1) (.inr rfl);rw[Nat.add_assoc] at this;exact this
theorem OkS.gain{b:Bk}{N C:Nat}{s:St}(h:OkS b N C s){sd:Int}(h01:sd=0∨sd=1)(n:Int):OkS b N C (gainF s sd n).2.1:=by
 unfold gainF;split
 ·exact h
 split
 ·exact h
 ·rename_i q1 q2;obtain⟨hM,ht,hc⟩:=h;rcases h01 with rfl|rfl
  ·have:=hM.s0.mana;have hw:=Yal.1 this.2;have q2:¬1000000<s.s0.mana+n:=q2;exact⟨⟨hM.hd,⟨hM.s0.life,⟨by show 0≤s.s0.mana+n; omega,Yal.2 ⟨by show -1000000≤s.s0.mana+n; omega,by show s.s0.mana+n≤1000000; omega⟩⟩,hM.s0.most,hM.s0.deck,hM.s0.hand,hM.s0.grave,hM.s0.told,hM.s0.units⟩,hM.s1,hM.un,hM.at_⟩,ht,hc⟩
  ·have:=hM.s1.mana;have hw:=Yal.1 this.2;have q2:¬1000000<s.s1.mana+n:=q2;exact⟨⟨hM.hd,hM.s0,⟨hM.s1.life,⟨by show 0≤s.s1.mana+n; omega,Yal.2 ⟨by show -1000000≤s.s1.mana+n; omega,by show s.s1.mana+n≤1000000; omega⟩⟩,hM.s1.most,hM.s1.deck,hM.s1.hand,hM.s1.grave,hM.s1.told,hM.s1.units⟩,hM.un,hM.at_⟩,ht,hc⟩
theorem OkS.drop{b:Bk}{N C:Nat}{s:St}(h:OkS b N C s)(hN:N+2≤1000000)(hC:C<1000000){i:Int}(h01:i=0∨i=1):OkS b (N+2) C (dropF s i).2.1:=by
 unfold dropF;obtain⟨hM,ht,hc⟩:=h;have hg:s.s0.grave.length<1000000∧s.s1.grave.length<1000000:=by unfold Zk at hc; omega
 rcases h01 with rfl|rfl
 ·show OkS b (N+2) C (match s.s0.hand with | []=>_|c::h=>_:Int×St×List Ev).2.1;cases hh:s.s0.hand with
  |nil=>exact OkS.mono ⟨hM,ht,hc⟩ (by omega) (Nat.le_refl _)
  |cons c r=>
   have hx:=hM.s0.hand;rw[hh] at hx;obtain⟨x1,x2⟩:=ZN hx;refine OkS.tell01 (N:=N) (m:=[c]) (most:=1) (s:=s.put 0 { s.s0 with hand:=r,grave:=s.s0.grave++[c] }) ⟨⟨hM.hd,⟨hM.s0.life,hM.s0.mana,hM.s0.most,hM.s0.deck,x1,Xs hM.s0.grave x2 (by omega),hM.s0.told,hM.s0.units⟩,hM.s1,hM.un,hM.at_⟩,ht,?_⟩ ?_ (by simpa using hN)
   ·have:Zk (s.put 0 { s.s0 with hand:=r,grave:=s.s0.grave++[c] })=Zk s:=by simp[Zk,St.put,hh]; omega
    rw[this]; exact hc
   ·rw[Qr]; simpa using x2
 ·show OkS b (N+2) C (match s.s1.hand with | []=>_|c::h=>_:Int×St×List Ev).2.1;cases hh:s.s1.hand with
  |nil=>exact OkS.mono ⟨hM,ht,hc⟩ (by omega) (Nat.le_refl _)
  |cons c r=>
   have hx:=hM.s1.hand;rw[hh] at hx;obtain⟨x1,x2⟩:=ZN hx;refine OkS.tell01 (N:=N) (m:=[c]) (most:=1) (s:=s.put 1 { s.s1 with hand:=r,grave:=s.s1.grave++[c] }) ⟨⟨hM.hd,hM.s0,⟨hM.s1.life,hM.s1.mana,hM.s1.most,hM.s1.deck,x1,Xs hM.s1.grave x2 (by omega),hM.s1.told,hM.s1.units⟩,hM.un,hM.at_⟩,ht,?_⟩ ?_ (by simpa using hN)
   ·have:Zk (s.put 1 { s.s1 with hand:=r,grave:=s.s1.grave++[c] })=Zk s:=by simp[Zk,St.put,hh]; omega
    rw[this]; exact hc
   ·rw[Qr]; simpa using x2
theorem OkS.rows{b:Bk}{N C:Nat}{s:St}(h:OkS b N C s){i:Int}(h01:i=0∨i=1):Zm b.cards.length (s.side i).deck 60=true∧Zm b.cards.length (s.side i).hand 10=true:=by
 rcases h01 with rfl|rfl
 ·exact⟨h.may.s0.deck,h.may.s0.hand⟩
 ·exact⟨h.may.s1.deck,h.may.s1.hand⟩
theorem OkS.look{b:Bk}{N C:Nat}{s:St}(h:OkS b N C s)(hN:N+60≤1000000){sd:Int}(h01:sd=0∨sd=1)(n:Int):OkS b (N+60) C (lookF s sd n).2.1:=by
 unfold lookF;have hd:=(h.rows h01).1;generalize hcs:(s.side sd).deck.take (min (max n 0) (s.side sd).deck.length).toNat=cs;have hsub:∀c∈cs,c∈(s.side sd).deck:=λc hc=>by grind
 have hl:cs.length≤60:=by
  have:=(Qr.1 hd).1
  grind
 cases cs with
 |nil=>exact h.mono (by omega) (Nat.le_refl _)
 |cons c cs=>exact(h.tell1 (m:=c::cs) (ZbN (most':=60) hd hsub (by omega)) (by omega) h01).mono (by omega) (Nat.le_refl _)
theorem OkS.shows{b:Bk}{N C:Nat}{s:St}(h:OkS b N C s)(hN:N+60≤1000000){i:Int}(h01:i=0∨i=1):OkS b (N+60) C (showF s i).2.1:=by
 have hd:=(h.rows h01).2;have:=(Qr.1 hd).1;exact(h.tell01 hd (by omega)).mono (by omega) (Nat.le_refl _)
theorem Ybc(k:Int):∀(j:Nat) (s:St),(Zz k j s).2.2.length≤j
 |0,s=>by simp[Zz]
 |j+1,s=>by
  unfold Zz;split
  ·have:=Ybc k j (drawF s k).1;simp; omega
  ·simp
theorem ZdH{b:Bk}{N C:Nat}{s:St}(h:OkS b N C s)(hN:N+60≤1000000)(hC:C<1000000){sd:Int}(h01:sd=0∨sd=1)(tg op who:Int)(name:Tx)(n:Int) :
  OkS b (N+60) (C+1) (opE b s sd tg op who name n).2.1∧(opE b s sd tg op who name n).2.2.length≤60:=by
 have hw:=Qa6 h01 who;unfold opE;split
 ·refine⟨(h.hurt h01 tg op who n).mono (by omega) (by omega),?_⟩
  grind [hurtE]
 split
 ·have hj:(min (max n 0) 60).toNat≤60:=by omega
  have:=Ybc (whoS sd who) (min (max n 0) 60).toNat s;unfold drawE;split
  ·exact⟨(Qby hC hw _ h (by omega)).mono (by omega) (by omega),by omega⟩
  ·exact⟨h.mono (by omega) (by omega),by simp⟩
 split
 ·refine⟨(h.gain h01 n).mono (by omega) (by omega),?_⟩
  grind [gainF]
 split
 ·refine⟨(h.drop (by omega) hC hw).mono (by omega) (by omega),?_⟩;unfold dropF;split<;>simp
 split
 ·refine⟨(h.look (by omega) h01 n).mono (by omega) (by omega),?_⟩;unfold lookF;split<;>simp
 split
 ·exact⟨(h.shows (by omega) hw).mono (by omega) (by omega),by simp[showF]⟩
 ·refine⟨(h.summon h01 name).mono (by omega) (Nat.le_refl _),?_⟩;unfold Yae;split<;>simp
mutual
theorem ZbT {b:Bk} {sd tg:Int} (h01:sd=0∨sd=1):∀(x:Ef) {N C:Nat} {s:St} (fu:Int),OkS b N C s→N+60*(efP x).length≤1000000→C+(efP x).length≤1000000 →
  OkS b (N+60*(efP x).length) (C+(efP x).length) (run1 b sd tg x s fu).2.1∧(run1 b sd tg x s fu).2.2.2.length≤60*(efP x).length
 |.mk op who n name c thn els,N,C,s,fu,h,hN,hC=>by
  rw[run1]
  have h1:1≤(efP (.mk op who n name c thn els)).length:=by simp[efP]
  split
  ·rename_i h8
   have hl:(efPs thn).length+(efPs els).length≤(efP (.mk op who n name c thn els)).length:=by simp[efP,h8]; omega
   split
   ·obtain⟨q1,q2⟩:=Ybt h01 thn fu h (by omega) (by omega)
    exact⟨q1.mono (by omega) (by omega),by omega⟩
   ·obtain⟨q1,q2⟩:=Ybt h01 els fu h (by omega) (by omega)
    exact⟨q1.mono (by omega) (by omega),by omega⟩
  split
  ·exact⟨h.mono (by omega) (by omega),by simp⟩
  ·obtain⟨q1,q2⟩:=ZdH h (by omega) (by omega) h01 tg op who name (numF b s sd tg n)
   exact⟨q1.mono (by omega) (by omega),Nat.le_trans q2 (by omega)⟩
theorem Ybt {b:Bk} {sd tg:Int} (h01:sd=0∨sd=1):∀(l:List Ef) {N C:Nat} {s:St} (fu:Int),OkS b N C s→N+60*(efPs l).length≤1000000→C+(efPs l).length≤1000000 →
  OkS b (N+60*(efPs l).length) (C+(efPs l).length) (runs b sd tg l s fu).2.1∧(runs b sd tg l s fu).2.2.2.length≤60*(efPs l).length
 |[],N,C,s,fu,h,hN,hC=>by rw[runs]; exact⟨h.mono (by omega) (by omega),by simp⟩
 |x::l,N,C,s,fu,h,hN,hC=>by
  rw[runs]
  have hl:(efPs (x::l)).length=(efP x).length+(efPs l).length:=by simp[efPs]
  obtain⟨q1,q2⟩:=ZbT h01 x fu h (by omega) (by omega)
  split
  ·obtain⟨p1,p2⟩:=Ybt h01 l (run1 b sd tg x s fu).2.2.1 q1 (by omega) (by omega)
   refine⟨p1.mono (by omega) (by omega),?_⟩
   simp only[List.length_append]; omega
  ·exact⟨q1.mono (by omega) (by omega),by omega⟩
end
end Go.Ah.Tz
end
section
namespace Go.Ah.Tz
open Go.Proofs.Tryz (prog)
set_option maxRecDepth 100000
mutual
theorem XbG (b:Bk) (sd tg:Int):∀(x:Ef) (s:St) (fu:Int),0≤fu→0≤(run1 b sd tg x s fu).2.2.1∧(run1 b sd tg x s fu).2.2.1≤fu
 |.mk op who n name c thn els,s,fu,h=>by
  rw[run1]
  split
  ·split<;>simp_all [ZbH]
  grind [usesF]
theorem ZbH (b:Bk) (sd tg:Int):∀(l:List Ef) (s:St) (fu:Int),0≤fu→0≤(runs b sd tg l s fu).2.2.1∧(runs b sd tg l s fu).2.2.1≤fu
 |[],s,fu,h=>by rw[runs]; exact⟨h,Int.le_refl _⟩
 |x::l,s,fu,h=>by
  have h1:=XbG b sd tg x s fu h
  rw[runs]
  split
  ·have h2:=ZbH b sd tg l (run1 b sd tg x s fu).2.1 (run1 b sd tg x s fu).2.2.1 h1.1
   grind
  ·exact h1
end
theorem QcF{b:Bk}{s:St}(h:MayP b s):InB b s:=by
 have go:∀x:Sd,SideP b x→∀c,c∈x.deck∨c∈x.hand→0≤c∧c.toNat<b.cards.length:=by
  intro x k c hc;have:0≤c∧c<(b.cards.length:Int):=by
   rcases hc with hc|hc
   ·exact(Qr.1 k.deck).2 c hc
   ·exact(Qr.1 k.hand).2 c hc
  omega
 intro k c hc;unfold sdK at hc;split at hc
 ·exact go _ h.s0 c hc
 ·exact go _ h.s1 c hc
theorem Xc5{n:Nm}(h:noNum n=true):nmOk true n=true∧nmW n≤200:=by
 simp only[noNum,Bool.and_eq_true,decide_eq_true_eq] at h;obtain⟨h1,h2,h3,h4⟩:=h;have h4:=List.length_eq_zero_iff.1 h4;constructor
 ·rw[Qbr,h1,h2,h3,h4]; rfl
 ·have:(nmP n).length=1:=by cases n; simp_all [Nm.kids,nmP,nmPs]
  rw[ZcK,this]; decide
theorem Qc2{cs:List Cd}{d:Int}{x:Ef}(h:efOk cs true d x=true)(h8:x.op≠8)(hp:(efP x).length≤200):nmOk true x.n=true∧nmW x.n≤200:=by
 rw[Zas,if_neg h8] at h;simp only[Bool.and_eq_true] at h;obtain⟨_,_,_,_,_,h,_⟩:=h;by_cases hc:cntOp x.op=true
 ·rw[if_pos hc] at h;refine⟨h,?_⟩;have:(nmP x.n).length≤(efP x).length:=by
   cases x<;>simp_all [Ef.op,efP,Ef.n]
  rw[ZcK]; omega
 simp_all [Xc5]
theorem Xdm{cs:List Cd}{d:Int}{x:Ef}(h:efOk cs true d x=true)(h8:x.op=8):efsOk cs true (d+1) x.thn=true∧efsOk cs true (d+1) x.els=true:=by
 simp_all [lstOk,Zas]
theorem ZbA{cs:List Cd}{t:Bool}{d:Int}:∀ {l:List Ef},efsOk cs t d l=true→∀x∈l,efOk cs t d x=true
 |a::l,h,x,hx=>by
  simp only[efsOk,Bool.and_eq_true] at h;simp only[List.mem_cons] at hx;rcases hx with rfl|hx
  ·exact h.1
  ·exact ZbA h.2 x hx
def DnR(rb:Nat)(b:Bk)(sd tg:Int)(l:List Ev)(lv:AVal)(σ:List ABlk)(r:Int×St×Int×List Ev)(v:AVal)(σ':List ABlk):Prop:=
 ∃lv' mv',Fr rb lv lv' σ σ'∧hget σ' rb=.box (rnC b r.2.1 sd tg lv' r.2.2.1 mv')∧v=iv r.1∧LV rb (l++r.2.2.2) lv' σ'
@[reducible] def clos(rb:Nat):List AVal:=[.func (.func 33) [.bptr rb 0] [],.func (.func 33) [.bptr rb 0] [],.func (.func 34) [.bptr rb 0] [],.func (.func 35) [.bptr rb 0] [],.func (.func 36) [.bptr rb 0] [],.func (.func 37) [.bptr rb 0] [],.func (.func 38) [.bptr rb 0] [],.func (.func 39) [.bptr rb 0] []]
def RunG(b:Bk)(csx:List Cd)(sd tg:Int)(l:List Ef):Prop:=∀(σ:List ABlk) (rb:Nat) (s:St) (fu:Int) (mv lv:AVal) (evs:List Ev) (N C:Nat) (d:Int) (K:AVal→List ABlk→Prop),
 hget σ rb=.box (rnC b s sd tg lv fu mv)→LV rb evs lv σ→lsFit l=true→efsOk csx true d l=true→(efPs l).length≤200→OkS b N C s→N+60*(efPs l).length≤1000000→C+(efPs l).length≤1000000 →
 evs.length+60*(efPs l).length≤1000000→0≤fu→fu≤1000→(∀v σ',DnR rb b sd tg evs lv σ (runs b sd tg l s fu) v σ'→K v σ')→g19.u VV [.bptr rb 0,efV l] σ K
attribute [local irreducible] Ans.rd Ans.pu Ans.wr Ans.dr Ans.gr Ans.gw Ans.gl Ans.gd Ans.opt joinK W
set_option maxHeartbeats 8000000
theorem Xb7(b:Bk)(csx:List Cd)(sd tg:Int)(h01:sd=0∨sd=1)(hf:bkFit b=true)(hsm:Qj b.cards)(hbk:(bkR b).1=0)(m:Nat)(IH:∀l:List Ef,(efPs l).length<m→RunG b csx sd tg l):∀l:List Ef,(efPs l).length≤m→RunG b csx sd tg l:=by
 intro l hlm σ rb s fu mv lv evs N C d K hr hl hfit hok hW hS hN hC hE hf0 hf1 hK;have hrb:=Xh hr (by simp);have hlen:=XB hfit;rw[bigE] at hlen;have hbig:b.cards.length≤big:=by
  simp only[bkFit,XG,Bool.and_eq_true,decide_eq_true_eq] at hf; exact hf.1.1
 rw[H2.e]; unfold g19; dsimp only;refine Za rfl (Za rfl (Za rfl (Za rfl (Za rfl (Za rfl (Za rfl (Za rfl (Za (v:=.agg (clos rb)) rfl ?_))))))));refine Yc (v:=.bptr σ.length 0) (rd:=[]) (up:=[(σ.length,.box [.nilf,.nilf,.nilf,.nilf,.nilf,.nilf,.nilf,.nilf])]) rfl (Xl σ _) ?_;have a1:=Agr.app1 σ (.box [.nilf,.nilf,.nilf,.nilf,.nilf,.nilf,.nilf,.nilf]);have r1:=Zf [ABlk.box [.nilf,.nilf,.nilf,.nilf,.nilf,.nilf,.nilf,.nilf]] hr (by simp);have z1:=Qf σ (.box [.nilf,.nilf,.nilf,.nilf,.nilf,.nilf,.nilf,.nilf]);have len1:(σ++[ABlk.box [.nilf,.nilf,.nilf,.nilf,.nilf,.nilf,.nilf,.nilf]]).length=σ.length+1:=by simp
 generalize σ++[ABlk.box [.nilf,.nilf,.nilf,.nilf,.nilf,.nilf,.nilf,.nilf]]=σ1 at *;refine Yc (stv (row':=clos rb) z1 rfl rfl rfl) (Yj _ (by omega)) (Za (v:=iv l.length) (rd:=[]) (by simp[Qs]) ?_);have a2:=a1.setNew (b:=σ.length) (by omega) (.box (clos rb));have hne:σ.length≠rb:=by omega
 have r2:=Yg (x:=.box (clos rb)) r1 (by simp) hne;have c2:hget (σ1.set σ.length (.box (clos rb))) σ.length=.box (clos rb):=Qg _ (by omega);generalize σ1.set σ.length (.box (clos rb))=σ2 at *;have l2:LV rb evs lv σ2:=hl.old (λk hk _=>a2.2 k hk (by simp));refine Xj (ι:=Nat) (λi vs τ=>∃ t fi evs2 lvi mvi Ni Ci,vs=[iv i,iv 0]∧i≤l.length∧runs b sd tg l s fu=((runs b sd tg (l.drop i) t fi).1,(runs b sd tg (l.drop i) t fi).2.1,(runs b sd tg (l.drop i) t fi).2.2.1,evs2 ++ (runs b sd tg (l.drop i) t fi).2.2.2) ∧
   0≤fi∧fi≤1000∧OkS b Ni Ci t∧Ni+60*(efPs (l.drop i)).length≤1000000∧Ci+(efPs (l.drop i)).length≤1000000∧(evs++evs2).length+60*(efPs (l.drop i)).length≤1000000∧(efPs (l.drop i)).length≤(efPs l).length ∧
   Fr rb lv lvi σ τ∧hget τ rb=.box (rnC b t sd tg lvi fi mvi)∧LV rb (evs ++ evs2) lvi τ∧hget τ σ.length=.box (clos rb))
  (λi=>l.length-i) 0 ⟨s,fu,[],lv,mv,N,C,rfl,by omega,rfl,hf0,hf1,hS,hN,hC,by simpa using hE,Nat.le_refl _,a2.lift rb,r2,by simpa using l2,c2⟩ ?_
 rintro i vs τ again ⟨t,fi,evs2,lvi,mvi,Ni,Ci,rfl,hi,hrun,hfi0,hfi1,ht,hNi,hCi,hEi,hWi,hfr,hrt,hlt,hct⟩ hag;have hrlt:=Xh hrt (by simp);have hclt:=Xh hct (by simp);refine Za rfl (Zb (λh=>?_) (λh=>?_));rotate_left
 ·have h:i=l.length:=by simp at h; omega
  subst h;have e0:runs b sd tg (l.drop l.length) t fi=(0,t,fi,[]):=by rw[List.drop_length,runs]
  rw[e0] at hrun;exact hK _ _ ⟨lvi,mvi,hfr,by rw[hrun]; exact hrt,by rw[hrun]; rfl,by rw[hrun]; simpa using hlt⟩
 have h:i<l.length:=by simpa using h
 have hdrop:l.drop i=l[i]::l.drop (i+1):=YLD h;have hmem:=List.getElem_mem h;have hxf:=YO hfit hmem;have hxo:=ZbA hok _ hmem;have hix:=λ(σ:List ABlk)=>Yo σ efC false false 14 l .i64 i h;rw[hdrop] at hrun hNi hCi hEi hWi;generalize l[i]=x at *;have hsum:(efPs (x::l.drop (i+1))).length=(efP x).length+(efPs (l.drop (i+1))).length:=by simp[efPs]
 rw[hsum] at hNi hCi hEi hWi;have hx1:1≤(efP x).length:=by cases x; simp[efP]
 have hr1ok:=ZbT (b:=b) (tg:=tg) h01 x fi ht (by omega) (by omega);have hfu1:=XbG b sd tg x t fi hfi0;rw[runs] at hrun;refine Zi λk' ek=>?_;have fin:∀v τ',DnR rb b sd tg (evs++evs2) lvi τ (run1 b sd tg x t fi) v τ'→(run1 b sd tg x t fi).1≠0→K v τ':=by
  rintro v τ' ⟨lv',mv',p1,p2,p3,p4⟩ hne0;rw[if_neg hne0] at hrun;exact hK _ _ ⟨lv',mv',hfr.trans p1,by rw[hrun]; exact p2,by rw[hrun]; exact p3,by rw[hrun]; simpa using p4⟩
 have cont:∀v τ',DnR rb b sd tg (evs++evs2) lvi τ (run1 b sd tg x t fi) v τ'→(run1 b sd tg x t fi).1=0→k' [v] τ':=by
  rintro v τ' ⟨lv',mv',p1,p2,p3,p4⟩ h0;rw[if_pos h0] at hrun;rw[h0] at p3;subst p3;rw[ek];refine Za (Yh ..) ?_;rw[Qd (n:=i) (by omega)];refine hag (i+1) _ _ (by omega) ⟨(run1 b sd tg x t fi).2.1,(run1 b sd tg x t fi).2.2.1,evs2++(run1 b sd tg x t fi).2.2.2,lv',mv',Ni+60*(efP x).length,Ci+(efP x).length,rfl,by omega,?_,hfu1.1,by omega,hr1ok.1,by omega,by omega,?_,by omega,hfr.trans p1,p2,?_,?_⟩
  ·rw[hrun]; simp
  ·have:=hr1ok.2;simp only[List.length_append] at hEi ⊢; omega
  ·simpa using p4
  ·exact p1.get hlt hct hne
 clear ek hag hK;refine Za (hix _) (Za (ldr (efLd _)) (Yx (row:=efC x) (row':=efC x) (by rw[ZA]; rfl) (by rw[ZA]; rfl) (by rw[ZA]; rfl) ?_));have b1:=Agr.app1 τ (.box (efC x));have rt1:=Zf [ABlk.box (efC x)] hrt (by simp);have ct1:=Zf [ABlk.box (efC x)] hct (by simp);have x1:=Qf τ (.box (efC x));have lt1:LV rb (evs++evs2) lvi (τ++[ABlk.box (efC x)]):=hlt.old (λk hk _=>Ym _ hk);have lenx:(τ++[ABlk.box (efC x)]).length=τ.length+1:=by simp
 have hxlt:τ.length<(τ++[ABlk.box (efC x)]).length:=by omega
 generalize τ++[ABlk.box (efC x)]=τ1 at *;have f1:Fr rb lvi lvi τ τ1:=b1.lift rb;refine Za rfl (Za (ld x1 (efLd0 x)) (Za (Xd ..) (Zb (λh8=>?_) (λh8=>?_))))
 ·have h8:x.op=8:=by simpa using h8
  have hcs:(cnP x.c).length≤1000000∧(efPs x.thn).length<(efP x).length∧(efPs x.els).length<(efP x).length:=by
   cases x; simp[Ef.op] at h8; simp[efP,h8,Ef.c,Ef.thn,Ef.els] at hWi ⊢; omega
  have hi2:=Xdm hxo h8;have hrx:run1 b sd tg x t fi=if (Qag b x.c&&condF b t sd tg x.c)=true then runs b sd tg x.thn t fi else runs b sd tg x.els t fi:=by rw[QcM,if_pos h8]
  refine Za rfl (Za (v:=efV x.els) (ld x1 (by rw[ZA]; rfl)) (Za rfl (Za rfl (Za (v:=bkV b) (ld rt1 rfl) (Za rfl (Za rfl (Za (v:=stV t) (ld rt1 rfl) (Za rfl (Za rfl (Za (v:=.agg [iv sd,iv tg]) (ld rt1 rfl) (Za rfl (Za (ld x1 (efLdC x)) ?_))))))))))));refine Xb (c169 b hf hsm t ht.le9 (YM.2 ⟨hbk,ht.may⟩) sd tg (by omega) (by omega) (QcF ht.may) x.c (ZZ hxf) hcs.1) rfl g40.ok.plain (by rw[ZF]; rfl) ?_;refine Za rfl (Za rfl (Zi λk2 ek2=>?_));have body:∀th:List Ef,lsFit th=true→efsOk csx true (d+1) th=true→(efPs th).length<(efP x).length→run1 b sd tg x t fi=runs b sd tg th t fi→k2 [efV th] τ1:=by
   intro th q1 q2 q3 q4;rw[ek2];refine Xg hP (f:=19) rfl g19.ok rfl ?_;refine IH th (by omega) τ1 rb t fi mvi lvi (evs++evs2) Ni Ci (d+1) _ rt1 lt1 q1 q2 (by omega) ht (by omega) (by omega) (by omega) hfi0 hfi1 (λv τ' hD=>?_);rw[←q4] at hD;obtain⟨lv',mv',p1,p2,p3,p4⟩:=hD;have hD':DnR rb b sd tg (evs++evs2) lvi τ (run1 b sd tg x t fi) v τ':=⟨lv',mv',f1.trans p1,p2,p3,p4⟩;rw[p3];rw[p3] at hD';refine Za (Qaa ..) (Zb (λhq=>?_) (λhq=>?_))
   ·exact fin _ _ hD' (by simpa using hq)
   ·exact cont _ _ hD' (by simpa using hq)
  refine Zb (λhq=>?_) (λhq=>?_)
  ·refine Za rfl (Za (v:=efV x.thn) (ld x1 (by rw[ZA]; rfl)) ?_);exact body _ (YJ hxf) hi2.1 hcs.2.1 (by rw[hrx,if_pos hq])
  ·exact body _ (ZJ hxf) hi2.2 hcs.2.2 (by rw[hrx,if_neg (by simp[hq])])
 ·have h8:x.op≠8:=by simpa using h8
  have hrx:run1 b sd tg x t fi=if fi < usesF x.op then (190,t,fi,[]) else ((opE b t sd tg x.op x.who x.name (numF b t sd tg x.n)).1,(opE b t sd tg x.op x.who x.name (numF b t sd tg x.n)).2.1,
   (if (opE b t sd tg x.op x.who x.name (numF b t sd tg x.n)).1=0 then fi - usesF x.op else fi),(opE b t sd tg x.op x.who x.name (numF b t sd tg x.n)).2.2):=by rw[QcM,if_neg h8]
  have hnum:=Qc2 hxo h8 (by omega);have hop:0≤x.op∧x.op≤8:=by
   rw[Zas] at hxo; simp only[Bool.and_eq_true,decide_eq_true_eq] at hxo; exact⟨hxo.1,hxo.2.1⟩
  refine Za rfl (Za (ld x1 (efLd0 x)) (Za (Xd ..) (Zi λk2 ek2=>?_)));have hu:0≤usesF x.op∧usesF x.op≤1:=by unfold usesF; split<;>omega
  have body:k2 [iv (usesF x.op)] τ1:=by
   rw[ek2];clear ek2 k2;generalize usesF x.op=u at *;refine Za rfl (Za rfl (Za (v:=iv fi) (ld rt1 rfl) (Za (v:=.bool (decide (fi<u))) rfl (Zb (λhq=>?_) (λhq=>?_)))))
   ·have hq:fi<u:=by simpa using hq
    rw[if_pos hq] at hrx;exact fin _ _ ⟨lvi,mvi,f1,by rw[hrx]; exact rt1,by rw[hrx],by rw[hrx]; simpa using lt1⟩ (by rw[hrx]; show (190:Int)≠0; decide)
   have hq:¬fi<u:=by simpa using hq
   rw[if_neg hq] at hrx;refine Za rfl (Za rfl (Za (v:=bkV b) (ld rt1 rfl) (Za rfl (Za rfl (Za (v:=stV t) (ld rt1 rfl) (Za rfl (Za rfl (Za (v:=.agg [iv sd,iv tg]) (ld rt1 rfl) (Za rfl (Za (ld x1 (efLdN x)) ?_))))))))));refine Xb (c31 b hf hsm t ht.le9 (YM.2 ⟨hbk,ht.may⟩) sd tg (by omega) (by omega) (λc hc=>QcF ht.may _ c (.inl hc)) x.n (Z4 hxf) hnum.1 hnum.2) rfl g41.ok.plain (by rw[Qx]; rfl) ?_;refine Za rfl (Za rfl (Za rfl (Za (ld x1 (efLd0 x)) ?_)));have hnb:=QbR b t sd tg x.n;generalize numF b t sd tg x.n=n at *;have after:∀v τ2,Dn rb b sd tg fi (evs++evs2) lvi τ1 (opE b t sd tg x.op x.who x.name n) v τ2 →
     VV.rd (Yn .neq false [v,(.int .i64 0)] τ2) λt103=>VV.test t103 (K v τ2) (
     VV.rd (Zh [.bptr rb 0] τ2) λt105=>VV.rd (Ze 28 [t105] τ2) λt106=>VV.rd (Xk false 1 [t106] τ2) λt107=>
     VV.rd (Yn .sub false [t107,iv u] τ2) λt109=>VV.rd (Zh [.bptr rb 0] τ2) λt110=>VV.rd (Ze 28 [t110] τ2) λt111=>
     VV.wr (Qo 1 [t111,t109] τ2) τ2 λ_ σ=>k' [v] σ):=by
    rintro v τ2 ⟨lv',mv',p1,p2,rfl,p4⟩;generalize opE b t sd tg x.op x.who x.name n=r at *;refine Za (Qaa ..) (Zb (λhz=>?_) (λhz=>?_))
    ·have hz:r.1≠0:=by simpa using hz
     rw[if_neg hz] at hrx;exact fin _ _ ⟨lv',mv',f1.trans p1,by rw[hrx]; exact p2,by rw[hrx],by rw[hrx]; exact p4⟩ (by rw[hrx]; exact hz)
    ·have hz:r.1=0:=by simpa using hz
     rw[if_pos hz] at hrx;have hl2:=Xh p2 (by simp);refine Za rfl (Za rfl (Za (v:=iv fi) (ld p2 rfl) (Za (Za8 ..) (Za rfl (Za rfl ?_)))));rw[IntWalk.i64_in _ (by omega)];refine Yc (stv (row':=rnC b r.2.1 sd tg lv' (fi-u) mv') p2 rfl rfl rfl) (Yj _ hl2) ?_;refine cont _ _ ⟨lv',mv',(f1.trans p1).trans (Fr.set lv' _),by rw[hrx]; exact Qg _ hl2,by rw[hrx],by rw[hrx]; exact p4.old (λk hk hkr=>Ye _ hk hkr)⟩ (by rw[hrx]; exact hz)
   have hTB:TB 100000000 t:=⟨by have:=ht.told.1; omega,by have:=ht.told.2; omega⟩;have hles:=ht.le;have hln:(evs++evs2).length+60≤1000000000:=by omega
   have hops:x.op=0∨x.op=1∨x.op=2∨x.op=3∨x.op=4∨x.op=5∨x.op=6∨x.op=7:=by omega
   rcases hops with e|e|e|e|e|e|e|e
   ·rw[e];refine Za rfl (Za (v:=.func (.func 33) [.bptr rb 0] []) (ld ct1 rfl) (Za (ld x1 (efLd x)) ?_));refine Xg hP (f:=33) (ys:=[.bptr rb 0,.agg (efC x),iv n]) rfl g33.ok rfl (Zdf rt1 lt1 (by omega) h01 hf hsm hles (YM.2 ⟨hbk,ht.may⟩) x n (λv τ2 hD=>after v τ2 ?_));have:opE b t sd tg x.op x.who x.name n=hurtE b t sd tg x.op x.who n:=by rw[opE,if_pos (.inl e)]
    rw[this]; exact hD
   ·rw[e];refine Za rfl (Za (v:=.func (.func 33) [.bptr rb 0] []) (ld ct1 rfl) (Za (ld x1 (efLd x)) ?_));refine Xg hP (f:=33) (ys:=[.bptr rb 0,.agg (efC x),iv n]) rfl g33.ok rfl (Zdf rt1 lt1 (by omega) h01 hf hsm hles (YM.2 ⟨hbk,ht.may⟩) x n (λv τ2 hD=>after v τ2 ?_));have:opE b t sd tg x.op x.who x.name n=hurtE b t sd tg x.op x.who n:=by rw[opE,if_pos (.inr e)]
    rw[this]; exact hD
   ·rw[e];refine Za rfl (Za (v:=.func (.func 34) [.bptr rb 0] []) (ld ct1 rfl) (Za (ld x1 (efLd x)) ?_));refine Xdz rt1 lt1 hln h01 hf hsm hbk ht (by omega) (by omega) x n rfl (λv τ2 hD=>after v τ2 ?_);have:opE b t sd tg x.op x.who x.name n=drawE t (whoS sd x.who) n:=by rw[e]; rfl
    rw[this]; exact hD
   ·rw[e];refine Za rfl (Za (v:=.func (.func 35) [.bptr rb 0] []) (ld ct1 rfl) (Za (ld x1 (efLd x)) ?_));have hmana:0≤(t.side sd).mana∧(t.side sd).mana≤1000000:=by
     rcases h01 with rfl|rfl
     ·exact⟨ht.may.s0.mana.1,(Yal.1 ht.may.s0.mana.2).2⟩
     ·exact⟨ht.may.s1.mana.1,(Yal.1 ht.may.s1.mana.2).2⟩
    refine Xg hP (f:=35) (ys:=[.bptr rb 0,.agg (efC x),iv n]) rfl g35.ok rfl (QdD rt1 lt1 (by omega) h01 hmana x n (by omega) (λv τ2 hD=>after v τ2 ?_));have:opE b t sd tg x.op x.who x.name n=gainF t sd n:=by rw[e]; rfl
    rw[this]; exact hD
   ·rw[e];refine Za rfl (Za (v:=.func (.func 36) [.bptr rb 0] []) (ld ct1 rfl) (Za (ld x1 (efLd x)) ?_));refine Xg hP (f:=36) (ys:=[.bptr rb 0,.agg (efC x),iv n]) rfl g36.ok rfl (ZdA rt1 lt1 (by omega) h01 hTB ⟨by have:=hles.s0.hand; omega,by have:=hles.s0.grave; omega⟩ ⟨by have:=hles.s1.hand; omega,by have:=hles.s1.grave; omega⟩ x n (λv τ2 hD=>after v τ2 ?_));have:opE b t sd tg x.op x.who x.name n=dropF t (whoS sd x.who):=by rw[e]; rfl
    rw[this]; exact hD
   ·rw[e];refine Za rfl (Za (v:=.func (.func 37) [.bptr rb 0] []) (ld ct1 rfl) (Za (ld x1 (efLd x)) ?_));have hdk:(t.side sd).deck.length≤100000000:=by
     rcases h01 with rfl|rfl
     ·have:=hles.s0.deck; show t.s0.deck.length≤_; omega
     ·have:=hles.s1.deck; show t.s1.deck.length≤_; omega
    refine Xg hP (f:=37) (ys:=[.bptr rb 0,.agg (efC x),iv n]) rfl g37.ok rfl (YdF rt1 lt1 (by omega) h01 hTB hdk x n (λv τ2 hD=>after v τ2 ?_));have:opE b t sd tg x.op x.who x.name n=lookF t sd n:=by rw[e]; rfl
    rw[this]; exact hD
   ·rw[e];refine Za rfl (Za (v:=.func (.func 38) [.bptr rb 0] []) (ld ct1 rfl) (Za (ld x1 (efLd x)) ?_));refine Xg hP (f:=38) (ys:=[.bptr rb 0,.agg (efC x),iv n]) rfl g38.ok rfl (YdI rt1 lt1 (by omega) h01 hTB (by have:=hles.s0.hand; omega) (by have:=hles.s1.hand; omega) x n (λv τ2 hD=>after v τ2 ?_));have:opE b t sd tg x.op x.who x.name n=showF t (whoS sd x.who):=by rw[e]; rfl
    rw[this]; exact hD
   ·rw[e];refine Za rfl (Za (v:=.func (.func 39) [.bptr rb 0] []) (ld ct1 rfl) (Za (ld x1 (efLd x)) ?_));refine Xg hP (f:=39) (ys:=[.bptr rb 0,.agg (efC x),iv n]) rfl g39.ok rfl (Zdb rt1 lt1 (by omega) h01 hf hsm hbk ht hbig x n (λv τ2 hD=>after v τ2 ?_));have:opE b t sd tg x.op x.who x.name n=Yae b t sd x.name:=by rw[e]; rfl
    rw[this]; exact hD
  refine Zb (λhq=>?_) (λhq=>?_)
  ·have:usesF x.op=0:=by rw[usesF,if_pos (by simpa using hq)]
   rw[this] at body; exact body
  ·have:usesF x.op=1:=by rw[usesF,if_neg (by simpa using hq)]
   rw[this] at body; exact body
theorem run_w(b:Bk)(csx:List Cd)(sd tg:Int)(h01:sd=0∨sd=1)(hf:bkFit b=true)(hsm:Qj b.cards)(hbk:(bkR b).1=0)(l:List Ef):RunG b csx sd tg l:=by
 have go:∀(m:Nat) (l:List Ef),(efPs l).length≤m→RunG b csx sd tg l:=by
  intro m
  induction m with
  |zero=>exact Xb7 b csx sd tg h01 hf hsm hbk 0 (λ_ h=>absurd h (by omega))
  |succ m ih=>grind [Xb7]
 exact go _ l (Nat.le_refl _)
end Go.Ah.Tz
end
section
namespace Go.Ah.Tz
open Go.Proofs.Tryz (prog)
set_option maxRecDepth 100000
def entN:List Ev→Int
 |[]=>0
 |e::l=>(if e.kind=2 then 1 else 0)+entN l
theorem Ybp:∀l m:List Ev,entN (l++m)=entN l+entN m
 |[],m=>by simp[entN]
 |e::l,m=>by simp only[List.cons_append,entN,Ybp l m]; omega
theorem QbP:∀l:List Ev,0≤entN l∧entN l≤l.length
 |[]=>by simp[entN]
 |e::l=>by have:=QbP l; simp only[entN,List.length_cons]; split<;>omega
theorem Zbx{kd:Int}{fP:Int→Int×Int}{fU:Th→Int×Int}{s:St}{id k:Int}(h:(chgF kd fP fU s id k).2.2=0):(chgF kd fP fU s id k).2.1.kind=kd:=by
 have z:∀(x:Int),x≠0→(zSt,zEv,x).2.2=0→False:=λx hx h=>hx h
 grind [chgF,chgP,chgU]
theorem Xcc(s:St)(k:Int):(drawF s k).2.1.kind≠2:=by
 have h3:(3:Int)≠2:=by decide
 have h4:(4:Int)≠2:=by decide
 have h0:(0:Int)≠2:=by decide
 unfold drawF;split
 ·split
  ·exact h3
  ·exact h0
 ·split
  ·exact h4
  ·exact h3
theorem Xao(m:List Int)(s:St){i:Int}(h:i=0∨i=1):Zk (tell1 m s i)=Zk s:=by
 rcases h with rfl|rfl<;>simp[Zk,tell1,St.put,St.side]
theorem Zbc{b:Bk}{C:Nat}(hC:C<1000000){k:Int}(h01:k=0∨k=1):∀(j:Nat) {N:Nat} {s:St},OkS b N C s→N+j≤1000000→Zk (Zz k j s).2.1=Zk s∧entN (Zz k j s).2.2=0
 |0,N,s,h,_=>⟨rfl,rfl⟩
 |j+1,N,s,h,hN=>by
  unfold Zz;split
  ·rename_i e;obtain⟨q1,q2⟩:=Zbc hC h01 j (h.draw (by omega) hC h01 e) (by omega);have hc:Zk (drawF s k).1=Zk s:=by
    obtain⟨hM,⟨t0,t1⟩,hc⟩:=h;have hg:s.s0.grave.length<1000000∧s.s1.grave.length<1000000:=by unfold Zk at hc; omega
    rcases h01 with rfl|rfl
    ·exact(ZaW hM e hg.1 (by omega) (by omega)).2
    ·exact(YaW hM e hg.2 (by omega) (by omega)).2
   have hk:=Xcc s k;simp only[entN,if_neg hk];omega
  ·exact⟨rfl,rfl⟩
theorem Qdp{b:Bk}{N C:Nat}{s:St}(h:OkS b N C s)(hN:N+60≤1000000)(hC:C<1000000){sd:Int}(h01:sd=0∨sd=1)(tg op who:Int)(name:Tx)(n:Int) :
  Zk (opE b s sd tg op who name n).2.1=Zk s+entN (opE b s sd tg op who name n).2.2:=by
 have hw:=Qa6 h01 who;unfold opE;split
 ·unfold hurtE;split
  ·rename_i q;split
   ·rename_i e;have hk:=(QbV h01 q.1).1;generalize whoR s sd tg who=w at *;unfold mvR at e ⊢;split at e
    ·rename_i q;rw[if_pos q];have h1:=(Xbg h.may hk e).2.1;have h2:(mendF s w.1 w.2.1 n).2.1.kind=6:=Zbx e;simp only[entN,h2]; simp[h1]
    ·rename_i q;rw[if_neg q];have h1:=(Zbe h.may hk e).2.1;have h2:(harmF b s w.1 w.2.1 n).2.1.kind=5:=Zbx e;simp only[entN,h2]; simp[h1]
   ·simp[entN]
  ·simp[entN]
 split
 ·unfold drawE;obtain⟨q1,q2⟩:=Zbc hC hw (min (max n 0) 60).toNat h (by omega);split
  ·omega
  ·simp[entN]
 split
 ·unfold gainF;split
  ·simp[entN]
  split
  ·simp[entN]
  ·rcases h01 with rfl|rfl<;>simp[entN,Zk,St.put,St.side]
 split
 ·unfold dropF;split
  ·simp[entN]
  ·rename_i c r hh;show Zk (tell1 [c] (tell1 [c] (s.put (whoS sd who) { s.side (whoS sd who) with hand:=r,grave:=(s.side (whoS sd who)).grave++[c] }) 0) 1)=_;rw[Xao _ _ (.inr rfl),Xao _ _ (.inl rfl)];have h8:entN [⟨8,whoS sd who,c,0,0,0,[]⟩]=0:=by simp[entN]
   rw[h8];rcases hw with e|e
   ·rw[e] at hh ⊢;have hh:s.s0.hand=c::r:=hh;simp[Zk,St.put,St.side,hh]; omega
   ·rw[e] at hh ⊢;have hh:s.s1.hand=c::r:=hh;simp[Zk,St.put,St.side,hh]; omega
 split
 ·unfold lookF;split
  ·simp[entN]
  ·rename_i c cs _;show Zk (tell1 (c::cs) s sd)=_;rw[Xao _ _ h01]; simp[entN]
 split
 ·unfold showF;simp[tellS,Xao,entN]
 ·unfold Yae;split
  ·simp[entN]
  ·rename_i e;rcases h01 with rfl|rfl
   ·have:=(XaH h.may (by simpa using e)).2;simp[entN,this]
   ·have:=(QaH h.may (by simpa using e)).2;simp[entN,this]
mutual
theorem Yc7 {b:Bk} {sd tg:Int} (h01:sd=0∨sd=1):∀(x:Ef) {N C:Nat} {s:St} (fu:Int),OkS b N C s→N+60*(efP x).length≤1000000→C+(efP x).length≤1000000 →
  Zk (run1 b sd tg x s fu).2.1=Zk s+entN (run1 b sd tg x s fu).2.2.2
 |.mk op who n name c thn els,N,C,s,fu,h,hN,hC=>by
  rw[run1]
  have h1:1≤(efP (.mk op who n name c thn els)).length:=by simp[efP]
  split
  ·rename_i h8
   have hl:(efPs thn).length+(efPs els).length≤(efP (.mk op who n name c thn els)).length:=by simp[efP,h8]; omega
   split
   ·exact XaR h01 thn fu h (by omega) (by omega)
   ·exact XaR h01 els fu h (by omega) (by omega)
  split
  ·simp[entN]
  ·exact Qdp h (by omega) (by omega) h01 tg op who name (numF b s sd tg n)
theorem XaR {b:Bk} {sd tg:Int} (h01:sd=0∨sd=1):∀(l:List Ef) {N C:Nat} {s:St} (fu:Int),OkS b N C s→N+60*(efPs l).length≤1000000→C+(efPs l).length≤1000000 →
  Zk (runs b sd tg l s fu).2.1=Zk s+entN (runs b sd tg l s fu).2.2.2
 |[],N,C,s,fu,h,hN,hC=>by rw[runs]; simp[entN]
 |x::l,N,C,s,fu,h,hN,hC=>by
  rw[runs]
  have hl:(efPs (x::l)).length=(efP x).length+(efPs l).length:=by simp[efPs]
  obtain⟨q1,q2⟩:=ZbT (tg:=tg) h01 x fu h (by omega) (by omega)
  have e1:=Yc7 (tg:=tg) h01 x fu h (by omega) (by omega)
  split
  ·have e2:=XaR (tg:=tg) h01 l (run1 b sd tg x s fu).2.2.1 q1 (by omega) (by omega)
   dsimp only
   rw[Ybp]; omega
  ·exact e1
end
def ErrW(e:Int):Prop:=e≠170∧e≠2
theorem YaV(k:Int):∀(j:Nat) (s:St),ErrW (Zz k j s).1
 |0,s=>⟨by simp[Zz],by simp[Zz]⟩
 |j+1,s=>by
  unfold Zz;split
  ·exact YaV k j _
  ·grind [drawF,ErrW]
theorem Zc6(b:Bk)(s:St)(sd tg op who:Int)(name:Tx)(n:Int):ErrW (opE b s sd tg op who name n).1:=by
 unfold opE;split
 ·grind [hurtE,mvR,mendF,harmF,chgF,chgP,chgU,ErrW]
 split
 ·have:=YaV (whoS sd who) (min (max n 0) 60).toNat s
  grind [drawE]
 split
 ·grind [gainF,ErrW]
 split
 ·grind [dropF,ErrW]
 split
 ·grind [lookF,ErrW]
 split
 ·exact⟨by simp[showF],by simp[showF]⟩
 ·grind [Yae,ErrW]
mutual
theorem ZcN (b:Bk) (sd tg:Int):∀(x:Ef) (s:St) (fu:Int),ErrW (run1 b sd tg x s fu).1
 |.mk op who n name c thn els,s,fu=>by
  rw[run1]
  split
  ·split
   ·exact XaB b sd tg thn s fu
   ·exact XaB b sd tg els s fu
  split
  ·exact⟨by simp,by simp⟩
  ·exact Zc6 ..
theorem XaB (b:Bk) (sd tg:Int):∀(l:List Ef) (s:St) (fu:Int),ErrW (runs b sd tg l s fu).1
 |[],s,fu=>by rw[runs]; exact⟨by simp,by simp⟩
 |x::l,s,fu=>by
  rw[runs]
  split
  ·exact XaB b sd tg l _ _
  ·exact ZcN b sd tg x s fu
end
end Go.Ah.Tz
end
section
namespace Go.Ah.Tz
open Go.Proofs.Tryz (prog)
set_option maxRecDepth 100000
def dg36:Tx:=[48,49,50,51,52,53,54,55,56,57,97,98,99,100,101,102,103,104,105,106,107,108,109,110,111,112,113,114,115,116,117,118,119,120,121,122]
def dg100:Tx:=[48,48,48,49,48,50,48,51,48,52,48,53,48,54,48,55,48,56,48,57,49,48,49,49,49,50,49,51,49,52,49,53,49,54,49,55,49,56,49,57,50,48,50,49,50,50,50,51,50,52,50,53,50,54,50,55,50,56,50,57,51,48,51,49,51,50,51,51,51,52,51,53,51,54,51,55,51,56,51,57,52,48,52,49,52,50,52,51,52,52,52,53,52,54,52,55,52,56,52,57,53,48,53,49,53,50,53,51,53,52,53,53,53,54,53,55,53,56,53,57,54,48,54,49,54,50,54,51,54,52,54,53,54,54,54,55,54,56,54,57,55,48,55,49,55,50,55,51,55,52,55,53,55,54,55,55,55,56,55,57,56,48,56,49,56,50,56,51,56,52,56,53,56,54,56,55,56,56,56,57,57,48,57,49,57,50,57,51,57,52,57,53,57,54,57,55,57,56,57,57]
def itoaT(i:Nat):Tx:=if i<10 then [UInt8.ofNat (48+i)] else [UInt8.ofNat (48+i/10),UInt8.ofNat (48+i%10)]
theorem Xdk:∀i<10,(dg36.take (i+1)).drop i=itoaT i:=by decide
theorem Qc0:∀i<63,10≤i→(dg100.take (i*2+2)).drop (i*2)=itoaT i:=by decide
theorem Zc4:∀i<63,∀j<63,itoaT i=itoaT j→i=j:=by decide
theorem Xbc(s:Tx)(i j:Nat)(h1:i≤j)(h2:j≤s.length)(σ:List ABlk):YB [.str s,iv i,iv j] σ=.ok (.str ((s.take j).drop i)) [] []:=by
 show (bif Nat.ble i j&&Nat.ble j s.length then SRes.ok (.str ((s.take j).drop i)) [] [] else .stop)=_;simp[h1,h2,Nat.ble_eq_true_of_le]
theorem YdA(ib:Bool)(a b:Tx)(h:a.length+b.length≤1099511627776)(σ:List ABlk):Yn .add ib [.str a,.str b] σ=.ok (.str (a++b)) [] []:=by
 show (bif Nat.ble (a.length+b.length) 1099511627776 then SRes.ok (.str (a++b)) [] [] else .stop)=_;rw[Nat.ble_eq_true_of_le h]; rfl
def XF:Nat→Tx
 |0=>[120]
 |i+1=>120::itoaT i
def QaD(cs:List Cd):Nat→Nat→Tx
 |0,i=>XF i
 |n+1,i=>if (cs.any λc=>c.name==XF i)=true then QaD cs n (i+1) else XF i
def ZbB(cs:List Cd):Tx:=QaD cs 62 0
theorem ZbC(i:Nat):(itoaT i).length≤2:=by unfold itoaT; split<;>simp
theorem Zbh(i:Nat):(XF i).length≤3:=by
 cases i<;>simp_all [XF,ZbC]
theorem ZaY(cs:List Cd):∀(n i:Nat),(QaD cs n i).length≤3
 |0,i=>Zbh i
 |n+1,i=>by
  unfold QaD;split
  ·exact ZaY cs n (i+1)
  ·exact Zbh i
theorem Xcj{i j:Nat}(hi:i≤63)(hj:j≤63)(h:XF i=XF j):i=j:=by
 have h0:∀k,itoaT k≠[]:=by intro k; unfold itoaT; split<;>simp
 cases i with
 |zero=>
  cases j<;>simp_all [XF]
 |succ i=>
  cases j with
  |zero=>simp_all [XF]
  |succ j=>
   grind [XF,Zc4]
theorem QcT:∀(l m:List Tx),l.Nodup→(∀x∈l,x∈m)→l.length≤m.length
 |[],_,_,_=>by simp
 |a::l,m,hn,hs=>by
  have ha:=hs a (by simp);rw[List.nodup_cons] at hn;have:=QcT l (m.erase a) hn.2 (λx hx=>(List.mem_erase_of_ne (λe=>hn.1 (by rw[←e]; exact hx))).2 (hs x (by simp[hx])))
  grind
theorem Qc4{cs:List Cd}{i:Nat}(hi:i≤62)(h:∀k<i,(cs.any λc=>c.name==XF k)=true):i≤cs.length:=by
 have hn:((List.range i).map XF).Nodup:=by
  rw[List.Nodup,List.pairwise_map];refine List.Pairwise.imp_of_mem ?_ List.nodup_range;intro a b ha hb hne e;rw[List.mem_range] at ha hb;exact hne (Xcj (by omega) (by omega) e)
 have:=QcT _ (cs.map Cd.name) hn (λx hx=>by
  grind)
 simpa using this
def newC(cs:List Cd)(l:List Ef):Cd:=⟨ZbB cs,false,0,0,0,0,0,0,l,[],[],0⟩
def fitsB(b:Bk)(l:List Ef):Bool:=decide ((cdsChk (b.cards++[newC b.cards l])).1=0)
@[reducible] def newR(t:Tx)(l:List Ef):List AVal:=[.str t,.bool false,iv 0,iv 0,iv 0,iv 0,iv 0,iv 0,efV l,.nils,.nils,iv 0]
theorem Ydp{h0:Hp}{rd:List Nat}(cs:List Cd)(l:List Ef):BorL h0 rd (newR (ZbB cs) l) (cdC (newC cs l)):=
 .cons (Bor.ro rfl) <| .cons (Bor.ro rfl) <| .cons (Bor.ro rfl) <| .cons (Bor.ro rfl) <| .cons (Bor.ro rfl) <| .cons (Bor.ro rfl) <| .cons (Bor.ro rfl) <| .cons (Bor.ro rfl) <| .cons (Bor.ro rfl) <|
  .cons (Bor.weak (Bor.ro rfl) (λM u d=>d.nils_rsl 14)) <| .cons (Bor.weak (Bor.ro rfl) (λM u d=>d.nils_rsl 14)) <| .cons (Bor.ro rfl) .nil
theorem Ydj(m:Nat→Option Nat)(c:Cd):(cdC c).map (AVal.ren m)=cdC c:=rfl
theorem Ydq(m:Nat→Option Nat)(l:List Cd):(ABlk.rows 12 (l.map cdC)).mapV (AVal.ren m)=.rows 12 (l.map cdC):=by
 simp[Ydj]
attribute [local irreducible] Ans.rd Ans.pu Ans.wr Ans.dr Ans.gr Ans.gw Ans.gl Ans.gd Ans.opt joinK W
set_option maxHeartbeats 4000000
theorem c504(i:Nat)(h:i<63):PC 113 [iv i] (.str (itoaT i)):=by
 refine Qb hP g113.ok rfl rfl ?_;rw[H1.e]; unfold g113; dsimp only;refine Za (v:=.bool (decide ((i:Int)<10))) rfl (Zb (λq=>?_) (λq=>?_))
 ·have q:i<10:=by have:=of_decide_eq_true q; omega
  refine Za (Yh ..) ?_;rw[Qd (n:=i) (by omega)];refine Za (Xbc dg36 i (i+1) (by omega) (by show i+1≤36; omega) _) ?_;rw[Xdk i q]
 ·have q:¬i<10:=by have:=of_decide_eq_false q; omega
  refine Za (ZdC ..) (Za (ZdC ..) (Za (Yh ..) ?_));have w1:IntKind.i64.wrap ((i:Int)*2)=((i*2:Nat):Int):=by grind [IntWalk.i64_in]
  rw[w1];have w2:IntKind.i64.wrap (((i*2:Nat):Int)+2)=((i*2+2:Nat):Int):=by grind [IntWalk.i64_in]
  rw[w2];refine Za (Xbc dg100 (i*2) (i*2+2) (by omega) (by show i*2+2≤200; omega) _) ?_;rw[Qc0 i h (by omega)]
theorem c296i(i:Nat)(h:i<63):PC 30 [iv i] (.str (itoaT i)):=by
 refine Qb hP g30.ok rfl rfl ?_;rw[H1.e]; unfold g30; dsimp only;refine Xg hP (f:=51) rfl g51.ok rfl ?_;rw[H1.e]; unfold g51; dsimp only;refine Xg hP (f:=79) rfl g79.ok rfl ?_;rw[H2.e]; unfold g79; dsimp only;refine Za rfl (Qc (Za (v:=.bool (decide ((0:Int)≤(i:Int)))) rfl ?_));rw[show decide ((0:Int)≤(i:Int))=true from decide_eq_true (by omega)];refine Ya (Za rfl (Ya (Za (v:=.bool (decide ((i:Int)<100))) rfl ?_)));rw[show decide ((i:Int)<100)=true from decide_eq_true (by omega)];exact Za rfl (Qc (Xb (c504 i h) rfl g113.ok.plain rfl rfl))
theorem c292c(l:List Cd)(hl:l.length≤1000000000):NCall prog GL0 26 [cdV l] (.sl 0 0 l.length false) [.rows 12 (l.map cdC)]:=by
 cases l with
 |nil=>
  refine NCall.case1 ?_ ?_
  ·refine Qz hP g26.ok rfl ?_;rw[H1.e]; unfold g26; dsimp only;exact Za rfl (Qc (Tidy.ghost 12 (.inl rfl)))
  ·refine Qz hP g26.ok rfl ?_;rw[H1.e]; unfold g26; dsimp only;exact Za rfl (Yd (Za rfl (Yc rfl rfl (Tidy.trans (Tidy.weak λM c u d=>YS (.rsl true true 12 []) ⟨M,c⟩ u d) (Tidy.ghost 12 (.inr rfl))))))
 |cons x l=>
  refine Qz hP g26.ok rfl ?_;rw[H1.e]; unfold g26; dsimp only;refine Za rfl (Yd (Za rfl ?_));refine Yc (v:=.sl 0 0 (x :: l).length false) (rd:=[]) (up:=[(0,.rows 12 ((x :: l).map cdC))]) ?_ rfl (Tidy.refl _ _);show (match Yr 12 [] (cdV (x :: l)) with
   |some (ys,rd)=>bif Xx ys&&Nat.ble ((2*(([]:List (List AVal)).length+ys.length)+192)*152) (2 ^ 48) then SRes.ok (.sl 0 0 (([]:List (List AVal)).length+ys.length) false) rd ([]++[(0,ABlk.rows 12 ([]++ys))]) else SRes.stop
   | none=>.stop)=_
  have h1:Yr 12 [] (cdV (x::l))=some ((x::l).map cdC,[]):=rfl;have h2:∀q:List Cd,Xx (q.map cdC)=true:=by
   intro q; induction q with
   |nil=>rfl
   |cons y q ih=>simp only[List.map_cons,Xx,ih,Bool.and_true]; rfl
  have h3:Nat.ble ((2*(([]:List (List AVal)).length+((x::l).map cdC).length)+192)*152) (2 ^ 48)=true:=Nat.ble_eq_true_of_le (by grind)
  grind
theorem w292{l:List Cd}(hl:l.length≤1000000000){σ:List ABlk}{K:AVal→List ABlk→Prop}(hK:K (.sl σ.length 0 l.length false) (σ++[.rows 12 (l.map cdC)])):VV.call (.call 26) [cdV l] σ K:=by
 refine Ybl (c292c l hl) rfl g26.ok.plain rfl ?_;simp only[Yy,List.map_cons,List.map_nil,Ydq,AVal.ren,YH,Nat.zero_add];exact hK
theorem c295c(c:Cd)(t:Tx):PC 29 [.agg (cdC c),.rptr [.str t] 0] (.bool (c.name==t)):=by
 refine Qb hP g29.ok rfl rfl ?_;rw[H2.e]; unfold g29; dsimp only;exact Yc rfl rfl (Za rfl (Za (v:=.str c.name) rfl (Za (v:=.str t) (ldr rfl) (Za rfl rfl))))
theorem c294c(l:List Cd)(hl:l.length≤1000000000)(t:Tx):PC 28 [cdV l,.func (.func 29) [] [.rptr [.str t] 0]] (.bool (l.any λc=>c.name==t)):=by
 refine Qb hP g28.ok rfl rfl ?_;rw[H2.e]; unfold g28; dsimp only;refine Xb (c259 l (by rw[bigE]; omega) 29 [] [.rptr [.str t] 0] g29.ok.plain (λc=>c.name==t) (λc _=>c295c c t) (λc=>rfl)) rfl g50.ok.plain rfl ?_;refine Za (Yah ..) ?_;simp[QaP]
theorem c202(b:Bk)(hf:bkFit b=true)(hsm:Qj b.cards)(hc60:b.cards.length≤61)(l:List Ef)(hl:lsFit l=true)(hP1:(efPs l).length≤500000000):PC 17 [bkV b,efV l] (.bool (fitsB b l)):=by
 have hcs:XG b.cards=true:=by
  simp_all [bkFit]
 have hfit:XG (b.cards++[newC b.cards l])=true:=by
  simp only[XG,Bool.and_eq_true,decide_eq_true_eq,bigE] at hcs ⊢;refine⟨by simp; omega,?_⟩;rw[List.all_append,hcs.2];have:=ZaY b.cards 62 0;simp only[List.all_cons,List.all_nil,Bool.and_true,Bool.true_and,cdFit,newC,ZbB,bigE,Bool.and_eq_true,decide_eq_true_eq];exact⟨by omega,hl,rfl,rfl⟩
 have hsm2:Qj (b.cards++[newC b.cards l]):=by
  intro c hc;rcases List.mem_append.1 hc with hc|hc
  ·exact hsm c hc
  simp_all [cdP,newC,efPs]
 have h293:=c180' _ hfit hsm2;refine Qb hP g17.ok rfl rfl ?_;rw[H2.e]; unfold g17; dsimp only;refine Yc (v:=.bptr 0 0) (rd:=[]) (up:=[(0,.box (bkC b))]) rfl rfl (Za rfl (Za (v:=cdV b.cards) (ld (row:=bkC b) rfl rfl) (w292 (by omega) ?_)));refine Za (v:=iv b.cards.length) rfl (Za (Xd ..) ?_);rw[show decide ((b.cards.length:Int)=240)=false from decide_eq_false (by omega)];refine Yd (Yc (v:=.bptr 2 0) (rd:=[]) (up:=[(2,.box [.str []])]) rfl rfl (Yc (v:=.junk) (rd:=[]) (up:=[(2,.box [.str [120]])]) rfl rfl ?_));have hrows:∀r∈b.cards.map cdC,roL r=true:=by
  intro r hr;obtain⟨c,_,rfl⟩:=List.mem_map.1 hr;rfl
 refine Xj (ι:=Nat) (λi vs τ=>vs=[iv i]∧i≤61∧τ=[.box (bkC b),.rows 12 (b.cards.map cdC),.box [.str (XF i)]]∧(∀k<i,(b.cards.any λc=>c.name==XF k)=true)∧ZbB b.cards=QaD b.cards (62-i) i) (λi=>62-i) 0 ⟨rfl,by omega,rfl,by omega,rfl⟩ ?_;rintro i vs τ again ⟨rfl,hi,rfl,hall,hfr⟩ hag;have e61:62-i=(61-i)+1:=by omega
 rw[e61,QaD] at hfr;refine Za rfl ?_;refine ZC (rd:=[1,2]) (c294c b.cards (by omega) (XF i)) rfl g28.ok.plain (.cons (Bor.own (σ:=[.box (bkC b),.rows 12 (b.cards.map cdC),.box [.str (XF i)]]) rfl (by simp) (by simp) (Yax _ _ (by simp)) hrows) (.cons (Bor.func .nil (.cons (Bor.box (row:=[.str (XF i)]) rfl (by simp) (.cons (Bor.ro rfl) .nil)) .nil)) .nil)) rfl ?_;refine Zb (λh=>?_) (λh=>?_)
 ·rw[if_pos h] at hfr;have hall':∀k<i+1,(b.cards.any λc=>c.name==XF k)=true:=by
   intro k hk;by_cases e:k=i
   ·rw[e]; exact h
   ·exact hall k (by omega)
  have hle:=Qc4 (cs:=b.cards) (i:=i+1) (by omega) hall';refine Xb (c296i i (by omega)) rfl g30.ok.plain rfl (Za (YdA _ [120] (itoaT i) (by have:=ZbC i; simp; omega) _) (Yc (v:=.junk) (rd:=[]) (up:=[(2,.box [.str (XF (i+1))])]) rfl rfl (Za (Yh ..) ?_)));rw[Qd (n:=i) (by omega)]
  grind
 ·rw[if_neg (by simp[h])] at hfr;refine Za (v:=.str (XF i)) (ld (row:=[.str (XF i)]) rfl rfl) (Za (v:=.agg (newR (XF i) l)) rfl (Yc (v:=.sl 3 0 1 true) (rd:=[]) (up:=[(3,.rows 12 [newR (XF i) l])]) rfl rfl ?_));refine Yc (XaO 12 152 (b:=1) (c:=3) (len:=b.cards.length) (rs:=b.cards.map cdC) (row:=newR (XF i) l) rfl rfl (by simp) rfl (by omega)) rfl ?_;rw[←hfr];refine ZC (rd:=[4]) h293 rfl g27.ok.plain (.cons (Bor.weak (y:=.rsl false false 12 ((b.cards++[newC b.cards l]).map cdC)) (Bor.sl (rs:=b.cards.map cdC++[newR (ZbB b.cards) l]) rfl (by simp) (by simp) (by simp) (λk row row' q1 q2=>?_)) (λM u d=>d.rsl_weak)) .nil) rfl ?_
  ·rw[Nat.zero_add] at q1;by_cases hk:k<b.cards.length
   ·grind [BorL.ro]
   grind [Ydp]
  ·refine Za (v:=iv (cdsChk (b.cards++[newC b.cards l])).1) rfl (Za (Xd ..) ?_);rfl
end Go.Ah.Tz
end
section
namespace Go.Ah.Tz
open Go.Proofs.Tryz (prog)
set_option maxRecDepth 100000
theorem YbR{e:Int}{b:Bk}{s:St}(hp:s.phase=1)(ha:s.attack.length=0):mayR e b s true=(mayR e b { s with phase:=0 } false&&s.struck):=by
 rw[Bool.eq_iff_iff,Bool.and_eq_true];constructor
 ·intro h; exact⟨ZbE h hp ha,Qa0 h hp⟩
 ·rintro⟨h,hst⟩;simp only[mayR,Bool.and_eq_true] at h ⊢;obtain⟨a1,a2,a3,a4,a5,a6,a7,a8,a9,b1,b2,b3,b4,h⟩:=h;have ha':=List.length_eq_zero_iff.1 ha;refine⟨a1,a2,a3,a4,a5,by simp[hp],by simp[hp],a8,a9,?_,b2,b3,b4,?_⟩
  ·rw[hp]; exact b1
  ·rw[if_neg (by simp[hp]),ha']; simp[hst,attOk]
theorem QbX{cs:List Cd}:∀ {l pre:List Cd},(cdsGo cs pre l).1=0→∀c∈l,cdOk cs c=true
 |c::l,pre,h,x,hx=>by
  unfold cdsGo at h;split at h
  ·omega
  split at h
  ·rename_i hc;simp only[List.mem_cons] at hx;rcases hx with rfl|hx
   ·exact hc
   ·exact QbX h x hx
  omega
theorem Qcr{cs:List Cd}(h:(cdsChk cs).1=0):∀c∈cs,cdOk cs c=true:=by
 grind [cdsChk,QbX]
theorem YcE{b:Bk}{l:List Ef}(h:fitsB b l=true):efsOk (b.cards++[newC b.cards l]) true 1 l=true∧(efPs l).length≤200:=by
 have hc:=Qcr (of_decide_eq_true h) (newC b.cards l) (by simp);simp only[cdOk,Bool.and_eq_true,decide_eq_true_eq,lstOk] at hc
 grind [cdP,newC,XcY]
def Y3(b:Bk)(sd fu:Int)(l:List Ef):Bool:=(((decide (sd<0)||decide (sd>1))||decide (fu<0))||decide (fu>1000)) || !fitsB b l
def LW(l:List Ev)(lv:AVal)(σ:List ABlk):Prop:=(l=[]∧lv=.nils)∨(l≠[]∧∃c rows,lv=.sl c 0 l.length false∧hget σ c=.rows 7 rows∧EvRs rows l)
theorem LV.lw{rb:Nat}{l:List Ev}{lv:AVal}{σ:List ABlk}(h:LV rb l lv σ):LW l lv σ:=by
 rcases h with h|⟨h0,c,rows,_,h1,h2,h3⟩
 ·exact .inl h
 ·exact .inr ⟨h0,c,rows,h1,h2,h3⟩
attribute [local irreducible] Ans.rd Ans.pu Ans.wr Ans.dr Ans.gr Ans.gw Ans.gl Ans.gd Ans.opt joinK W
set_option maxHeartbeats 8000000
theorem c150P(s:St)(hs:StLe 1000000000 s):PC 18 [stV s] (stV s):=
 Qb6 (c59 s hs) ⟨List.range 11,(SB.copy (σ:=stB s) (n:=0) (λi x h=>by rw[Nat.zero_add]; exact Qp h) (λi hi=>by simp_all)).agg⟩
theorem YcN(b:Bk)(hf:bkFit b=true)(hsm:Qj b.cards)(hc60:b.cards.length≤61)(s:St)(hs:StLe 1000000000 s)(sd tg fu:Int)(l:List Ef)(hl:lsFit l=true)(hPl:(efPs l).length≤500000000)(N C:Nat)(hT:TB N s)(hN:N+12000≤1000000)(hC:Zk s≤C)(hC2:C+200≤1000000){σ:List ABlk}{K:AVal→List ABlk→Prop}
 (hE1:mayR (bkR b).1 b s true=false→∀σ',Agr σ σ' []→K (.tup [.agg zStC,.nils,iv 0,iv 170]) σ')
 (hE2:mayR (bkR b).1 b s true=true→Y3 b sd fu l=true→∀σ',Agr σ σ' []→K (.tup [.agg zStC,.nils,iv 0,iv 2]) σ')
 (hK:mayR (bkR b).1 b s true=true→Y3 b sd fu l=false→∀ σ' lv,Agr σ σ' []→LW (runs b sd tg l s fu).2.2.2 lv σ'→(∀ k n,lv=.sl k 0 n false→σ.length≤k) →
   K (.tup [stV (runs b sd tg l s fu).2.1,lv,iv (runs b sd tg l s fu).2.2.1,iv (runs b sd tg l s fu).1]) σ') :
  g6.u VV [bkV b,stV s,.agg [iv sd,iv tg],efV l,iv fu] σ K:=by
 rw[H5.e]; unfold g6; dsimp only;refine Yc (v:=.bptr σ.length 0) (rd:=[]) (up:=[(σ.length,.box (bkC b))]) rfl (Xl σ _) ?_;have a0:=Agr.app1 σ (.box (bkC b));have b0:=Qf σ (.box (bkC b));have len0:(σ++[ABlk.box (bkC b)]).length=σ.length+1:=by simp
 generalize σ++[ABlk.box (bkC b)]=σ0 at *;refine Yc (v:=.bptr σ0.length 0) (rd:=[]) (up:=[(σ0.length,.box (stC s))]) rfl (Xl σ0 _) ?_;have a1:=a0.app' (.box (stC s));have b1:=Zf [ABlk.box (stC s)] b0 (by simp);have s1:=Qf σ0 (.box (stC s));have len1:(σ0++[ABlk.box (stC s)]).length=σ0.length+1:=by simp
 generalize σ0++[ABlk.box (stC s)]=σ1 at *;refine Yc (v:=.bptr σ1.length 0) (rd:=[]) (up:=[(σ1.length,.box [iv sd,iv tg])]) rfl (Xl σ1 _) ?_;have a2:=a1.app' (.box [iv sd,iv tg]);have b2:=Zf [ABlk.box [iv sd,iv tg]] b1 (by simp);have s2:=Zf [ABlk.box [iv sd,iv tg]] s1 (by simp);have v2:=Qf σ1 (.box [iv sd,iv tg]);have len2:(σ1++[ABlk.box [iv sd,iv tg]]).length=σ1.length+1:=by simp
 generalize σ1++[ABlk.box [iv sd,iv tg]]=σ2 at *;refine Yc (v:=.bptr σ2.length 0) (rd:=[]) (up:=[(σ2.length,.box zStC)]) rfl (Xl σ2 _) ?_;have a3:=a2.app' (.box zStC);have b3:=Zf [ABlk.box zStC] b2 (by simp);have s3:=Zf [ABlk.box zStC] s2 (by simp);have v3:=Zf [ABlk.box zStC] v2 (by simp);have z3:=Qf σ2 (.box zStC);have len3:(σ2++[ABlk.box zStC]).length=σ2.length+1:=by simp
 generalize σ2++[ABlk.box zStC]=σ3 at *;refine Za (v:=stV s) (ld s3 rfl) (Yx (row:=stC s) (row':=stC s) rfl rfl rfl ?_);have a4:=a3.app' (.box (stC s));have b4:=Zf [ABlk.box (stC s)] b3 (by simp);have s4:=Zf [ABlk.box (stC s)] s3 (by simp);have v4:=Zf [ABlk.box (stC s)] v3 (by simp);have z4:=Zf [ABlk.box (stC s)] z3 (by simp);have p4:=Qf σ3 (.box (stC s));have len4:(σ3++[ABlk.box (stC s)]).length=σ3.length+1:=by simp
 generalize σ3++[ABlk.box (stC s)]=σ4 at *;refine Za rfl (Za (v:=iv8 s.phase) (ld s4 rfl) (Za (v:=.bool (s.phase==1)) rfl ?_));refine Zbu (v1:=.bptr σ0.length 5) (v2:=rowV s.attack) (v3:=iv s.attack.length) (d:=((s.attack.length:Int)==0)) (q3:=[]) rfl (ld (row:=stC s) s4 rfl) (by simp[Qs]) rfl ?_;refine Zi λk' ek=>?_;have hend:∀(t:St) (τ:List ABlk),StLe 1000000000 t→Agr σ τ []→hget τ σ.length=.box (bkC b)→hget τ σ0.length=.box (stC s)→hget τ σ1.length=.box [iv sd,iv tg]→hget τ σ2.length=.box zStC→hget τ σ3.length=.box (stC t) →
   (mayR (bkR b).1 b t false && !(decide (t.phase≠s.phase) && !s.struck))=mayR (bkR b).1 b s true→k' [] τ:=by
  intro t τ hts at_ bt st vt zt pt hmay;have ltz:=Xh zt (by simp);rw[ek]; clear ek;have c55':=c55 b hf hsm t hts;refine Za (v:=bkV b) (ld bt rfl) (Za (v:=stV t) (ld pt rfl) (Xb c55' rfl g16.ok.plain rfl ?_));refine Za (Qaa ..) ?_;have hcond:∀K':AVal→Prop,K' (.bool (!mayR (bkR b).1 b s true)) →
    VV.gr (.bool (decide ((bif mayR (bkR b).1 b t false then (0:Int) else 170)≠0))) false (λk=>VV.rd (Ze 2 [.bptr σ3.length 0] τ) k) λt34=>
    VV.gr (.bool (decide ((bif mayR (bkR b).1 b t false then (0:Int) else 170)≠0))) false (λk=>VV.rd (Xk false 1 [t34] τ) k) λt35=>
    VV.gr (.bool (decide ((bif mayR (bkR b).1 b t false then (0:Int) else 170)≠0))) false (λk=>VV.rd (Ze 2 [.bptr σ0.length 0] τ) k) λt36=>
    VV.gr (.bool (decide ((bif mayR (bkR b).1 b t false then (0:Int) else 170)≠0))) false (λk=>VV.rd (Xk false 1 [t36] τ) k) λt37=>
    VV.gr (.bool (decide ((bif mayR (bkR b).1 b t false then (0:Int) else 170)≠0))) false (λk=>VV.rd (Yn .neq false [t35,t37] τ) k) λt38=>
    VV.gr (.bool (decide ((bif mayR (bkR b).1 b t false then (0:Int) else 170)≠0))) false (λk=>VV.rd (Z5 [t38] τ) k) λt39=>
    VV.gr t39 true (λk=>VV.rd (Ze 3 [.bptr σ0.length 0] τ) k) λt40=>
    VV.gr t39 true (λk=>VV.rd (Xk false 1 [t40] τ) k) λt41=>
    VV.gr t39 true (λk=>VV.rd (Za9 .not [t41] τ) k) λt42=>
    VV.gr (.bool (decide ((bif mayR (bkR b).1 b t false then (0:Int) else 170)≠0))) false (λk=>VV.rd (Xm [t39,t42,(.bool false)] τ) k) λt43=>
    VV.rd (Xm [(.bool (decide ((bif mayR (bkR b).1 b t false then (0:Int) else 170)≠0))),(.bool true),t43] τ) K':=by
   intro K' hK';rw[←hmay] at hK';rcases YBE (mayR (bkR b).1 b t false) with q|q
   ·rw[q] at hK' ⊢;refine Ya (Za rfl (Ya (Za (v:=iv8 t.phase) (ld pt rfl) (Ya (Za rfl (Ya (Za (v:=iv8 s.phase) (ld st rfl) (Ya (Za (Qaa ..) (Ya (Za rfl ?_)))))))))));rcases YBE (decide (t.phase≠s.phase)) with u|u
    ·rw[u] at hK' ⊢;refine Ya (Za rfl (Ya (Za (v:=.bool s.struck) (ld st rfl) (Ya (Za rfl (Ya (Za rfl (Za rfl ?_))))))));simpa using hK'
    ·rw[u] at hK' ⊢;refine Qa rfl (Qa rfl (Qa rfl (Ya (Za rfl (Za rfl ?_)))));simpa using hK'
   ·rw[q] at hK' ⊢;refine Qa rfl (Qa rfl (Qa rfl (Qa rfl (Qa rfl (Qa rfl ?_)))));refine Zc rfl (Zc rfl (Zc rfl (Qa rfl (Za rfl ?_))));simpa using hK'
  refine hcond _ ?_;clear hcond;rcases YBE (mayR (bkR b).1 b s true) with hm|hm
  rotate_left
  ·rw[hm];refine Qc (Za (v:=.agg zStC) rfl (Yc (stv (row':=zStC) zt rfl rfl rfl) (Yj _ ltz) (Qi (XD ltz rfl) ?_)));exact hE1 hm _ (at_.setNew (by omega) _)
  rw[hm];refine Yd ?_;refine Za rfl (Za (v:=iv sd) (ld vt rfl) (Za (v:=.bool (decide (sd<0))) rfl ?_));refine QaK (d:=decide (sd>1)) (v1:=.bptr σ1.length 0) (v2:=iv sd) (λ_=>rfl) (λ_=>ld vt rfl) (λ_=>rfl) ?_;refine X0 (d:=decide (fu<0)) (v1:=iv fu) (λ_=>rfl) (λ_=>rfl) ?_;refine X0 (d:=decide (fu>1000)) (v1:=iv fu) (λ_=>rfl) (λ_=>rfl) ?_;have hbad:Y3 b sd fu l=true→∀K':AVal→Prop,True:=λ_ _=>trivial;have hlast:∀K':AVal→List ABlk→Prop,K' (.bool (Y3 b sd fu l)) τ →
    VV.gr (.bool (((decide (sd<0)||decide (sd>1))||decide (fu<0))||decide (fu>1000))) false (λk=>VV.rd (Xk true 2 [.bptr σ.length 0] τ) k) λt64=>
    VV.gr (.bool (((decide (sd<0)||decide (sd>1))||decide (fu<0))||decide (fu>1000))) false (λk=>VV.rd (Z5 [efV l] τ) k) λt65=>
    VV.gw (.bool (((decide (sd<0)||decide (sd>1))||decide (fu<0))||decide (fu>1000))) false (λk=>VV.call (.call 17) [t64,t65] τ k) τ λt66 σ=>
    VV.gr (.bool (((decide (sd<0)||decide (sd>1))||decide (fu<0))||decide (fu>1000))) false (λk=>VV.rd (Za9 .not [t66] σ) k) λt67=>
    VV.rd (Xm [(.bool (((decide (sd<0)||decide (sd>1))||decide (fu<0))||decide (fu>1000))),(.bool true),t67] σ) (λv=>K' v σ):=by
   intro K' hK';unfold Y3 at hK';rcases YBE (((decide (sd<0)||decide (sd>1))||decide (fu<0))||decide (fu>1000)) with q|q
   ·rw[q] at hK' ⊢;exact Qa rfl (Qa rfl (Yb rfl (Qa rfl (Za rfl hK'))))
   ·rw[q] at hK' ⊢;refine Ya (Za (v:=bkV b) (ld bt rfl) (Ya (Za rfl (Xa ?_))));refine Xb (c202 b hf hsm hc60 l hl hPl) rfl g17.ok.plain rfl (Ya (Za rfl (Za rfl hK')))
  refine hlast _ ?_;clear hlast hbad;rcases YBE (Y3 b sd fu l) with hb|hb
  ·rw[hb];refine Qc (Za (v:=.agg zStC) rfl (Yc (stv (row':=zStC) zt rfl rfl rfl) (Yj _ ltz) (Qi (XD ltz rfl) ?_)));exact hE2 hm hb _ (at_.setNew (by omega) _)
  rw[hb];refine Yd ?_;have hb':=hb;unfold Y3 at hb';simp only[Bool.or_eq_false_iff,decide_eq_false_iff_not,Bool.not_eq_false'] at hb';obtain⟨⟨⟨⟨h1,h2⟩,h3⟩,h4⟩,h5⟩:=hb';have hbk:=(YM.1 hm).1;have hM:=(YM.1 hm).2;obtain⟨hefs,hef2⟩:=YcE h5;refine Zg (v:=bkV b) (ld bt rfl) (Qh _) (Zg (v:=stV s) (ld st rfl) (Qh _) (Xf (c150P s hs) rfl g18.ok.plain rfl (Zg (v:=.agg [iv sd,iv tg]) (ld vt rfl) (Qh _) (Zd (v:=.agg (rnC b s sd tg .nils fu .nilf)) rfl ?_))));refine Zg (v:=.bptr τ.length 0) (rd:=[]) (up:=[(τ.length,.box (rnC b s sd tg .nils fu .nilf))]) rfl (Xl τ _) ?_;have hbt:=Xh bt (by simp);have hst:=Xh st (by simp);have hvt:=Xh vt (by simp);have w1:τ.length≠σ.length:=by omega
  have w2:τ.length≠σ0.length:=by omega
  have w3:τ.length≠σ1.length:=by omega
  have w4:τ.length≠σ2.length:=by omega
  refine Xr (by rfl) ?_;have at2:=at_.app' (.box (rnC b s sd tg .nils fu .nilf));have rt2:=Qf τ (.box (rnC b s sd tg .nils fu .nilf));have zt2:=Zf [ABlk.box (rnC b s sd tg .nils fu .nilf)] zt (by simp);have lent2:(τ++[ABlk.box (rnC b s sd tg .nils fu .nilf)]).length=τ.length+1:=by simp
  generalize τ++[ABlk.box (rnC b s sd tg .nils fu .nilf)]=τ2 at *;refine Xg hP (f:=19) rfl g19.ok rfl ?_;refine run_w b (b.cards++[newC b.cards l]) sd tg (by omega) hf hsm hbk l τ2 τ.length s fu .nilf .nils [] N C 1 _ rt2 (.inl ⟨rfl,rfl⟩) hl hefs hef2 ⟨hM,hT,hC⟩ (by omega) (by omega) (by simp; omega) (by omega) (by omega) (λv τ3 hD=>?_);obtain⟨lv',mv',p1,p2,rfl,p4⟩:=hD;rw[List.nil_append] at p4;have hK':=hK hm hb;generalize runs b sd tg l s fu=r at *;have hlvc:∃cs,True:=⟨0,trivial⟩;have hl0:LV τ.length [] AVal.nils τ2:=.inl ⟨rfl,rfl⟩;have zt3:=p1.get hl0 zt2 w4.symm;have hz3:=Xh zt3 (by simp);refine Zd rfl (Zd rfl (Zg (v:=stV r.2.1) (ld p2 rfl) (Qh _) (Zd rfl (Zd rfl (Zg (v:=lv') (ld p2 rfl) (Qh _) (Zd rfl (Zd rfl (Zg (v:=iv r.2.2.1) (ld p2 rfl) (Qh _) ?_))))))));refine Zg (stv (row':=stC r.2.1) zt3 rfl rfl rfl) (Yj _ hz3) ?_;refine Xr (by simp[Qn,Xw,Zr,YI,apart2,disj,List.range,List.range.loop,w4,w4.symm]) (Qi (XD hz3 rfl) ?_);have hnew:∀k n,lv'=.sl k 0 n false→τ2.length≤k:=by
   intro k n e;rcases p1.new k n e with h|⟨m,h⟩<;>simp_all
  have at3:Agr σ τ3 []:=⟨Nat.le_trans at2.1 p1.len,λk hk _=>by rw[p1.keep k (Nat.lt_of_lt_of_le hk at2.1) (by omega) (by intro n e; cases e),at2.2 k hk (by simp)]⟩;refine hK' _ lv' (at3.setNew (by omega) _) ?_ (λk n e=>by have:=hnew k n e; omega);have hlw:=p4.lw;rcases hlw with h|⟨g0,c,rows,g1,g2,g9993⟩
  ·exact .inl h
  ·refine .inr ⟨g0,c,rows,g1,?_,g9993⟩;have:=hnew c _ g1;rw[Ye _ (Xh g2 (by simp)) (by omega)]; exact g2
 rcases YBE ((s.phase==1)&&((s.attack.length:Int)==0)) with hq|hq
 ·rw[hq];simp only[Bool.and_eq_true,beq_iff_eq] at hq;have hlp:=Xh p4 (by simp);refine Qc (Za rfl (Yc (stv (row:=stC s) (row':=stC { s with phase:=0 }) p4 rfl rfl rfl) (Yj _ hlp) ?_));refine hend { s with phase:=0 } _ ⟨hs.attack,hs.s0,hs.s1⟩ (a4.setNew (by omega) _) (Yg b4 (by simp) (by omega)) (Yg s4 (by simp) (by omega)) (Yg v4 (by simp) (by omega)) (Yg z4 (by simp) (by omega)) (Qg _ hlp) ?_
  grind [YbR]
 ·rw[hq];refine Yd ?_;refine hend s _ hs a4 b4 s4 v4 z4 p4 ?_;rw[show decide (s.phase≠s.phase)=false from by simp];simp only[Bool.false_and,Bool.not_false,Bool.and_true];rw[Bool.eq_iff_iff]
  grind [XcI,QbD]
end Go.Ah.Tz
end
section
namespace Go.Ah
theorem Tidy.map{σ:List ABlk}{v:AVal}(φ:AVal→AVal)(hφ:∀(M:Nat→Option Obj) (c:Own) (x:AVal) (u:Value),Den M c x u→Den M c (φ x) u):Tidy σ v (σ.map (λb=>b.mapV φ)) v:=by
 intro GL w0 L g w r u d;have back:∀k blk,hp (σ.map (λb=>b.mapV φ)) k=some blk→∃b0,hp σ k=some b0∧blk=b0.mapV φ:=by
  intro k blk e;have e:(σ.map (λb=>b.mapV φ))[k]?=some blk:=e;rw[List.getElem?_map,Option.map_eq_some_iff] at e;obtain⟨b0,h1,h2⟩:=e;exact⟨b0,h1,h2.symm⟩
 refine⟨g.c,?_,d⟩;exact {
  keeps:=r.keeps
  stable:=r.stable
  src:=r.src
  globs:=r.globs
  empt:=λk e=>r.empt k (by
   have e:(σ.map (λb=>b.mapV φ))[k]?=none:=e;rw[List.getElem?_map,Option.map_eq_none_iff] at e;exact e)
  dom:=λk blk e=>by
   obtain⟨b0,h1,_⟩:=back k blk e;exact r.dom k b0 h1
  own:=λk blk cb e hl ec hv=>by
   obtain⟨b0,h1,rfl⟩:=back k blk e;rw[ABlk.mapV_live] at hl;obtain⟨q1,q2,o,q3,q4⟩:=r.own k b0 cb h1 hl ec hv;exact⟨q1,q2,o,q3,q4.mapV (p:=λ_=>True) (λx v _ d=>hφ _ _ x v d) (ABlk.all_true _)⟩
  hollow:=λk blk cb e hl ec hv=>by
   obtain⟨b0,h1,rfl⟩:=back k blk e;rw[ABlk.mapV_live] at hl;have:=r.hollow k b0 cb h1 hl ec hv;subst this;rfl
  inj:=λk k' x x' cb1 cb2 e1 e2 l1 l2 c1 c2' v1 v2 hblk=>by
   obtain⟨y,h1,rfl⟩:=back k x e1;obtain⟨y',h1',rfl⟩:=back k' x' e2;rw[ABlk.mapV_live] at l1 l2;exact r.inj k k' y y' cb1 cb2 h1 h1' l1 l2 c1 c2' v1 v2 hblk }
end Go.Ah
namespace Go.Ah.Tz
open Go.Proofs.Tryz (prog)
set_option maxRecDepth 100000
def noNil(x:AVal):AVal:=match x with
 |.nils=>.rsl false false 1 []
 |x=>x
theorem Yc5(M:Nat→Option Obj)(c:Own)(x:AVal)(u:Value)(d:Den M c x u):Den M c (noNil x) u:=by
 cases x with
 |nils=>exact d.nils_rsl 1
 |_=>exact d
theorem Zc3{rows:List (List AVal)}{l:List Ev}(h:EvRs rows l):rows.map (λr=>r.map noNil)=l.map evC:=by
 induction h with
 |nil=>rfl
 |snoc rows l e cv _ hcv ih=>
  simp only[List.map_append,List.map_cons,List.map_nil,ih]
  congr 1
  rcases hcv with rfl|⟨rfl,h⟩
  ·rfl
  ·rw[evC,h]; rfl
theorem Zdn{rows:List (List AVal)}{l:List Ev}(h:EvRs rows l):∀r∈rows,roL r=true:=by
 induction h with
 |nil=>intro r hr; simp at hr
 |snoc rows l e cv _ hcv ih=>
  intro r hr;rcases List.mem_append.1 hr with hr|hr
  ·exact ih r hr
  ·rw[List.mem_singleton] at hr; subst hr;rcases hcv with rfl|⟨rfl,_⟩<;>rfl
theorem LW.bor{l:List Ev}{lv:AVal}{σ:List ABlk}(h:LW l lv σ)(s:St)(b c:Int):∃rd,Bor (hp σ) rd (.tup [stV s,lv,iv b,iv c]) (.tup [stV s,.rsl false false 7 (l.map evC),iv b,iv c]):=by
 rcases h with ⟨rfl,rfl⟩|⟨_,k,rows,rfl,hk,hR⟩
 ·exact⟨[],Bor.tup (.cons (Bor.ro rfl) (.cons (Bor.weak (Bor.ro rfl) (λM u d=>d.nils_rsl 7)) (.cons (Bor.ro rfl) (.cons (Bor.ro rfl) .nil))))⟩
 ·refine⟨[k],Bor.tup (.cons (Bor.ro rfl) (.cons (Bor.weak (y:=.rsl false false 7 (l.map evC)) ?_ (λM u d=>d)) (.cons (Bor.ro rfl) (.cons (Bor.ro rfl) .nil))))⟩;refine Bor.weak (y:=.rsl false false 7 (l.map evC)) (Bor.weak (Bor.sl (rs:=rows) (rs':=l.map evC) (Y2 hk (by simp)) (by simp) (by rw[hR.len]; omega) (by simp) (λi row row' q1 q2=>?_)) (λM u d=>d.rsl_weak)) (λM u d=>d);rw[Nat.zero_add] at q1;have hm:=Zc3 hR;have h1:(rows.map λr=>r.map noNil)[i]?=some (row.map noNil):=by rw[List.getElem?_map,q1]; rfl
  rw[hm,q2] at h1;cases h1;have hro:=Zdn hR row (List.mem_of_getElem? q1);clear hm q2 q1
  induction row with
  |nil=>exact .nil
  |cons x row ih=>
   simp only[roL,Bool.and_eq_true] at hro;exact .cons (Bor.weak (Bor.ro hro.1) (λM u d=>Yc5 M noOwn x u d)) (ih hro.2)
section
variable (b:Bk) (hf:bkFit b=true) (hsm:Qj b.cards) (hc60:b.cards.length≤61) (s:St) (hs:StLe 1000000000 s) (sd tg fu:Int) (l:List Ef) (hl:lsFit l=true) (hPl:(efPs l).length≤500000000) (N C:Nat) (hT:TB N s) (hN:N+12000≤1000000) (hC:Zk s≤C) (hC2:C+200≤1000000)
 (hm:mayR (bkR b).1 b s true=true) (hb:Y3 b sd fu l=false)
include hf hsm hc60 hs hl hPl hT hN hC hC2 hm hb
theorem c79P:PC 6 [bkV b,stV s,.agg [iv sd,iv tg],efV l,iv fu] (.tup [stV (runs b sd tg l s fu).2.1,.rsl false false 7 ((runs b sd tg l s fu).2.2.2.map evC),iv (runs b sd tg l s fu).2.2.1,iv (runs b sd tg l s fu).1]):=by
 refine Xv hP g6.ok rfl ?_;exact YcN b hf hsm hc60 s hs sd tg fu l hl hPl N C hT hN hC hC2 (λh=>by rw[hm] at h; cases h) (λ_ h=>by rw[hb] at h; cases h) (λ_ _ σ' lv _ h _=>h.bor _ _ _)
end
end Go.Ah.Tz
end
section
namespace Go.Ah.Tz
open Go.Proofs.Tryz (prog)
set_option maxRecDepth 100000
attribute [local irreducible] Ans.rd Ans.pu Ans.wr Ans.dr Ans.gr Ans.gw Ans.gl Ans.gd Ans.opt joinK W
set_option maxHeartbeats 8000000
theorem c109x(s:St)(hs:StLe 2000000 s):PC 10 [stV s] (.bool (decide (1000<sizeN s))):=by
 have a0:=hs.attack;obtain⟨d0,h0,g0,u0,t0⟩:=hs.s0;obtain⟨d1,h1,g1,u1,t1⟩:=hs.s1;refine Qb hP g10.ok rfl rfl ?_;rw[H1.e]; unfold g10; dsimp only;refine Yc rfl rfl (Za rfl (Za rfl (Za (v:=iv s.attack.length) (rd:=[]) (by simp[Yf]) (XM 3 (Yl ?_)))));refine Za rfl (Qc (Za rfl (Za rfl (Za rfl (Yc rfl rfl (Yc rfl rfl ?_))))));refine Za rfl (Za rfl (Za (v:=iv s.s0.deck.length) (rd:=[]) (by simp[Yf]) (Za (Yh ..) ?_)));rw[IntWalk.i64_in ((s.attack.length:Int)+s.s0.deck.length) (by omega)];refine Za rfl (Za rfl (Za (v:=iv s.s0.hand.length) (rd:=[]) (by simp[Yf]) (Za (Yh ..) ?_)));rw[IntWalk.i64_in ((s.attack.length:Int)+s.s0.deck.length+s.s0.hand.length) (by omega)];refine Za rfl (Za rfl (Za (v:=iv s.s0.grave.length) (rd:=[]) (by simp[Yf]) (Za (Yh ..) ?_)));rw[IntWalk.i64_in ((s.attack.length:Int)+s.s0.deck.length+s.s0.hand.length+s.s0.grave.length) (by omega)];refine Za rfl (Za rfl (Za (v:=iv s.s0.units.length) (rd:=[]) (by simp[Yf]) (Za (Yh ..) ?_)));rw[IntWalk.i64_in ((s.attack.length:Int)+s.s0.deck.length+s.s0.hand.length+s.s0.grave.length+s.s0.units.length) (by omega)];refine Za rfl (Za rfl (Za (v:=iv s.s0.told.length) (rd:=[]) (by simp[Yf]) (Za (Yh ..) ?_)));rw[IntWalk.i64_in ((s.attack.length:Int)+s.s0.deck.length+s.s0.hand.length+s.s0.grave.length+s.s0.units.length+s.s0.told.length) (by omega)];generalize hA:(s.attack.length:Int)+s.s0.deck.length+s.s0.hand.length+s.s0.grave.length+s.s0.units.length+s.s0.told.length=A;refine Za (Yh ..) ?_;rw[show IntKind.i64.wrap (0+1)=1 from by decide];refine Yl ?_;refine Za rfl (Qc (Za rfl (Za rfl (Za rfl (Yc rfl rfl (Yc rfl rfl ?_))))));refine Za rfl (Za rfl (Za (v:=iv s.s1.deck.length) (rd:=[]) (by simp[Yf]) (Za (Yh ..) ?_)));rw[IntWalk.i64_in (A+s.s1.deck.length) (by omega)];refine Za rfl (Za rfl (Za (v:=iv s.s1.hand.length) (rd:=[]) (by simp[Yf]) (Za (Yh ..) ?_)));rw[IntWalk.i64_in (A+s.s1.deck.length+s.s1.hand.length) (by omega)];refine Za rfl (Za rfl (Za (v:=iv s.s1.grave.length) (rd:=[]) (by simp[Yf]) (Za (Yh ..) ?_)));rw[IntWalk.i64_in (A+s.s1.deck.length+s.s1.hand.length+s.s1.grave.length) (by omega)];refine Za rfl (Za rfl (Za (v:=iv s.s1.units.length) (rd:=[]) (by simp[Yf]) (Za (Yh ..) ?_)));rw[IntWalk.i64_in (A+s.s1.deck.length+s.s1.hand.length+s.s1.grave.length+s.s1.units.length) (by omega)];refine Za rfl (Za rfl (Za (v:=iv s.s1.told.length) (rd:=[]) (by simp[Yf]) (Za (Yh ..) ?_)));rw[IntWalk.i64_in (A+s.s1.deck.length+s.s1.hand.length+s.s1.grave.length+s.s1.units.length+s.s1.told.length) (by omega)];refine Za (Yh ..) ?_;rw[show IntKind.i64.wrap (1+1)=2 from by decide];refine Yl ?_;refine Za rfl (Yd (Za (Xaa ..) ?_))
 congr 1
 rw[decide_eq_decide];unfold sizeN;omega
theorem c77x(b:Bk)(hf:bkFit b=true)(s:St)(hs:StLe 2000000 s)(l:List Ef)(hl:lsFit l=true):∃q:Bool,PC 4 [bkV b,stV s,efV l] (.bool q)∧(q=false→b.cards.length≤60∧sizeN s≤1000):=by
 obtain⟨q1,h1⟩:=c133 b hf;have h2:=c109x s hs;obtain⟨q3,h3⟩:=c135 _ l (Nat.le_refl _) hl;refine⟨((decide ((b.cards.length:Int)>60)||q1)||decide (1000<sizeN s))||decide (q3>1000),?_,λh=>?_⟩
 ·refine Qb hP g4.ok rfl rfl ?_;rw[H3.e]; unfold g4; dsimp only;refine Yc (v:=.bptr 0 0) (rd:=[]) (up:=[(0,.box (bkC b))]) rfl rfl ?_;refine Yc (v:=.bptr 1 0) (rd:=[]) (up:=[(1,.box (stC s))]) rfl rfl ?_;refine Za rfl (Za rfl (Za (v:=iv b.cards.length) (rd:=[]) (by simp[Yf]) (Za (Xaa ..) ?_)));refine YbK (v1:=bkV b) (λ_=>rfl) (λ_ k hk=>Xb h1 rfl g9.ok.plain rfl hk) ?_;refine YbK (v1:=stV s) (λ_=>rfl) (λ_ k hk=>Xb h2 rfl g10.ok.plain rfl hk) ?_;exact ZcT (v1:=efV l) (u0:=iv q3) (λ_=>rfl) (λ_ k hk=>Xb h3 rfl g11.ok.plain rfl hk) (λ_=>Xaa ..) rfl
 ·simp only[Bool.or_eq_false_iff,decide_eq_false_iff_not] at h;omega
theorem c82L(s:St)(hs:StLe 2000000 s):PC 7 [stV s] (iv (Zk s)):=by
 obtain⟨d0,h0,g0,u0,t0⟩:=hs.s0;obtain⟨d1,h1,g1,u1,t1⟩:=hs.s1;refine Qb hP g7.ok rfl rfl ?_;rw[H1.e]; unfold g7; dsimp only;refine Yc rfl rfl (XM 3 (Yl ?_));refine Za rfl (Qc (Za rfl (Za rfl (Za rfl (Yc rfl rfl (Yc rfl rfl ?_))))));refine Za rfl (Za rfl (Za (v:=iv s.s0.deck.length) (rd:=[]) (by simp[Yf]) (Za (Yh ..) ?_)));rw[IntWalk.i64_in ((0:Int)+s.s0.deck.length) (by omega)];refine Za rfl (Za rfl (Za (v:=iv s.s0.hand.length) (rd:=[]) (by simp[Yf]) (Za (Yh ..) ?_)));rw[IntWalk.i64_in ((0:Int)+s.s0.deck.length+s.s0.hand.length) (by omega)];refine Za rfl (Za rfl (Za (v:=iv s.s0.grave.length) (rd:=[]) (by simp[Yf]) (Za (Yh ..) ?_)));rw[IntWalk.i64_in ((0:Int)+s.s0.deck.length+s.s0.hand.length+s.s0.grave.length) (by omega)];refine Za rfl (Za rfl (Za (v:=iv s.s0.units.length) (rd:=[]) (by simp[Yf]) (Za (Yh ..) ?_)));rw[IntWalk.i64_in ((0:Int)+s.s0.deck.length+s.s0.hand.length+s.s0.grave.length+s.s0.units.length) (by omega)];generalize hA:(0:Int)+s.s0.deck.length+s.s0.hand.length+s.s0.grave.length+s.s0.units.length=A;refine Za (Yh ..) ?_;rw[show IntKind.i64.wrap (0+1)=1 from by decide];refine Yl ?_;refine Za rfl (Qc (Za rfl (Za rfl (Za rfl (Yc rfl rfl (Yc rfl rfl ?_))))));refine Za rfl (Za rfl (Za (v:=iv s.s1.deck.length) (rd:=[]) (by simp[Yf]) (Za (Yh ..) ?_)));rw[IntWalk.i64_in (A+s.s1.deck.length) (by omega)];refine Za rfl (Za rfl (Za (v:=iv s.s1.hand.length) (rd:=[]) (by simp[Yf]) (Za (Yh ..) ?_)));rw[IntWalk.i64_in (A+s.s1.deck.length+s.s1.hand.length) (by omega)];refine Za rfl (Za rfl (Za (v:=iv s.s1.grave.length) (rd:=[]) (by simp[Yf]) (Za (Yh ..) ?_)));rw[IntWalk.i64_in (A+s.s1.deck.length+s.s1.hand.length+s.s1.grave.length) (by omega)];refine Za rfl (Za rfl (Za (v:=iv s.s1.units.length) (rd:=[]) (by simp[Yf]) (Za (Yh ..) ?_)));rw[IntWalk.i64_in (A+s.s1.deck.length+s.s1.hand.length+s.s1.grave.length+s.s1.units.length) (by omega)];refine Za (Yh ..) ?_;rw[show IntKind.i64.wrap (1+1)=2 from by decide];refine Yl (Za rfl (Yd ?_));have:A+s.s1.deck.length+s.s1.hand.length+s.s1.grave.length+s.s1.units.length=Zk s:=by unfold Zk; omega
 rw[this]; rfl
theorem c16E(h78:PC 5 [] (.bool true))(b:Bk)(hf:bkFit b=true)(hsm:Qj b.cards)(s:St)(hs:StLe 2000000 s)(sd tg fu:Int)(l:List Ef)(hl:lsFit l=true)(hPl:(efPs l).length≤500000000) :
  PC 3 [bkV b,stV s,.agg [iv sd,iv tg],efV l,iv fu] (.bool true):=by
 obtain⟨q,h77,hq⟩:=c77x b hf s hs l hl;have hs9:StLe 1000000000 s:=hs.mono (by decide);refine Qb hP g3.ok rfl rfl ?_;rw[H5.e]; unfold g3; dsimp only;refine Yc (v:=.bptr 0 0) (rd:=[]) (up:=[(0,.box (bkC b))]) rfl rfl (Yc (v:=.bptr 1 0) (rd:=[]) (up:=[(1,.box (stC s))]) rfl rfl (Yc (v:=.bptr 2 0) (rd:=[]) (up:=[(2,.box [iv sd,iv tg])]) rfl rfl ?_));refine Za (v:=bkV b) (ld (row:=bkC b) rfl rfl) (Za (v:=stV s) (ld (row:=stC s) rfl rfl) (Xb h77 rfl g4.ok.plain rfl (Zb (λ_=>Xb h78 rfl g5.ok.plain rfl rfl) (λhqf=>?_))));obtain⟨hc60,hsz⟩:=hq hqf;have hc60:b.cards.length≤61:=by omega
 unfold sizeN at hsz;have hT:TB 1000 s:=⟨by omega,by omega⟩;have hC:Zk s≤((1000:Nat):Int):=by unfold Zk; omega
 refine Za (v:=bkV b) (ld (row:=bkC b) rfl rfl) (Za (v:=stV s) (ld (row:=stC s) rfl rfl) (Za (v:=.agg [iv sd,iv tg]) (ld (row:=[iv sd,iv tg]) rfl rfl) ?_));by_cases hgood:mayR (bkR b).1 b s true=true∧Y3 b sd fu l=false;rotate_left
 ·refine Xg hP (f:=6) rfl g6.ok rfl ?_;refine YcN b hf hsm hc60 s hs9 sd tg fu l hl hPl 1000 1000 hT (by omega) hC (by omega) (λh1 σ' _=>?_) (λh1 h2 σ' _=>?_) (λh1 h2 σ' lv _ _ _=>absurd ⟨h1,h2⟩ hgood)
  ·refine Za rfl (Za rfl (Za rfl (Za rfl (Yx (row:=zStC) (row':=zStC) rfl rfl rfl ?_))));refine au ?_;refine Xb h78 rfl g5.ok.plain rfl ?_;exact Za rfl rfl
  ·refine Za rfl (Za rfl (Za rfl (Za rfl (Yx (row:=zStC) (row':=zStC) rfl rfl rfl ?_))));refine au ?_;refine Xb h78 rfl g5.ok.plain rfl ?_;exact Za rfl rfl
 obtain⟨hm,hb⟩:=hgood;have hbk:=(YM.1 hm).1;have hM:=(YM.1 hm).2;have hOk:OkS b 1000 1000 s:=⟨hM,hT,hC⟩;have hb':=hb;unfold Y3 at hb';simp only[Bool.or_eq_false_iff,decide_eq_false_iff_not,Bool.not_eq_false'] at hb';obtain⟨⟨⟨⟨hd1,hd2⟩,hf1⟩,hf2⟩,hfit⟩:=hb';have h01:sd=0∨sd=1:=by omega
 obtain⟨_,hef⟩:=YcE hfit;have cA:=c79P b hf hsm hc60 s hs9 sd tg fu l hl hPl 1000 1000 hT (by omega) hC (by omega) hm hb;obtain⟨hokA,hevl⟩:=Ybt (b:=b) (tg:=tg) h01 l fu hOk (by omega) (by omega);have hent:=XaR (b:=b) (tg:=tg) h01 l fu hOk (by omega) (by omega);have herr:=XaB b sd tg l s fu;have h82:=c82L s hs;generalize runs b sd tg l s fu=r at *;have h82':=c82L r.2.1 hokA.le;have h50:=c25 b r.2.1 hokA.le9 true _ _ (c67 b hf);rw[YM.2 ⟨hbk,hokA.may⟩] at h50;refine Xb cA rfl g6.ok.plain rfl ?_;refine Za rfl (Za rfl (Za rfl (Za rfl (Yx (row:=stC r.2.1) (row':=stC r.2.1) rfl rfl rfl ?_))));refine Za (Xd ..) ?_;rw[show decide (r.1=170)=false from decide_eq_false herr.1];refine Ya (Za rfl (Ya (Za (Xd ..) ?_)));rw[show decide (r.1=2)=false from decide_eq_false herr.2];refine Za rfl (Yd ?_);have hevl:(r.2.2.2.length:Int)≤1000000:=by omega
 generalize r.2.2.2=evs at *;refine Xj (ι:=Nat) (λi vs τ=>vs=[iv i,iv (entN (evs.take i))]∧i≤evs.length∧τ=[.box (bkC b),.box (stC s),.box [iv sd,iv tg],.box (stC r.2.1)]) (λi=>evs.length-i) 0 ⟨rfl,by omega,rfl⟩ ?_;rintro i vs τ again ⟨rfl,hi,rfl⟩ hag;refine Za (v:=iv evs.length) (rd:=[]) (by simp[Yf]) (Za (XP ..) (Zb (λh=>?_) (λh=>?_)))
 ·have h:i<evs.length:=by simpa using h
  have hb:=QbP (evs.take i);have hnext:entN (evs.take (i+1))=entN (evs.take i)+(if evs[i].kind=2 then 1 else 0):=by
   rw[Zu evs i h,Ybp]; simp[entN]
  have hlt:(evs.take i).length≤evs.length:=by simp; omega
  refine Zi λk ek=>?_;have goon:∀x,x=entN (evs.take (i+1))→k [iv x] [.box (bkC b),.box (stC s),.box [iv sd,iv tg],.box (stC r.2.1)]:=by
   rintro x rfl;rw[ek];refine Za (Yh ..) ?_;rw[Qd (n:=i) (by omega)];exact hag (i+1) _ _ (by omega) ⟨rfl,by omega,rfl⟩
  clear ek hag;refine Za (Yo _ evC false false 7 evs .i64 i h) (Za rfl (Za (v:=iv8 evs[i].kind) (ldr rfl) (Za (Xd ..) (Zb (λq=>?_) (λq=>?_)))))
  ·have q:evs[i].kind=2:=by simpa using q
   rw[if_pos q] at hnext;refine Za (Yh ..) ?_;show k [iv (IntKind.i64.wrap (entN (evs.take i)+1))] _;rw[IntWalk.i64_in _ (by omega)];exact goon _ hnext.symm
  ·have q:¬evs[i].kind=2:=by simpa using q
   rw[if_neg q] at hnext;exact goon _ (by omega)
 ·have h:i=evs.length:=by simp at h; omega
  subst h;rw[List.take_length];have hb:=QbP evs;have hbd:-1000000≤Zk s∧Zk s≤1000000:=by unfold Zk; unfold Zk at hC; omega
  refine Zg (v:=stV r.2.1) (ld (row:=stC r.2.1) rfl rfl) rfl (Xf h82' rfl g7.ok.plain rfl (Zg (v:=stV s) (ld (row:=stC s) rfl rfl) rfl (Xf h82 rfl g7.ok.plain rfl (Zd (Yh ..) ?_))));show VV.pu (Yn .eql false [iv (Zk r.2.1),iv (IntKind.i64.wrap (Zk s+entN evs))] _) _;rw[IntWalk.i64_in _ (by omega),←hent];refine Zd (Xd ..) ?_;rw[show decide (Zk r.2.1=Zk r.2.1)=true from by simp];refine Zao (Zg (v:=bkV b) (ld (row:=bkC b) rfl rfl) rfl (Zao (Zg (v:=stV r.2.1) (ld (row:=stC r.2.1) rfl rfl) rfl (Zao (Xf h50 rfl g8.ok.plain rfl (Zd rfl (Zao (Xf h78 rfl g5.ok.plain rfl (Zd rfl (Xr (by kernel_rfl) rfl))))))))))
end Go.Ah.Tz
end
section
namespace Go.Ah.Tz
open Go.Proofs.Tryz (prog)
open Go.Proofs.YtlpdgidfbmcomaaGreatDoor.Rows (uptoBulk uptoBulkAll)
variable {H:Type}
theorem QV(b:List UInt8):uptoBulk (DataW.lit (H:=H) (.string b))=b.length+1:=by simp only[uptoBulk]
theorem XS(ds:List (DataW H)):uptoBulk (.agg ds)=uptoBulkAll ds+1:=by simp only[uptoBulk]
theorem Zdj(es sp:List (DataW H)):uptoBulk (.slice es sp)=uptoBulkAll es+uptoBulkAll sp+1:=by simp only[uptoBulk]
theorem ZB(d:DataW H)(ds:List (DataW H)):uptoBulkAll (d::ds)=uptoBulk d+uptoBulkAll ds:=by simp only[uptoBulkAll]
theorem YcY(d:DataW H):1≤uptoBulk d:=by
 cases d with
 |lit l=>cases l<;>simp[uptoBulk]
 |_=>simp[uptoBulk]
def Ys(P:Program)(t:TypeId):Option (List TypeId):=match P.underlying t with
 |some (.struct fs)=>some (fs.toList.map (·.type))
 |_=>none
theorem YK{P:Program}{fuel:Nat}{t:TypeId}{xs:List AVal}{d:DataW H}{ts:List TypeId}(h:Typed P fuel t xs d)(hs:Ys P t=some ts):∃f parts ds,fuel=f+1∧xs=parts.flatten∧d=.agg ds∧Tri (Typed P f) ts parts ds:=by
 cases fuel with
 |zero=>exact h.elim
 |succ f=>
  unfold Typed at h;unfold Ys at hs;split at hs
  ·rename_i fs e;rw[e] at h;cases hs;obtain⟨parts,ds,h1,h2,h3⟩:=h;exact⟨f,parts,ds,rfl,h1,h2,h3⟩
  ·cases hs
theorem Qv{P:Program}{fuel:Nat}{t:TypeId}{xs:List AVal}{d:DataW H}{k:IntKind}(h:Typed P fuel t xs d)(hu:P.underlying t=some (.int k)):∃n,xs=[.int k n]∧(Lit.int k n).wf=true∧d=.lit (.int k n):=by
 cases fuel with
 |zero=>exact h.elim
 |succ f=>unfold Typed at h; rw[hu] at h; exact h
theorem ZbV{P:Program}{fuel:Nat}{t:TypeId}{xs:List AVal}{d:DataW H}(h:Typed P fuel t xs d)(hu:P.underlying t=some .bool):∃b,xs=[.bool b]∧d=.lit (.bool b):=by
 cases fuel with
 |zero=>exact h.elim
 |succ f=>unfold Typed at h; rw[hu] at h; exact h
theorem YbL{P:Program}{fuel:Nat}{t:TypeId}{xs:List AVal}{d:DataW H}(h:Typed P fuel t xs d)(hu:P.underlying t=some .string):∃s,xs=[.str s]∧d=.lit (.string s):=by
 cases fuel with
 |zero=>exact h.elim
 |succ f=>unfold Typed at h; rw[hu] at h; exact h
theorem QcU{P:Program}{fuel:Nat}{e:TypeId}{X:Type}(toC:X→List AVal)(m:X→Nat)(Q:X→Prop){B:Nat}(hx:∀xs (d:DataW H),Typed P fuel e xs d→uptoBulk d≤B→∃x,xs=toC x∧Q x∧m x≤uptoBulk d) :
  ∀ {rows:List (List AVal)} {es:List (DataW H)},Two (Typed P fuel e) rows es→uptoBulkAll es≤B→∃l:List X,rows=l.map toC∧(∀x∈l,Q x)∧(l.map m).sum≤uptoBulkAll es∧l.length≤uptoBulkAll es
 |[],[],_,_=>⟨[],rfl,by simp,by simp,by simp⟩
 |r::rows,d::es,h,hb=>by
  rw[ZB] at hb;obtain⟨x,e1,q1,m1⟩:=hx r d h.1 (by omega);obtain⟨l,e2,q2,s2,l2⟩:=QcU toC m Q hx h.2 (by omega);refine⟨x::l,by rw[e1,e2]; rfl,λy hy=>?_,?_,?_⟩
  ·rcases List.mem_cons.1 hy with rfl|hy
   ·exact q1
   ·exact q2 y hy
  ·rw[List.map_cons,List.sum_cons,ZB]; omega
  ·have:=YcY d;rw[List.length_cons,ZB]; omega
 |[],_::_,h,_=>h.elim
 |_::_,[],h,_=>h.elim
theorem QL{P:Program}{fuel:Nat}{t e:TypeId}{n:Nat}{xs:List AVal}{d:DataW H}{X:Type}(toC:X→List AVal)(m:X→Nat)(Q:X→Prop){B:Nat}(h:Typed P fuel t xs d)(hu:P.underlying t=some (.slice e))(hn:P.cellsOf e=n)
 (hx:∀f,f<fuel→∀xs (d:DataW H),Typed P f e xs d→uptoBulk d≤B→∃x,xs=toC x∧Q x∧m x≤uptoBulk d)(hb:uptoBulk d≤B) :
  ∃l:List X,xs=[.rsl false false n (l.map toC)]∧(∀x∈l,Q x)∧(l.map m).sum≤uptoBulk d∧l.length≤uptoBulk d:=by
 cases fuel with
 |zero=>exact h.elim
 |succ f=>
  unfold Typed at h;rw[hu] at h;subst hn;obtain⟨rows,rfl,⟨rfl,rfl⟩|⟨es,sp,rfl,h2⟩⟩:=h
  ·exact⟨[],rfl,by simp,by simp,by simp⟩
  ·rw[Zdj] at hb ⊢;obtain⟨l,rfl,q,s,k⟩:=QcU toC m Q (hx f (by omega)) h2 (by omega);exact⟨l,rfl,q,by omega,by omega⟩
theorem Xdu{P:Program}{fuel:Nat}{t e:TypeId}{xs:List AVal}{d:DataW H}(h:Typed P fuel t xs d)(hu:P.underlying t=some (.array 2 e)):∃f p q a b,fuel=f+1∧xs=p++q∧d=.agg [a,b]∧Typed P f e p a∧Typed P f e q b:=by
 cases fuel with
 |zero=>exact h.elim
 |succ f=>
  unfold Typed at h;rw[hu] at h;obtain⟨parts,ds,rfl,rfl,hl,h2⟩:=h
  match parts,hl,h2 with
  |[p,q],_,h2=>
   obtain⟨a,ds,rfl,ha,h2⟩:=h2.cons;obtain⟨b,ds,rfl,hb,h2⟩:=h2.cons
   match ds,h2 with
   |[],_=>exact⟨f,p,q,a,b,rfl,by simp,rfl,ha,hb⟩
theorem wf8{n:Int}(h:(Lit.int .i8 n).wf=true):i8B n=true:=by
 have h1:IntKind.i8.min = -128:=by decide
 have h2:IntKind.i8.max=127:=by decide
 simp only[Lit.wf,h1,h2] at h;exact h
theorem wf64{n:Int}(h:(Lit.int .i64 n).wf=true):i64B n=true:=by
 have h1:IntKind.i64.min = -9223372036854775808:=by decide
 have h2:IntKind.i64.max=9223372036854775807:=by decide
 simp only[Lit.wf,h1,h2] at h;exact h
theorem YbF{l:List Nm}(h:∀x∈l,nmFit x=true):ZaA l=true:=by
 induction l with
 |nil=>rfl
 |cons x l ih=>simp only[ZaA,Bool.and_eq_true]; exact⟨h x (List.mem_cons_self ..),ih λy hy=>h y (List.mem_cons_of_mem _ hy)⟩
theorem Qct{l:List Cn}(h:∀x∈l,cnFit x=true):QaS l=true:=by
 induction l with
 |nil=>rfl
 |cons x l ih=>simp only[QaS,Bool.and_eq_true]; exact⟨h x (List.mem_cons_self ..),ih λy hy=>h y (List.mem_cons_of_mem _ hy)⟩
theorem QaW{l:List Ef}(h:∀x∈l,efFit x=true):Xap l=true:=by
 induction l with
 |nil=>rfl
 |cons x l ih=>simp only[Xap,Bool.and_eq_true]; exact⟨h x (List.mem_cons_self ..),ih λy hy=>h y (List.mem_cons_of_mem _ hy)⟩
theorem Zbs:∀l:List Nm,(nmPs l).length=(l.map λx=>(nmP x).length).sum
 |[]=>rfl
 |x::l=>by simp only[nmPs,List.length_append,List.map_cons,List.sum_cons,Zbs l]
theorem YbY:∀l:List Cn,(cnPs l).length=(l.map λx=>(cnP x).length).sum
 |[]=>rfl
 |x::l=>by simp only[cnPs,List.length_append,List.map_cons,List.sum_cons,YbY l]
theorem QaO:∀l:List Ef,(efPs l).length=(l.map λx=>(efP x).length).sum
 |[]=>rfl
 |x::l=>by simp only[efPs,List.length_append,List.map_cons,List.sum_cons,QaO l]
theorem bigLe{n k:Nat}(h:n≤k)(hk:k≤1048576):decide (n≤big)=true:=decide_eq_true (Nat.le_trans h (Nat.le_trans hk (by decide)))
abbrev YcW:TypeId:=26
abbrev QF:TypeId:=3
abbrev XbK:TypeId:=4
abbrev Xbu:TypeId:=9
abbrev Qdv:TypeId:=53
abbrev Ydb:TypeId:=51
abbrev Xdv:TypeId:=57
abbrev Zdt:TypeId:=55
abbrev ZdJ:TypeId:=59
abbrev Zap:TypeId:=36
abbrev QdI:TypeId:=77
abbrev Qds:TypeId:=22
abbrev YdJ:TypeId:=80
abbrev Ydt:TypeId:=23
abbrev Xdb:TypeId:=78
abbrev ZcU:TypeId:=25
abbrev QdJ:TypeId:=84
abbrev Qdt:TypeId:=28
abbrev ZaL:TypeId:=27
abbrev XdN:TypeId:=30
abbrev Xdt:TypeId:=31
abbrev YcU:TypeId:=33
theorem Ydh:prog.underlying YcW=some (.int .i8):=by kernel_rfl
theorem YV:prog.underlying QF=some (.int .i64):=by kernel_rfl
theorem XbL:prog.underlying XbK=some .bool:=by kernel_rfl
theorem ZcV:prog.underlying Xbu=some .string:=by kernel_rfl
theorem YdL:prog.underlying Ydb=some (.slice Qdv):=by kernel_rfl
theorem u_cns:prog.underlying Zdt=some (.slice Xdv):=by kernel_rfl
theorem Qdb:prog.underlying Zap=some (.slice ZdJ):=by kernel_rfl
theorem u_cds:prog.underlying Qds=some (.slice QdI):=by kernel_rfl
theorem u_fos:prog.underlying Ydt=some (.slice YdJ):=by kernel_rfl
theorem XdL:prog.underlying Xdb=some (.slice Xbu):=by kernel_rfl
theorem u_ths:prog.underlying Qdt=some (.slice QdJ):=by kernel_rfl
theorem ZdL:prog.underlying ZaL=some (.slice QF):=by kernel_rfl
theorem u_sds:prog.underlying Xdt=some (.array 2 XdN):=by kernel_rfl
theorem n_nm:prog.cellsOf Qdv=4:=by kernel_rfl
theorem n_cn:prog.cellsOf Xdv=5:=by kernel_rfl
theorem n_ef:prog.cellsOf ZdJ=14:=by kernel_rfl
theorem n_cd:prog.cellsOf QdI=12:=by kernel_rfl
theorem n_fo:prog.cellsOf YdJ=7:=by kernel_rfl
theorem QdG:prog.cellsOf Xbu=1:=by kernel_rfl
theorem n_th:prog.cellsOf QdJ=4:=by kernel_rfl
theorem n_int:prog.cellsOf QF=1:=by kernel_rfl
theorem s_nm:Ys prog Qdv=some [YcW,QF,YcW,Ydb]:=by kernel_rfl
theorem s_cn:Ys prog Xdv=some [YcW,YcW,Xbu,Ydb,Zdt]:=by kernel_rfl
theorem s_ef:Ys prog ZdJ=some [YcW,YcW,Qdv,Xbu,Xdv,Zap,Zap]:=by kernel_rfl
theorem s_cd:Ys prog QdI=some [Xbu,XbK,QF,QF,QF,QF,QF,QF,Zap,Zap,Zap,QF]:=by kernel_rfl
theorem s_fo:Ys prog YdJ=some [Xbu,QF,QF,QF,Xdb,Xdb,QF]:=by kernel_rfl
theorem s_bk:Ys prog ZcU=some [Qds,Ydt]:=by kernel_rfl
theorem s_th:Ys prog QdJ=some [QF,QF,QF,XbK]:=by kernel_rfl
theorem s_sd:Ys prog XdN=some [QF,QF,QF,ZaL,ZaL,ZaL,Qdt,ZaL]:=by kernel_rfl
theorem s_st:Ys prog YcU=some [QF,QF,YcW,XbK,YcW,ZaL,QF,Xdt]:=by kernel_rfl
theorem YdK(fuel:Nat):∀xs (d:DataW H),Typed prog fuel Qdv xs d→uptoBulk d≤1048576→∃x,xs=nmC x∧nmFit x=true∧(nmP x).length≤uptoBulk d:=by
 induction fuel using Nat.strongRecOn with
 |_ fuel ih=>
 intro xs d h hb;obtain⟨f,parts,ds,rfl,rfl,rfl,r⟩:=YK h s_nm;obtain⟨p0,parts,d0,ds,rfl,rfl,h0,r⟩:=r.cons;obtain⟨p1,parts,d1,ds,rfl,rfl,h1,r⟩:=r.cons;obtain⟨p2,parts,d2,ds,rfl,rfl,h2,r⟩:=r.cons;obtain⟨p3,parts,d3,ds,rfl,rfl,h3,r⟩:=r.cons;obtain⟨rfl,rfl⟩:=r.nil;obtain⟨v0,rfl,w0,rfl⟩:=Qv h0 Ydh;obtain⟨v1,rfl,w1,rfl⟩:=Qv h1 YV;obtain⟨v2,rfl,w2,rfl⟩:=Qv h2 Ydh;simp only[XS,ZB,QV] at hb ⊢;obtain⟨l,rfl,q,s,k⟩:=QL nmC (λx=>(nmP x).length) (λx=>nmFit x=true) h3 YdL n_nm (λf' hf=>ih f' (by omega)) (show uptoBulk d3≤1048576 by omega);refine⟨.mk v0 v1 v2 l,by rw[Qx]; rfl,?_,?_⟩
 ·simp only[nmFit,bigLe k (show uptoBulk d3≤1048576 by omega),YbF q,wf8 w0,wf64 w1,Bool.and_self]
 ·simp only[nmP,List.length_cons,Zbs]; omega
theorem ty_cn(fuel:Nat):∀xs (d:DataW H),Typed prog fuel Xdv xs d→uptoBulk d≤1048576→∃x,xs=cnC x∧cnFit x=true∧(cnP x).length≤uptoBulk d:=by
 induction fuel using Nat.strongRecOn with
 |_ fuel ih=>
 intro xs d h hb;obtain⟨f,parts,ds,rfl,rfl,rfl,r⟩:=YK h s_cn;obtain⟨p0,parts,d0,ds,rfl,rfl,h0,r⟩:=r.cons;obtain⟨p1,parts,d1,ds,rfl,rfl,h1,r⟩:=r.cons;obtain⟨p2,parts,d2,ds,rfl,rfl,h2,r⟩:=r.cons;obtain⟨p3,parts,d3,ds,rfl,rfl,h3,r⟩:=r.cons;obtain⟨p4,parts,d4,ds,rfl,rfl,h4,r⟩:=r.cons;obtain⟨rfl,rfl⟩:=r.nil;obtain⟨v0,rfl,w0,rfl⟩:=Qv h0 Ydh;obtain⟨v1,rfl,w1,rfl⟩:=Qv h1 Ydh;obtain⟨v2,rfl,rfl⟩:=YbL h2 ZcV;simp only[XS,ZB,QV] at hb ⊢;obtain⟨l,rfl,q,s,k⟩:=QL nmC (λx=>(nmP x).length) (λx=>nmFit x=true) h3 YdL n_nm (λf' _=>YdK f') (show uptoBulk d3≤1048576 by omega);obtain⟨l2,rfl,q2,s2,k2⟩:=QL cnC (λx=>(cnP x).length) (λx=>cnFit x=true) h4 u_cns n_cn (λf' hf=>ih f' (by omega)) (show uptoBulk d4≤1048576 by omega);refine⟨.mk v0 v1 v2 l l2,by rw[ZF]; rfl,?_,?_⟩
 ·simp only[cnFit,bigLe k (show uptoBulk d3≤1048576 by omega),YbF q,bigLe k2 (show uptoBulk d4≤1048576 by omega),Qct q2,wf8 w0,Bool.and_self]
 ·simp only[cnP,List.length_cons,List.length_append,Zbs,YbY]; omega
theorem ty_ef(fuel:Nat):∀xs (d:DataW H),Typed prog fuel ZdJ xs d→uptoBulk d≤1048576→∃x,xs=efC x∧efFit x=true∧(efP x).length≤uptoBulk d:=by
 induction fuel using Nat.strongRecOn with
 |_ fuel ih=>
 intro xs d h hb;obtain⟨f,parts,ds,rfl,rfl,rfl,r⟩:=YK h s_ef;obtain⟨p0,parts,d0,ds,rfl,rfl,h0,r⟩:=r.cons;obtain⟨p1,parts,d1,ds,rfl,rfl,h1,r⟩:=r.cons;obtain⟨p2,parts,d2,ds,rfl,rfl,h2,r⟩:=r.cons;obtain⟨p3,parts,d3,ds,rfl,rfl,h3,r⟩:=r.cons;obtain⟨p4,parts,d4,ds,rfl,rfl,h4,r⟩:=r.cons;obtain⟨p5,parts,d5,ds,rfl,rfl,h5,r⟩:=r.cons;obtain⟨p6,parts,d6,ds,rfl,rfl,h6,r⟩:=r.cons;obtain⟨rfl,rfl⟩:=r.nil;obtain⟨v0,rfl,w0,rfl⟩:=Qv h0 Ydh;obtain⟨v1,rfl,w1,rfl⟩:=Qv h1 Ydh;obtain⟨v3,rfl,rfl⟩:=YbL h3 ZcV;simp only[XS,ZB,QV] at hb ⊢;obtain⟨n,rfl,qn,kn⟩:=YdK _ _ _ h2 (by omega);obtain⟨c,rfl,qc,kc⟩:=ty_cn _ _ _ h4 (by omega);obtain⟨l,rfl,q,s,k⟩:=QL efC (λx=>(efP x).length) (λx=>efFit x=true) h5 Qdb n_ef (λf' hf=>ih f' (by omega)) (show uptoBulk d5≤1048576 by omega);obtain⟨l2,rfl,q2,s2,k2⟩:=QL efC (λx=>(efP x).length) (λx=>efFit x=true) h6 Qdb n_ef (λf' hf=>ih f' (by omega)) (show uptoBulk d6≤1048576 by omega);refine⟨.mk v0 v1 n v3 c l l2,by rw[ZA,Qx,ZF]; rfl,?_,?_⟩
 ·simp only[efFit,qn,qc,bigLe k (show uptoBulk d5≤1048576 by omega),QaW q,bigLe k2 (show uptoBulk d6≤1048576 by omega),QaW q2,wf8 w0,Bool.and_self]
 ·have e1:(if cntOp v0 then nmP n else []).length≤(nmP n).length:=by split<;>simp
  have e2:(if v0=8 then cnP c++(efPs l++efPs l2) else []).length≤(cnP c).length+(efPs l).length+(efPs l2).length:=by
   split
   ·simp only[List.length_append]; omega
   ·simp
  rw[QaO,QaO] at e2;simp only[efP,List.length_cons,List.length_append];omega
theorem Zb9{fuel:Nat}{xs:List AVal}{d:DataW H}(h:Typed prog fuel Zap xs d)(hb:uptoBulk d≤1048576):∃l,xs=[efV l]∧lsFit l=true∧(efPs l).length≤uptoBulk d:=by
 obtain⟨l,rfl,q,s,k⟩:=QL efC (λx=>(efP x).length) (λx=>efFit x=true) h Qdb n_ef (λf' _=>ty_ef f') hb;exact⟨l,rfl,by simp only[lsFit,bigLe k hb,QaW q,Bool.and_self],by rw[QaO]; exact s⟩
theorem ty_cd(fuel:Nat)(xs:List AVal)(d:DataW H)(h:Typed prog fuel QdI xs d)(hb:uptoBulk d≤1048576):∃x,xs=cdC x∧(cdFit x=true∧(cdP x).length≤1048576)∧0≤uptoBulk d:=by
 obtain⟨f,parts,ds,rfl,rfl,rfl,r⟩:=YK h s_cd;obtain⟨p0,parts,d0,ds,rfl,rfl,h0,r⟩:=r.cons;obtain⟨p1,parts,d1,ds,rfl,rfl,h1,r⟩:=r.cons;obtain⟨p2,parts,d2,ds,rfl,rfl,h2,r⟩:=r.cons;obtain⟨p3,parts,d3,ds,rfl,rfl,h3,r⟩:=r.cons;obtain⟨p4,parts,d4,ds,rfl,rfl,h4,r⟩:=r.cons;obtain⟨p5,parts,d5,ds,rfl,rfl,h5,r⟩:=r.cons;obtain⟨p6,parts,d6,ds,rfl,rfl,h6,r⟩:=r.cons;obtain⟨p7,parts,d7,ds,rfl,rfl,h7,r⟩:=r.cons;obtain⟨p8,parts,d8,ds,rfl,rfl,h8,r⟩:=r.cons;obtain⟨p9,parts,d9,ds,rfl,rfl,h9,r⟩:=r.cons;obtain⟨p10,parts,d10,ds,rfl,rfl,h10,r⟩:=r.cons;obtain⟨p11,parts,d11,ds,rfl,rfl,h11,r⟩:=r.cons;obtain⟨rfl,rfl⟩:=r.nil;obtain⟨v0,rfl,rfl⟩:=YbL h0 ZcV;obtain⟨v1,rfl,rfl⟩:=ZbV h1 XbL;obtain⟨v2,rfl,w2,rfl⟩:=Qv h2 YV;obtain⟨v3,rfl,w3,rfl⟩:=Qv h3 YV;obtain⟨v4,rfl,w4,rfl⟩:=Qv h4 YV;obtain⟨v5,rfl,w5,rfl⟩:=Qv h5 YV;obtain⟨v6,rfl,w6,rfl⟩:=Qv h6 YV;obtain⟨v7,rfl,w7,rfl⟩:=Qv h7 YV;obtain⟨v11,rfl,w11,rfl⟩:=Qv h11 YV;simp only[XS,ZB,QV] at hb ⊢;obtain⟨a,rfl,qa,ka⟩:=Zb9 h8 (by omega);obtain⟨b,rfl,qb,kb⟩:=Zb9 h9 (by omega);obtain⟨c,rfl,qc,kc⟩:=Zb9 h10 (by omega);refine⟨⟨v0,v1,v2,v3,v4,v5,v6,v7,a,b,c,v11⟩,rfl,⟨?_,?_⟩,by omega⟩
 ·simp only[cdFit,bigLe (Nat.le_refl v0.length) (by omega),qa,qb,qc,Bool.and_self]
 ·simp only[cdP,List.length_append]; omega
theorem QdK(fuel:Nat)(xs:List AVal)(d:DataW H)(h:Typed prog fuel Xbu xs d)(_:uptoBulk d≤1048576):∃x,xs=txC x∧True∧0≤uptoBulk d:=by
 obtain⟨s,rfl,rfl⟩:=YbL h ZcV;exact⟨s,rfl,trivial,by omega⟩
theorem ty_fo(fuel:Nat)(xs:List AVal)(d:DataW H)(h:Typed prog fuel YdJ xs d)(hb:uptoBulk d≤1048576):∃x,xs=foC x∧foFit x=true∧0≤uptoBulk d:=by
 obtain⟨f,parts,ds,rfl,rfl,rfl,r⟩:=YK h s_fo;obtain⟨p0,parts,d0,ds,rfl,rfl,h0,r⟩:=r.cons;obtain⟨p1,parts,d1,ds,rfl,rfl,h1,r⟩:=r.cons;obtain⟨p2,parts,d2,ds,rfl,rfl,h2,r⟩:=r.cons;obtain⟨p3,parts,d3,ds,rfl,rfl,h3,r⟩:=r.cons;obtain⟨p4,parts,d4,ds,rfl,rfl,h4,r⟩:=r.cons;obtain⟨p5,parts,d5,ds,rfl,rfl,h5,r⟩:=r.cons;obtain⟨p6,parts,d6,ds,rfl,rfl,h6,r⟩:=r.cons;obtain⟨rfl,rfl⟩:=r.nil;obtain⟨v0,rfl,rfl⟩:=YbL h0 ZcV;obtain⟨v1,rfl,w1,rfl⟩:=Qv h1 YV;obtain⟨v2,rfl,w2,rfl⟩:=Qv h2 YV;obtain⟨v3,rfl,w3,rfl⟩:=Qv h3 YV;obtain⟨v6,rfl,w6,rfl⟩:=Qv h6 YV;simp only[XS,ZB,QV] at hb ⊢;obtain⟨a,rfl,_,_,ka⟩:=QL txC (λ_=>0) (λ_=>True) h4 XdL QdG (λf' _=>QdK f') (show uptoBulk d4≤1048576 by omega);obtain⟨b,rfl,_,_,kb⟩:=QL txC (λ_=>0) (λ_=>True) h5 XdL QdG (λf' _=>QdK f') (show uptoBulk d5≤1048576 by omega);refine⟨⟨v0,v1,v2,v3,a,b,v6⟩,rfl,?_,by omega⟩;simp only[foFit,bigLe (Nat.le_refl v0.length) (by omega),bigLe ka (show uptoBulk d4≤1048576 by omega),bigLe kb (show uptoBulk d5≤1048576 by omega),Bool.and_self]
theorem ty_bk{fuel:Nat}{xs:List AVal}{d:DataW H}(h:Typed prog fuel ZcU xs d)(hb:uptoBulk d≤1048576):∃x,xs=bkC x∧bkFit x=true∧Qj x.cards:=by
 obtain⟨f,parts,ds,rfl,rfl,rfl,r⟩:=YK h s_bk;obtain⟨p0,parts,d0,ds,rfl,rfl,h0,r⟩:=r.cons;obtain⟨p1,parts,d1,ds,rfl,rfl,h1,r⟩:=r.cons;obtain⟨rfl,rfl⟩:=r.nil;simp only[XS,ZB,QV] at hb ⊢;obtain⟨a,rfl,q,_,k⟩:=QL cdC (λ_=>0) (λx=>cdFit x=true∧(cdP x).length≤1048576) h0 u_cds n_cd (λf' _=>ty_cd f') (show uptoBulk d0≤1048576 by omega);obtain⟨b,rfl,q2,_,k2⟩:=QL foC (λ_=>0) (λx=>foFit x=true) h1 u_fos n_fo (λf' _=>ty_fo f') (show uptoBulk d1≤1048576 by omega);refine⟨⟨a,b⟩,rfl,?_,λc hc=>Nat.le_trans (q c hc).2 (by decide)⟩;simp only[bkFit,XG,bigLe k (show uptoBulk d0≤1048576 by omega),bigLe k2 (show uptoBulk d1≤1048576 by omega),Bool.true_and,Bool.and_eq_true,List.all_eq_true];exact⟨λc hc=>(q c hc).1,q2⟩
theorem ty_th(fuel:Nat)(xs:List AVal)(d:DataW H)(h:Typed prog fuel QdJ xs d)(hb:uptoBulk d≤1048576):∃x,xs=thC x∧True∧0≤uptoBulk d:=by
 obtain⟨f,parts,ds,rfl,rfl,rfl,r⟩:=YK h s_th;obtain⟨p0,parts,d0,ds,rfl,rfl,h0,r⟩:=r.cons;obtain⟨p1,parts,d1,ds,rfl,rfl,h1,r⟩:=r.cons;obtain⟨p2,parts,d2,ds,rfl,rfl,h2,r⟩:=r.cons;obtain⟨p3,parts,d3,ds,rfl,rfl,h3,r⟩:=r.cons;obtain⟨rfl,rfl⟩:=r.nil;obtain⟨v0,rfl,w0,rfl⟩:=Qv h0 YV;obtain⟨v1,rfl,w1,rfl⟩:=Qv h1 YV;obtain⟨v2,rfl,w2,rfl⟩:=Qv h2 YV;obtain⟨v3,rfl,rfl⟩:=ZbV h3 XbL;simp only[XS,ZB,QV] at hb ⊢;exact⟨⟨v0,v1,v2,v3⟩,rfl,trivial,by omega⟩
theorem ty_i(fuel:Nat)(xs:List AVal)(d:DataW H)(h:Typed prog fuel QF xs d)(_:uptoBulk d≤1048576):∃x,xs=cel x∧True∧0≤uptoBulk d:=by
 obtain⟨s,rfl,_,rfl⟩:=Qv h YV;exact⟨s,rfl,trivial,by omega⟩
theorem ZbL{fuel:Nat}{xs:List AVal}{d:DataW H}(h:Typed prog fuel ZaL xs d)(hb:uptoBulk d≤1048576):∃l,xs=[rowV l]∧l.length≤2000000:=by
 obtain⟨l,rfl,_,_,k⟩:=QL cel (λ_=>0) (λ_=>True) h ZdL n_int (λf' _=>ty_i f') hb;exact⟨l,rfl,by omega⟩
theorem XdK{fuel:Nat}{xs:List AVal}{d:DataW H}(h:Typed prog fuel XdN xs d)(hb:uptoBulk d≤1048576):∃x,xs=sdC x∧SdLe 2000000 x:=by
 obtain⟨f,parts,ds,rfl,rfl,rfl,r⟩:=YK h s_sd;obtain⟨p0,parts,d0,ds,rfl,rfl,h0,r⟩:=r.cons;obtain⟨p1,parts,d1,ds,rfl,rfl,h1,r⟩:=r.cons;obtain⟨p2,parts,d2,ds,rfl,rfl,h2,r⟩:=r.cons;obtain⟨p3,parts,d3,ds,rfl,rfl,h3,r⟩:=r.cons;obtain⟨p4,parts,d4,ds,rfl,rfl,h4,r⟩:=r.cons;obtain⟨p5,parts,d5,ds,rfl,rfl,h5,r⟩:=r.cons;obtain⟨p6,parts,d6,ds,rfl,rfl,h6,r⟩:=r.cons;obtain⟨p7,parts,d7,ds,rfl,rfl,h7,r⟩:=r.cons;obtain⟨rfl,rfl⟩:=r.nil;obtain⟨v0,rfl,w0,rfl⟩:=Qv h0 YV;obtain⟨v1,rfl,w1,rfl⟩:=Qv h1 YV;obtain⟨v2,rfl,w2,rfl⟩:=Qv h2 YV;simp only[XS,ZB,QV] at hb ⊢;obtain⟨a,rfl,ka⟩:=ZbL h3 (by omega);obtain⟨b,rfl,kb⟩:=ZbL h4 (by omega);obtain⟨c,rfl,kc⟩:=ZbL h5 (by omega);obtain⟨u,rfl,_,_,ku⟩:=QL thC (λ_=>0) (λ_=>True) h6 u_ths n_th (λf' _=>ty_th f') (show uptoBulk d6≤1048576 by omega);obtain⟨t,rfl,kt⟩:=ZbL h7 (by omega);exact⟨⟨v0,v1,v2,a,b,c,u,t⟩,rfl,ka,kb,kc,by show u.length≤_; omega,kt⟩
theorem ty_st{fuel:Nat}{xs:List AVal}{d:DataW H}(h:Typed prog fuel YcU xs d)(hb:uptoBulk d≤1048576):∃x,xs=stC x∧StLe 2000000 x:=by
 obtain⟨f,parts,ds,rfl,rfl,rfl,r⟩:=YK h s_st;obtain⟨p0,parts,d0,ds,rfl,rfl,h0,r⟩:=r.cons;obtain⟨p1,parts,d1,ds,rfl,rfl,h1,r⟩:=r.cons;obtain⟨p2,parts,d2,ds,rfl,rfl,h2,r⟩:=r.cons;obtain⟨p3,parts,d3,ds,rfl,rfl,h3,r⟩:=r.cons;obtain⟨p4,parts,d4,ds,rfl,rfl,h4,r⟩:=r.cons;obtain⟨p5,parts,d5,ds,rfl,rfl,h5,r⟩:=r.cons;obtain⟨p6,parts,d6,ds,rfl,rfl,h6,r⟩:=r.cons;obtain⟨p7,parts,d7,ds,rfl,rfl,h7,r⟩:=r.cons;obtain⟨rfl,rfl⟩:=r.nil;obtain⟨v0,rfl,w0,rfl⟩:=Qv h0 YV;obtain⟨v1,rfl,w1,rfl⟩:=Qv h1 YV;obtain⟨v2,rfl,w2,rfl⟩:=Qv h2 Ydh;obtain⟨v3,rfl,rfl⟩:=ZbV h3 XbL;obtain⟨v4,rfl,w4,rfl⟩:=Qv h4 Ydh;obtain⟨v6,rfl,w6,rfl⟩:=Qv h6 YV;simp only[XS,ZB,QV] at hb ⊢;obtain⟨a,rfl,ka⟩:=ZbL h5 (by omega);obtain⟨f',p,q,da,db,rfl,rfl,rfl,hp,hq⟩:=Xdu h7 u_sds;simp only[XS,ZB] at hb;obtain⟨x,rfl,kx⟩:=XdK hp (by omega);obtain⟨y,rfl,ky⟩:=XdK hq (by omega);exact⟨⟨v0,v1,v2,v3,v4,a,v6,x,y⟩,rfl,ka,kx,ky⟩
end Go.Ah.Tz
end
section
namespace Go.Ah.Tz
open Go.Proofs.Tryz (prog)
set_option maxRecDepth 100000
noncomputable def tb20:GT:=(.node 84 4 g84.u (.node 50 2 g50.u (.node 29 2 g29.u (.node 17 2 g17.u (.node 13 0 g13.u (.node 6 5 g6.u (.node 5 0 g5.u .leaf .leaf) (.node 12 1 g12.u .leaf .leaf)) (.node 15 1 g15.u (.node 14 0 g14.u .leaf .leaf) (.node 16 2 g16.u .leaf .leaf))) (.node 26 1 g26.u (.node 19 2 g19.u (.node 18 1 g18.u .leaf .leaf) (.node 25 3 g25.u .leaf .leaf)) (.node 28 2 g28.u (.node 27 1 g27.u .leaf .leaf) .leaf))) (.node 36 3 g36.u (.node 33 3 g33.u (.node 31 1 g31.u (.node 30 1 g30.u .leaf .leaf) (.node 32 1 g32.u .leaf .leaf)) (.node 35 3 g35.u (.node 34 3 g34.u .leaf .leaf) .leaf)) (.node 47 1 g47.u (.node 38 3 g38.u (.node 37 3 g37.u .leaf .leaf) (.node 39 3 g39.u .leaf .leaf)) (.node 49 2 g49.u (.node 48 4 g48.u .leaf .leaf) .leaf)))) (.node 70 1 g70.u (.node 57 2 g57.u (.node 54 2 g54.u (.node 52 5 g52.u (.node 51 1 g51.u .leaf .leaf) (.node 53 5 g53.u .leaf .leaf)) (.node 56 3 g56.u (.node 55 2 g55.u .leaf .leaf) .leaf)) (.node 61 4 g61.u (.node 59 3 g59.u (.node 58 1 g58.u .leaf .leaf) (.node 60 2 g60.u .leaf .leaf)) (.node 69 1 g69.u (.node 68 1 g68.u .leaf .leaf) .leaf))) (.node 77 1 g77.u (.node 74 2 g74.u (.node 72 1 g72.u (.node 71 1 g71.u .leaf .leaf) (.node 73 1 g73.u .leaf .leaf)) (.node 76 1 g76.u (.node 75 2 g75.u .leaf .leaf) .leaf)) (.node 81 1 g81.u (.node 79 2 g79.u (.node 78 3 g78.u .leaf .leaf) (.node 80 7 g80.u .leaf .leaf)) (.node 83 1 g83.u (.node 82 4 g82.u .leaf .leaf) .leaf))))) (.node 136 1 g136.u (.node 110 2 g110.u (.node 103 2 g103.u (.node 88 2 g88.u (.node 86 2 g86.u (.node 85 3 g85.u .leaf .leaf) (.node 87 2 g87.u .leaf .leaf)) (.node 102 2 g102.u (.node 89 2 g89.u .leaf .leaf) .leaf)) (.node 107 2 g107.u (.node 105 1 g105.u (.node 104 1 g104.u .leaf .leaf) (.node 106 2 g106.u .leaf .leaf)) (.node 109 1 g109.u (.node 108 1 g108.u .leaf .leaf) .leaf))) (.node 117 2 g117.u (.node 114 1 g114.u (.node 112 2 g112.u (.node 111 1 g111.u .leaf .leaf) (.node 113 1 g113.u .leaf .leaf)) (.node 116 5 g116.u (.node 115 2 g115.u .leaf .leaf) .leaf)) (.node 133 2 g133.u (.node 131 2 g131.u (.node 130 2 g130.u .leaf .leaf) (.node 132 2 g132.u .leaf .leaf)) (.node 135 3 g135.u (.node 134 2 g134.u .leaf .leaf) .leaf)))) (.node 152 2 g152.u (.node 143 1 g143.u (.node 140 1 g140.u (.node 138 0 g138.u (.node 137 1 g137.u .leaf .leaf) (.node 139 2 g139.u .leaf .leaf)) (.node 142 1 g142.u (.node 141 1 g141.u .leaf .leaf) .leaf)) (.node 149 2 g149.u (.node 145 2 g145.u (.node 144 1 g144.u .leaf .leaf) (.node 146 2 g146.u .leaf .leaf)) (.node 151 1 g151.u (.node 150 1 g150.u .leaf .leaf) .leaf))) (.node 159 2 g159.u (.node 156 1 g156.u (.node 154 2 g154.u (.node 153 1 g153.u .leaf .leaf) (.node 155 1 g155.u .leaf .leaf)) (.node 158 0 g158.u (.node 157 1 g157.u .leaf .leaf) .leaf)) (.node 163 2 g163.u (.node 161 2 g161.u (.node 160 1 g160.u .leaf .leaf) (.node 162 2 g162.u .leaf .leaf)) (.node 202 3 g202.u (.node 201 3 g201.u .leaf .leaf) .leaf))))))
theorem Zdu:tb20.Ok prog GL0:=⟨g84.ok,⟨g50.ok,⟨g29.ok,⟨g17.ok,⟨g13.ok,⟨g6.ok,⟨g5.ok,trivial,trivial⟩,⟨g12.ok,trivial,trivial⟩⟩,⟨g15.ok,⟨g14.ok,trivial,trivial⟩,⟨g16.ok,trivial,trivial⟩⟩⟩,⟨g26.ok,⟨g19.ok,⟨g18.ok,trivial,trivial⟩,⟨g25.ok,trivial,trivial⟩⟩,⟨g28.ok,⟨g27.ok,trivial,trivial⟩,trivial⟩⟩⟩,⟨g36.ok,⟨g33.ok,⟨g31.ok,⟨g30.ok,trivial,trivial⟩,⟨g32.ok,trivial,trivial⟩⟩,⟨g35.ok,⟨g34.ok,trivial,trivial⟩,trivial⟩⟩,⟨g47.ok,⟨g38.ok,⟨g37.ok,trivial,trivial⟩,⟨g39.ok,trivial,trivial⟩⟩,⟨g49.ok,⟨g48.ok,trivial,trivial⟩,trivial⟩⟩⟩⟩,⟨g70.ok,⟨g57.ok,⟨g54.ok,⟨g52.ok,⟨g51.ok,trivial,trivial⟩,⟨g53.ok,trivial,trivial⟩⟩,⟨g56.ok,⟨g55.ok,trivial,trivial⟩,trivial⟩⟩,⟨g61.ok,⟨g59.ok,⟨g58.ok,trivial,trivial⟩,⟨g60.ok,trivial,trivial⟩⟩,⟨g69.ok,⟨g68.ok,trivial,trivial⟩,trivial⟩⟩⟩,⟨g77.ok,⟨g74.ok,⟨g72.ok,⟨g71.ok,trivial,trivial⟩,⟨g73.ok,trivial,trivial⟩⟩,⟨g76.ok,⟨g75.ok,trivial,trivial⟩,trivial⟩⟩,⟨g81.ok,⟨g79.ok,⟨g78.ok,trivial,trivial⟩,⟨g80.ok,trivial,trivial⟩⟩,⟨g83.ok,⟨g82.ok,trivial,trivial⟩,trivial⟩⟩⟩⟩⟩,⟨g136.ok,⟨g110.ok,⟨g103.ok,⟨g88.ok,⟨g86.ok,⟨g85.ok,trivial,trivial⟩,⟨g87.ok,trivial,trivial⟩⟩,⟨g102.ok,⟨g89.ok,trivial,trivial⟩,trivial⟩⟩,⟨g107.ok,⟨g105.ok,⟨g104.ok,trivial,trivial⟩,⟨g106.ok,trivial,trivial⟩⟩,⟨g109.ok,⟨g108.ok,trivial,trivial⟩,trivial⟩⟩⟩,⟨g117.ok,⟨g114.ok,⟨g112.ok,⟨g111.ok,trivial,trivial⟩,⟨g113.ok,trivial,trivial⟩⟩,⟨g116.ok,⟨g115.ok,trivial,trivial⟩,trivial⟩⟩,⟨g133.ok,⟨g131.ok,⟨g130.ok,trivial,trivial⟩,⟨g132.ok,trivial,trivial⟩⟩,⟨g135.ok,⟨g134.ok,trivial,trivial⟩,trivial⟩⟩⟩⟩,⟨g152.ok,⟨g143.ok,⟨g140.ok,⟨g138.ok,⟨g137.ok,trivial,trivial⟩,⟨g139.ok,trivial,trivial⟩⟩,⟨g142.ok,⟨g141.ok,trivial,trivial⟩,trivial⟩⟩,⟨g149.ok,⟨g145.ok,⟨g144.ok,trivial,trivial⟩,⟨g146.ok,trivial,trivial⟩⟩,⟨g151.ok,⟨g150.ok,trivial,trivial⟩,trivial⟩⟩⟩,⟨g159.ok,⟨g156.ok,⟨g154.ok,⟨g153.ok,trivial,trivial⟩,⟨g155.ok,trivial,trivial⟩⟩,⟨g158.ok,⟨g157.ok,trivial,trivial⟩,trivial⟩⟩,⟨g163.ok,⟨g161.ok,⟨g160.ok,trivial,trivial⟩,⟨g162.ok,trivial,trivial⟩⟩,⟨g202.ok,⟨g201.ok,trivial,trivial⟩,trivial⟩⟩⟩⟩⟩⟩
end Go.Ah.Tz
end
section
namespace Go.Ah
mutual
def wkA:AVal→AVal→Bool
 |.nils,.rsl e' n' _ r'=>!e'&&(!n'&&r'.isEmpty)
 |.rsl e n s r,.rsl e' n' s' r'=>((e || !e')&&(n || !n'))&&(Nat.beq s s'&&wkR r r')
 |.agg a,.agg b=>wkL a b
 |.bool a,.bool b=>a==b
 |.int k a,.int k' b=>ikEq k k'&&a==b
 |.str a,.str b=>a==b
 |.nils,.nils=>true
 |.nilp,.nilp=>true
 |_,_=>false
def wkL:List AVal→List AVal→Bool
 |[],[]=>true
 |x::xs,y::ys=>wkA x y&&wkL xs ys
 |_,_=>false
def wkR:List (List AVal)→List (List AVal)→Bool
 |[],[]=>true
 |x::xs,y::ys=>wkL x y&&wkR xs ys
 |_,_=>false
end
def Wk(x y:AVal):Prop:=∀(M:Nat→Option Obj) (u:Value),Den M noOwn x u→Den M noOwn y u
mutual
theorem Xdh:∀ {x y:AVal},wkA x y=true→Wk x y:=by
  intro x y h
  cases x<;>cases y<;>simp only[wkA,Bool.false_eq_true,Bool.and_eq_true,Bool.not_eq_true',List.isEmpty_iff] at h<;>first
    |(obtain⟨rfl,rfl,rfl⟩:=h; exact λM u d=>d.nils_rsl _)
    |(intro M u d; exact d)
    |(rw[eq_of_beq h]; intro M u d; exact d)
    |(rw[eq_of_beq h.2,Y4 h.1]; intro M u d; exact d)
    | (have hk:=ZcW h
       intro M u d
       cases d with
       | agg _ _ vs hs hd=>exact .agg _ _ _ (by rw[hs,hk.1]) (λi y v e1 e2=>by
          obtain⟨x,q1,q2⟩:=hk.2 i y e1
          exact q2 M v (hd i x v q1 e2)))
    | (obtain⟨⟨he,hn⟩,hs,hr⟩:=h
       have hs:=YNB hs
       subst hs
       have hk:=Qdh hr
       intro M u d
       cases d with
       |rsl _ _ _ _ _ a cap blk off f q1 q2 q3 q4 q5 q6 q7 q8=>
         rw[hk.1]
         refine .rsl _ _ _ _ _ a cap blk off f (λq=>?_) (λq=>?_) (λq=>q3 (λe=>q ?_)) q4 (by rw[←hk.1]; exact q5) (λi row e=>?_) (λi j hi hj=>q7 i j (by rw[hk.1]; exact hi) hj) (λi row j y e1 e2=>?_)
         · subst q; simp at he; rw[←hk.1]; exact q1 he
         · subst q; simp at hn; exact q2 hn
         · have:=hk.1; rw[e] at this; exact List.length_eq_zero_iff.1 (by simpa using this.symm)
         · obtain⟨r0,p1,p2,_⟩:=hk.2 i row e
           rw[←p2]; exact q6 i r0 p1
         · obtain⟨r0,p1,p2,p3⟩:=hk.2 i row e1
           obtain⟨x,x1,x2⟩:=p3 j y e2
           exact x2 M _ (q8 i r0 j x p1 x1))
theorem ZcW:∀ {xs ys:List AVal},wkL xs ys=true→xs.length=ys.length∧∀(i:Nat) (y:AVal),ys[i]?=some y→∃x,xs[i]?=some x∧Wk x y:=by
  intro xs ys h
  cases xs<;>cases ys<;>simp only[wkL,Bool.false_eq_true,Bool.and_eq_true] at h
  · exact⟨rfl,λi y e=>by simp at e⟩
  · rename_i x xs y ys
    have h1:=Xdh h.1
    have h2:=ZcW h.2
    refine⟨by simp[h2.1],λi z e=>?_⟩
    cases i with
    |zero=>simp at e; subst e; exact⟨x,by simp,h1⟩
    |succ i=>simp at e; obtain⟨w,q1,q2⟩:=h2.2 i z e; exact⟨w,by simpa using q1,q2⟩
theorem Qdh:∀ {xs ys:List (List AVal)},wkR xs ys=true→xs.length=ys.length∧∀(i:Nat) (y:List AVal),ys[i]?=some y→∃x,xs[i]?=some x∧x.length=y.length∧∀(j:Nat) (b:AVal),y[j]?=some b→∃a,x[j]?=some a∧Wk a b:=by
  intro xs ys h
  cases xs<;>cases ys<;>simp only[wkR,Bool.false_eq_true,Bool.and_eq_true] at h
  · exact⟨rfl,λi y e=>by simp at e⟩
  · rename_i x xs y ys
    have h1:=ZcW h.1
    have h2:=Qdh h.2
    refine⟨by simp[h2.1],λi z e=>?_⟩
    cases i with
    |zero=>simp at e; subst e; exact⟨x,by simp,h1⟩
    |succ i=>simp at e; obtain⟨w,q1,q2⟩:=h2.2 i z e; exact⟨w,by simpa using q1,q2⟩
end
theorem Yby{M:Nat→Option Obj}:∀ {xs ys:List AVal} {vs:List Value},wkL xs ys=true→DenL ⟨M,noOwn⟩ xs vs→DenL ⟨M,noOwn⟩ ys vs
 |[],[],vs,_,d=>d
 |x::xs,y::ys,[],h,d=>d.elim
 |x::xs,y::ys,v::vs,h,d=>by
  simp only[wkL,Bool.and_eq_true] at h;exact⟨Xdh h.1 M v d.1,Yby h.2 d.2⟩
theorem Zck{P:Program}{GL:Globs}{f:FuncId}{xs ys:List AVal}{v:AVal}(h:PCall P GL f ys v)(hw:wkL xs ys=true):PCall P GL f xs v:=λw M vs hM hg hx=>h w M vs hM hg (Yby hw hx)
end Go.Ah
end
section
namespace Go.Ah.Tz
open Go.Proofs.Tryz (prog)
set_option maxRecDepth 1000000
theorem hT20:∀f np g,tb20.get f=some (np,g)→GQ f np g:=GT.get_ok Zdu
abbrev F182:Nat:=13
abbrev F201:Nat:=14
abbrev F150:Nat:=18
abbrev F146:Nat:=16
abbrev F56:Nat:=41
abbrev F47:Nat:=52
abbrev F51:Nat:=53
def bkV20:AVal:=(.agg [(.rsl true false 12 [[(.str [73,109,112]),(.bool true),(.int .i64 1),(.int .i64 2),(.int .i64 3),(.int .i64 1),(.int .i64 0),(.int .i64 0),.nils,.nils,.nils,(.int .i64 0)],[(.str [69,108,102]),(.bool true),(.int .i64 2),(.int .i64 1),(.int .i64 1),(.int .i64 0),(.int .i64 1),(.int .i64 0),.nils,.nils,.nils,(.int .i64 0)],[(.str [66,111,108,116]),(.bool false),(.int .i64 1),(.int .i64 0),(.int .i64 0),(.int .i64 0),(.int .i64 0),(.int .i64 0),(.rsl true false 14 [[(.int .i8 0),(.int .i8 2),(.int .i8 0),(.int .i64 3),(.int .i8 0),.nils,(.str []),(.int .i8 0),(.int .i8 0),(.str []),.nils,.nils,.nils,.nils]]),.nils,.nils,(.int .i64 0)]]),(.rsl true false 7 [[(.str [115,116,100]),(.int .i64 0),(.int .i64 60),(.int .i64 60),.nils,.nils,(.int .i64 0)]])])
def stV20:AVal:=(.agg [(.int .i64 1),(.int .i64 0),(.int .i8 0),(.bool false),(.int .i8 0),.nils,(.int .i64 3),(.int .i64 20),(.int .i64 3),(.int .i64 3),(.rsl true false 1 [[(.int .i64 0)],[(.int .i64 1)],[(.int .i64 2)]]),(.rsl true false 1 [[(.int .i64 2)],[(.int .i64 0)]]),.nils,(.rsl true false 4 [[(.int .i64 1),(.int .i64 0),(.int .i64 0),(.bool false)]]),.nils,(.int .i64 20),(.int .i64 3),(.int .i64 3),(.rsl true false 1 [[(.int .i64 0)],[(.int .i64 1)],[(.int .i64 2)]]),(.rsl true false 1 [[(.int .i64 2)],[(.int .i64 0)]]),.nils,(.rsl true false 4 [[(.int .i64 2),(.int .i64 1),(.int .i64 0),(.bool false)]]),.nils])
def Zbk:AVal:=(.agg [(.int .i64 1),(.int .i64 0),(.int .i8 0),(.bool false),(.int .i8 0),.nils,(.int .i64 3),(.int .i64 20),(.int .i64 3),(.int .i64 3),(.rsl false false 1 [[(.int .i64 0)],[(.int .i64 1)],[(.int .i64 2)]]),(.rsl false false 1 [[(.int .i64 2)],[(.int .i64 0)]]),.nils,(.rsl false false 4 [[(.int .i64 1),(.int .i64 0),(.int .i64 0),(.bool false)]]),.nils,(.int .i64 20),(.int .i64 3),(.int .i64 3),(.rsl false false 1 [[(.int .i64 0)],[(.int .i64 1)],[(.int .i64 2)]]),(.rsl false false 1 [[(.int .i64 2)],[(.int .i64 0)]]),.nils,(.rsl false false 4 [[(.int .i64 2),(.int .i64 1),(.int .i64 0),(.bool false)]]),.nils])
def Qb8:AVal:=(.agg [(.int .i64 1),(.int .i64 0),(.int .i8 0),(.bool false),(.int .i8 0),.nils,(.int .i64 3),(.int .i64 20),(.int .i64 3),(.int .i64 3),(.rsl false false 1 [[(.int .i64 0)],[(.int .i64 1)],[(.int .i64 2)]]),(.rsl false false 1 [[(.int .i64 2)],[(.int .i64 0)]]),.nils,(.rsl false false 4 [[(.int .i64 1),(.int .i64 0),(.int .i64 0),(.bool false)]]),.nils,(.int .i64 17),(.int .i64 3),(.int .i64 3),(.rsl false false 1 [[(.int .i64 0)],[(.int .i64 1)],[(.int .i64 2)]]),(.rsl false false 1 [[(.int .i64 2)],[(.int .i64 0)]]),.nils,(.rsl false false 4 [[(.int .i64 2),(.int .i64 1),(.int .i64 0),(.bool false)]]),.nils])
def rh:AVal:=(.tup [(.agg [(.int .i64 1),(.int .i64 0),(.int .i8 0),(.bool false),(.int .i8 0),.nils,(.int .i64 3),(.int .i64 20),(.int .i64 3),(.int .i64 3),(.rsl false false 1 [[(.int .i64 0)],[(.int .i64 1)],[(.int .i64 2)]]),(.rsl false false 1 [[(.int .i64 2)],[(.int .i64 0)]]),.nils,(.rsl false false 4 [[(.int .i64 1),(.int .i64 0),(.int .i64 0),(.bool false)]]),.nils,(.int .i64 17),(.int .i64 3),(.int .i64 3),(.rsl false false 1 [[(.int .i64 0)],[(.int .i64 1)],[(.int .i64 2)]]),(.rsl false false 1 [[(.int .i64 2)],[(.int .i64 0)]]),.nils,(.rsl false false 4 [[(.int .i64 2),(.int .i64 1),(.int .i64 0),(.bool false)]]),.nils]),(.agg [(.int .i8 5),(.int .i64 1),(.int .i64 0),(.int .i64 0),(.int .i64 0),(.int .i64 3),.nils]),(.int .i64 0)])
def Qdg:AVal:=(.agg [(.int .i64 1),(.int .i64 0),(.int .i8 0),(.bool false),(.int .i8 0),.nils,(.int .i64 3),(.int .i64 21),(.int .i64 3),(.int .i64 3),(.rsl false false 1 [[(.int .i64 0)],[(.int .i64 1)],[(.int .i64 2)]]),(.rsl false false 1 [[(.int .i64 2)],[(.int .i64 0)]]),.nils,(.rsl false false 4 [[(.int .i64 1),(.int .i64 0),(.int .i64 0),(.bool false)]]),.nils,(.int .i64 17),(.int .i64 3),(.int .i64 3),(.rsl false false 1 [[(.int .i64 0)],[(.int .i64 1)],[(.int .i64 2)]]),(.rsl false false 1 [[(.int .i64 2)],[(.int .i64 0)]]),.nils,(.rsl false false 4 [[(.int .i64 2),(.int .i64 1),(.int .i64 0),(.bool false)]]),.nils])
def rm:AVal:=(.tup [(.agg [(.int .i64 1),(.int .i64 0),(.int .i8 0),(.bool false),(.int .i8 0),.nils,(.int .i64 3),(.int .i64 21),(.int .i64 3),(.int .i64 3),(.rsl false false 1 [[(.int .i64 0)],[(.int .i64 1)],[(.int .i64 2)]]),(.rsl false false 1 [[(.int .i64 2)],[(.int .i64 0)]]),.nils,(.rsl false false 4 [[(.int .i64 1),(.int .i64 0),(.int .i64 0),(.bool false)]]),.nils,(.int .i64 17),(.int .i64 3),(.int .i64 3),(.rsl false false 1 [[(.int .i64 0)],[(.int .i64 1)],[(.int .i64 2)]]),(.rsl false false 1 [[(.int .i64 2)],[(.int .i64 0)]]),.nils,(.rsl false false 4 [[(.int .i64 2),(.int .i64 1),(.int .i64 0),(.bool false)]]),.nils]),(.agg [(.int .i8 6),(.int .i64 0),(.int .i64 0),(.int .i64 0),(.int .i64 0),(.int .i64 1),.nils]),(.int .i64 0)])
def nV(n:Int):AVal:=.agg [.int .i8 0,.int .i64 n,.int .i8 0,.nils]
def enV:AVal:=.agg [.int .i64 0,.int .i64 (-1)]
theorem p182:PC 13 [] bkV20:=X9 hP hT20 (much:=1000000000) 60 (by kernel_rfl)
theorem p201:PC 14 [] stV20:=X9 hP hT20 (much:=1000000000) 60 (by kernel_rfl)
theorem p150z:PC 18 [stV20] Zbk:=X9 hP hT20 (much:=1000000000) 60 (by kernel_rfl)
theorem p146z:PC 16 [bkV20,stV20] (.int .i64 0):=X9 hP hT20 (much:=1000000000) 60 (by kernel_rfl)
theorem p47z:PC 52 [bkV20,Zbk,.int .i64 0,.int .i64 1,.int .i64 3] rh:=X9 hP hT20 (much:=1000000000) 60 (by kernel_rfl)
theorem p51z:PC 53 [bkV20,Qb8,.int .i64 0,.int .i64 0,.int .i64 1] rm:=X9 hP hT20 (much:=1000000000) 60 (by kernel_rfl)
def b20:Bk:=⟨[⟨[73,109,112],true,1,2,3,1,0,0,[],[],[],0⟩,⟨[69,108,102],true,2,1,1,0,1,0,[],[],[],0⟩,⟨[66,111,108,116],false,1,0,0,0,0,0,[.mk 0 2 (.mk 0 3 0 []) [] (.mk 0 0 [] [] []) [] []],[],[],0⟩],[⟨[115,116,100],0,60,60,[],[],0⟩]⟩
def sd20(life:Int)(u:Th):Sd:={ life:=life,mana:=3,most:=3,deck:=[0,1,2],hand:=[2,0],grave:=[],units:=[u],told:=[] }
def st20(a c:Int):St:={ turn:=1,mover:=0,phase:=0,struck:=false,result:=0,attack:=[],next:=3,s0:=sd20 a ⟨1,0,0,false⟩,s1:=sd20 c ⟨2,1,0,false⟩ }
def n20(n:Int):Nm:=.mk 0 n 0 []
theorem Xcq:Qj b20.cards:=by
 intro c hc;simp only[b20,List.mem_cons,List.not_mem_nil,or_false] at hc;rcases hc with rfl|rfl|rfl<;>decide
theorem st9{e:Int}{b:Bk}{s:St}(h:mayR e b s true=true):StLe 1000000000 s:=by
 have hs:=YcI (YM.1 h).2;exact⟨by have:=hs.attack; omega,⟨by have:=hs.s0.deck; omega,by have:=hs.s0.hand; omega,by have:=hs.s0.grave; omega,by have:=hs.s0.units; omega,by have:=hs.s0.told; omega⟩,⟨by have:=hs.s1.deck; omega,by have:=hs.s1.hand; omega,by have:=hs.s1.grave; omega,by have:=hs.s1.units; omega,by have:=hs.s1.told; omega⟩⟩
theorem p56z(a c n:Int)(st:AVal)(hm:mayR (bkR b20).1 b20 (st20 a c) true=true)(hok:nmOk true (n20 n)=true)(hw:nmW (n20 n)≤200)(hfit:nmFit (n20 n)=true)(hn:numF b20 (st20 a c) 0 (-1) (n20 n)=n)(hk:wkL [bkV20,st,enV,nV n] [bkV b20,stV (st20 a c),.agg [iv 0,iv (-1)],.agg (nmC (n20 n))]=true) :
  PC 41 [bkV20,st,enV,nV n] (.tup [.int .i64 n,.int .i64 0]):=by
 have h:=c31 b20 (by kernel_rfl) Xcq (st20 a c) (st9 hm) hm 0 (-1) (by omega) (by omega) (λc hc=>QcF (YM.1 hm).2 0 c (.inl hc)) (n20 n) hfit hok hw;rw[hn] at h;exact Zck h hk
def kn20:Known:=[(F182,[],bkV20),(F201,[],stV20),(F150,[stV20],Zbk),(F146,[bkV20,stV20],.int .i64 0),
 (F56,[bkV20,Zbk,enV,nV 3],.tup [.int .i64 3,.int .i64 0]),(F47,[bkV20,Zbk,.int .i64 0,.int .i64 1,.int .i64 3],rh),
 (F56,[bkV20,Qb8,enV,nV 1],.tup [.int .i64 1,.int .i64 0]),(F51,[bkV20,Qb8,.int .i64 0,.int .i64 0,.int .i64 1],rm),
 (F56,[bkV20,Qdg,enV,nV 2],.tup [.int .i64 2,.int .i64 0])]
theorem Xdo:KnOk prog GL0 kn20:=
 ⟨⟨⟨g13.ok.plain,rfl,rfl⟩,p182⟩,⟨⟨g14.ok.plain,rfl,rfl⟩,p201⟩,⟨⟨g18.ok.plain,rfl,rfl⟩,p150z⟩,⟨⟨g16.ok.plain,rfl,rfl⟩,p146z⟩,
  ⟨⟨g41.ok.plain,rfl,rfl⟩,p56z 20 20 3 Zbk (by kernel_rfl) (by kernel_rfl) (by decide) (by kernel_rfl) (by kernel_rfl) (by kernel_rfl)⟩,⟨⟨g52.ok.plain,rfl,rfl⟩,p47z⟩,
  ⟨⟨g41.ok.plain,rfl,rfl⟩,p56z 20 17 1 Qb8 (by kernel_rfl) (by kernel_rfl) (by decide) (by kernel_rfl) (by kernel_rfl) (by kernel_rfl)⟩,⟨⟨g53.ok.plain,rfl,rfl⟩,p51z⟩,
  ⟨⟨g41.ok.plain,rfl,rfl⟩,p56z 21 17 2 Qdg (by kernel_rfl) (by kernel_rfl) (by decide) (by kernel_rfl) (by kernel_rfl) (by kernel_rfl)⟩,trivial⟩
theorem p78w:PC 5 [] (.bool true):=QcY hP hT20 (much:=1000000000) Xdo 60 (by kernel_rfl)
end Go.Ah.Tz
end
