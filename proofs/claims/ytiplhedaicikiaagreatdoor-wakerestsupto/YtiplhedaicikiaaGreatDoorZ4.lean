/- Part of the proof that WakeRests holds of the program for arguments that together hold at most 1048576 values and letters; no other condition. -/
import Derived.Test.YtiplhedaicikiaaGreatDoorZ3
import Derived.Sort.OwnSortedInts
import Derived.Recover
set_option linter.all false
open Bool renaming and_assoc->zCM,and_eq_true->AI,and_self->zAu,and_true->zAz,eq_false_iff->zBF,eq_iff_iff->zAk,false_eq_true->zAS,false_or->zCR,not_eq_false'->zBh,not_eq_true'->zAf,or_eq_false_iff->zAv,true_and->zAF
open False renaming elim->zDJ
open Function renaming comp_def->zCk
open Go.Act renaming put->zDb
open Go.Calls renaming mono->zDN
open Go.IntKind renaming i64->BY
open Go.IntWalk renaming i64_in->zAZ
open Go.Oper renaming upon->zCz,wp->zEA
open Go.Sem renaming run_pure->zAA
open List renaming all_eq_true->zAj,append_assoc->zAa,append_nil->zBN,cons_append->zAL,contains_cons->zDx,drop_length->zAD,eraseIdx_sublist->zCj,filter_sublist->zDq,findIdx?_cons->zDw,forall_mem_cons->zCi,getElem?_append_left->zAV,getElem?_eq_getElem->zAU,getElem?_map->zAX,getElem?_set_self->zAb,getElem_mem->AT,length_append->By,length_cons->IS,length_eq_zero_iff->zAW,length_eraseIdx_le->zDZ,length_eraseIdx_of_lt->zCH,length_map->zAH,length_nil->zAG,length_set->zCf,length_singleton->zBa,length_take->zAq,map_append->zAe,map_cons->zAN,map_nil->zBC,map_set->zDc,mem_append->zAI,mem_append_left->zAl,mem_append_right->zAg,mem_cons->zAR,mem_cons_of_mem->zAn,mem_map->zAt,mem_of_getElem?->zAK,nil_append->zAM,nodup_cons->zBs,range->zAC,range'->zBG,replicate->zAd,set_getElem_self->zDg,set_set->zDA,take_add_one->zCv,take_length->zAr
open List.Sublist renaming map->zDX,refl->zBJ
open List.cons renaming injEq->zCL
open List.range renaming loop->zAc
open Nat renaming add_comm->zDu,beq->IN,beq_refl->zBf,ble->zAP,ble_eq_true_of_le->sh,blt->zAi,le_refl->IT,le_succ_of_le->zAm,le_trans->zAY,lt_of_lt_of_le->zAJ,zero_add->No
open Option renaming getD_some->zAo
open Prod.mk renaming injEq->zBm
section
namespace Go.Ah.Tz
open Go.Proofs.Tryz (prog)
attribute [local irreducible] aF.rd aF.pu aF.wr aF.dr aF.gr aF.gw aF.gl aF.gd aF.opt cI W
set_option maxHeartbeats 1000000
theorem Qdw{P:Program}{GL:ar}{c d:Bool}{K:aa→Prop}{r1:aA}{σ:List ab}(h1:r1=.ok (.bool d) [] [])(hK:K (.bool (c&&d))) :
  (W P GL).gr (.bool c) true (λk=>(W P GL).rd r1 k) λt1=>(W P GL).rd (Zo [.bool c,t1,.bool false] σ) K:=by
 cases c with
 |true=>exact Qa (Za h1 (Za rfl hK))
 |false=>exact Zc rfl (Za rfl hK)
theorem Ydx{P:Program}{GL:ar}{c d:Bool}{K:aa→Prop}{r1 r2:aA}{f3:aa→aa→aA}{f4:aa→aA}{σ:List ab}{v1 v2 v3:aa}{q1 q2 q3 q4:List Nat}(h1:r1=.ok v1 q1 [])(h2:r2=.ok v2 q2 [])(h3:f3 v1 v2=.ok v3 q3 [])(h4:f4 v3=.ok (.bool d) q4 [])(hK:K (.bool (c&&d))) :
  (W P GL).gr (.bool c) true (λk=>(W P GL).rd r1 k) λt1=>(W P GL).gr (.bool c) true (λk=>(W P GL).rd r2 k) λt2=>(W P GL).gr (.bool c) true (λk=>(W P GL).rd (f3 t1 t2) k) λt3=>(W P GL).gr (.bool c) true (λk=>(W P GL).rd (f4 t3) k) λt4=>(W P GL).rd (Zo [.bool c,t4,.bool false] σ) K:=by
 cases c with
 |true=>exact Qa (Za h1 (Qa (Za h2 (Qa (Za h3 (Qa (Za h4 (Za rfl hK))))))))
 |false=>exact Zc rfl (Zc rfl (Zc rfl (Zc rfl (Za rfl hK))))
theorem Xdx{P:Program}{GL:ar}{c d:Bool}{K:aa→Prop}{r1 r3:aA}{f2 f4:aa→aA}{f5:aa→aa→aA}{σ:List ab}{v1 v2 v3 v4:aa}{q1 q2 q3 q4 q5:List Nat}(h1:r1=.ok v1 q1 [])(h2:f2 v1=.ok v2 q2 [])(h3:r3=.ok v3 q3 [])(h4:f4 v3=.ok v4 q4 [])(h5:f5 v2 v4=.ok (.bool d) q5 [])(hK:K (.bool (c&&d))) :
  (W P GL).gr (.bool c) true (λk=>(W P GL).rd r1 k) λt1=>(W P GL).gr (.bool c) true (λk=>(W P GL).rd (f2 t1) k) λt2=>(W P GL).gr (.bool c) true (λk=>(W P GL).rd r3 k) λt3=>(W P GL).gr (.bool c) true (λk=>(W P GL).rd (f4 t3) k) λt4=>(W P GL).gr (.bool c) true (λk=>(W P GL).rd (f5 t2 t4) k) λt5=>(W P GL).rd (Zo [.bool c,t5,.bool false] σ) K:=by
 cases c with
 |true=>exact Qa (Za h1 (Qa (Za h2 (Qa (Za h3 (Qa (Za h4 (Qa (Za h5 (Za rfl hK))))))))))
 |false=>exact Zc rfl (Zc rfl (Zc rfl (Zc rfl (Zc rfl (Za rfl hK)))))
theorem Qdx{P:Program}{GL:ar}{c d:Bool}{K:aa→Prop}{r1 r2:aA}{f3:aa→aA}{f4:aa→aa→aA}{f5:aa→aA}{σ:List ab}{v1 v2 v3 v4:aa}{q1 q2 q3 q4 q5:List Nat}(h1:r1=.ok v1 q1 [])(h2:r2=.ok v2 q2 [])(h3:f3 v2=.ok v3 q3 [])(h4:f4 v1 v3=.ok v4 q4 [])(h5:f5 v4=.ok (.bool d) q5 [])(hK:K (.bool (c&&d))) :
  (W P GL).gr (.bool c) true (λk=>(W P GL).rd r1 k) λt1=>(W P GL).gr (.bool c) true (λk=>(W P GL).rd r2 k) λt2=>(W P GL).gr (.bool c) true (λk=>(W P GL).rd (f3 t2) k) λt3=>(W P GL).gr (.bool c) true (λk=>(W P GL).rd (f4 t1 t3) k) λt4=>(W P GL).gr (.bool c) true (λk=>(W P GL).rd (f5 t4) k) λt5=>(W P GL).rd (Zo [.bool c,t5,.bool false] σ) K:=by
 cases c with
 |true=>exact Qa (Za h1 (Qa (Za h2 (Qa (Za h3 (Qa (Za h4 (Qa (Za h5 (Za rfl hK))))))))))
 |false=>exact Zc rfl (Zc rfl (Zc rfl (Zc rfl (Zc rfl (Za rfl hK)))))
theorem Zdx{P:Program}{GL:ar}{c d:Bool}{K:List ab→aa→Prop}{r1:aA}{f2:aa→aA}{f3:aa→(KT)→Prop}{g:List ab→List ab}{σ:List ab}{v1 v2:aa}{q1 q2:List Nat}(h1:r1=.ok v1 q1 [])(h2:f2 v1=.ok v2 q2 [])(h3:∀k:KT,k (.bool d) σ→f3 v2 k)(hK:K σ (.bool (c&&d))) :
  (W P GL).gr (.bool c) true (λk=>(W P GL).rd r1 k) λt1=>(W P GL).gr (.bool c) true (λk=>(W P GL).rd (f2 t1) k) λt2=>(W P GL).gw (.bool c) true (λk=>f3 t2 k) σ λt3 σ'=>(W P GL).rd (Zo [.bool c,t3,.bool false] (g σ')) (K σ'):=by
 cases c with
 |true=>exact Qa (Za h1 (Qa (Za h2 (Yq (h3 _ (Za rfl hK))))))
 |false=>exact Zc rfl (Zc rfl (Yx rfl (Za rfl hK)))
def Old(σ σ':List ab):Prop:=σ.length<=σ'.length∧∀c,c<σ.length→aj σ' c=aj σ c
theorem Old.trans{a b c:List ab}(h:Old a b)(k:Old b c):Old a c:=⟨zAY h.1 k.1,λi hi=>by rw[k.2 i (by have:=h.1;omega),h.2 i hi]⟩
theorem Old.app(σ l:List ab):Old σ (σ++l):=⟨by simp,λ_ h=>Yf l h⟩
theorem Old.get{σ σ':List ab}(h:Old σ σ'){c:Nat}{x:ab}(hx:aj σ c=x)(hd:x≠.dead):aj σ' c=x:=by
 rw[h.2 c (Yb hx hd)];exact hx
theorem Bt.Lr{σ σ':List ab}{x:ab}(h:Bt σ.length (σ++[x]) σ'):Old σ σ':=by
 obtain⟨h1,h2⟩:=h;simp only[By,zBa]at h1 h2;exact⟨by omega,λc hc=>by rw[h2 c (by omega) (by omega),Yf _ hc]⟩
def nP(m:List (Tx×Bool))(l:List Tx):Prop:=∀t,(cu t m).getD false=l.any λd=>d==t
theorem nP.nil:nP [] []:=λt=>by simp[cu]
theorem nP.put{m:List (Tx×Bool)}{l:List Tx}(h:nP m l)(c:Tx):nP (lG c true m) (l++[c]):=by
 intro t;rw[Z4,List.any_append,←h t]
 grind
theorem Xdp{α:Type}(l:List α)(f:α→Bool):(!l.any f)=l.all λx=>!f x:=by
 grind
theorem Yd0(b:Bk)(hc:b.ai.length<=gn)(l:List Tx)(hl:l.length<=gn)(ok:Bool){σ:List ab}(GX:aj σ 0=.box [iH b.ai,o9 b.aw]){K:mC}
 (hK:∀w σ',Old σ σ'→K [w,.bool (ok&&iu b.ai [] l)] σ') :
  VV.loop (λSV v57 τ=>VV.rd (Ym .lss false [(h0 v57),iv l.length] τ) λtw=>VV.test tw (
   VV.rd (Qh 1 [Hm l,(h0 v57)] τ) λmP=>VV.rd (Qe false 1 [mP] τ) λtz=>VV.rd (Qe true 2 [.ak 0 0] τ) λtA=>
   VV.call (.call 130) [tA,tz] τ λqu τ=>VV.rd (Xi 0 [qu] τ) λV0=>VV.rd (Xi 1 [qu] τ) λtB=>
   VV.gr (h1 v57) true (λk=>VV.rd (qM [tB] τ) k) λFG=>VV.rd (Zo [(h1 v57),FG,(.bool false)] τ) λoY=>
   VV.gr oY true (λk=>VV.rd (qM [.map σ.length] τ) k) λFL=>VV.gr oY true (λk=>VV.rd (qM [tz] τ) k) λFO=>
   VV.gr oY true (λk=>VV.rd (Yy true false (.bool false) [FL,FO] τ) k) λFR=>VV.gr oY true (λk=>VV.rd (tH .not [FR] τ) k) λFU=>
   VV.rd (Zo [oY,FU,(.bool false)] τ) λFW=>VV.wr (XG true [.map σ.length,tz,(.bool true)] τ) τ λ_ τ=>
   VV.rd (Ym .add false [(h0 v57),(.int .i64 1)] τ) λF4=>SV [F4,FW] τ) (K v57 τ)) [(.int .i64 0),.bool ok] (σ ++ [.map []]):=by
 rw[cZ]at hl;have j4:aj (σ++[.map []]) σ.length=.map (jl []):=Yc _ _;have hlen:σ.length<(σ++[ab.map []]).length:=by simp
 refine Xg (ι:=Nat) (λi vs s=>∃VA m,vs=[iv i,.bool VA]∧i<=l.length∧aj s σ.length=.map (jl m)∧nP m (l.take i)∧Bt σ.length (σ++[.map []]) s∧(ok&&iu b.ai [] l)=(VA&&iu b.ai (l.take i) (l.drop i))) (λi=>l.length-i) 0 ⟨ok,[],rfl,by omega,j4,by simpa using nP.nil,Bt.refl _ _,by simp⟩ ?_;rintro i vs s again ⟨VA,m,rfl,hi,hm,BJ,qA,hr⟩ bn;have TI:aj s 0=.box [iH b.ai,o9 b.aw]:=qA.Lr.get GX (by simp);refine Za rfl (YS (λh=>?_) (λh=>?_))
 ·refine Za (Xm _ vb _ _ _ l _ i h) (Za (bB (xV _)) (Za (ld TI rfl) ?_));refine aY (c224 b hc _) g130.ok (Za rfl (Za rfl (Qdw rfl ?_)));refine Ydx rfl rfl (RL hm _) rfl (Yd (Gi hm _ _) (Ze _ (Yb hm)) (Za (Qj ..) ?_));rw[Qc (n:=i) (by omega)];have wO:=Yb hm;refine bn (i+1) _ _ (by omega) ⟨_,_,rfl,by omega,Zd _ wO,by rw[Yw _ _ h];exact BJ.put _,qA.trans ⟨by simp,λc hc cO=>Xc _ hc cO⟩,?_⟩;rw[hr,gI h,iu,Yw _ _ h,BJ,Xdp];simp only[zCM]
 ·subst h;rw[zAD,iu,zAz]at hr;have:=hK (iv (l.length:Int)) s qA.Lr;rw[hr]at this;exact this
def tG(m:List (Tx×Bool))(l:List Fo):Prop:=∀t,(cu t m).getD false=l.any λd=>d.name==t
theorem tG.put{m:List (Tx×Bool)}{l:List Fo}(h:tG m l)(c:Fo):tG (lG c.name true m) (l++[c]):=by
 intro t;rw[Z4,List.any_append,←h t]
 grind
theorem c184(b:Bk)(hf:a_ b=true):PC 164 [cC b] (.agg [iv (gq b [] b.aw).1,iv (gq b [] b.aw).2]):=by
 simp only[a_,ZG,AI,fE]at hf;obtain⟨⟨fc,_⟩,fl,fa⟩:=hf;have fl':=fl;rw[cZ]at fl';refine Xa hP g164.ok rfl rfl ?_;rw[H1.e];unfold g164;dsimp only;refine Yd rfl rfl (Yd rfl rfl (Yd rfl rfl (Za rfl (Za rfl ?_))));refine Za (v:=iv b.aw.length) (rd:=[]) (by simp[Zf]) (Xg (ι:=Nat) (λi vs σ=>∃m,vs=[iv i]∧i<=b.aw.length∧aj σ 0=.box [iH b.ai,o9 b.aw]∧aj σ 1=.box [iv 0,iv 0]∧aj σ 2=.map (jl m)∧tG m (b.aw.take i)∧gq b [] b.aw=gq b (b.aw.take i) (b.aw.drop i)) (λi=>b.aw.length-i) 0 ⟨[],rfl,by omega,rfl,rfl,rfl,λt=>by simp[cu],by simp⟩ ?_);rintro i vs σ again ⟨m,rfl,hi,zy,zA,lV,BJ,hr⟩ bn;refine Za rfl (Ya (λh=>?_) (λh=>?_));rotate_left
 ·have h:i=b.aw.length:=by simp at h;omega
  subst h;rw[zAD,gq]at hr;refine Za rfl (Yd (cX zA rfl rfl rfl) (Ze _ (Yb zA)) (Zs (Xq (Yb zA) rfl) ?_));rw[hr]
 have h:i<b.aw.length:=by simpa using h
 have cH:=λ(s:List ab)=>Xm s oi false false 7 b.aw .i64 i h;have G5:=zAj.1 fa _ (AT h);have k_:=Yw _ _ h;rw[gI h,gq]at hr;generalize b.aw[i]=f at cH G5 k_ hr;simp only[oj,AI,fE]at G5;obtain⟨fo1,fo2,fo3⟩:=G5;refine Za (cH _) (Za (bB (JB f)) (Qu (row:=oi f) (row':=oi f) rfl rfl rfl ?_));have hB:=Yc σ (ab.box (oi f));have zz:aj (σ++[ab.box (oi f)]) 0=.box [iH b.ai,o9 b.aw]:=Qb _ zy;have JY:aj (σ++[ab.box (oi f)]) 1=.box [iv 0,iv 0]:=Qb _ zA;have CY:aj (σ++[ab.box (oi f)]) 2=.map (jl m):=Qb _ lV;generalize σ++[ab.box (oi f)]=τ at hB zz JY CY ⊢;generalize σ.length=c at hB ⊢;clear zy zA lV;refine Za (ZS ..) (Zdx (g:=λs=>s) (σ:=τ) (d:=ez f.name) rfl (ld hB rfl) (λk hk=>aY (c223 _ fo1) g167.ok hk) (Qdx rfl rfl (ld hB rfl) (RL CY _) rfl (GG rfl (ld hB rfl) (qw ..) (Xdx rfl (ld hB rfl) rfl (ld hB rfl) (Ot ..) (GG rfl (ld hB rfl) (Ot ..) (GG rfl (ld hB rfl) (qw ..) (GG rfl (ld hB rfl) (Ot ..) (Za rfl (Za (ld hB rfl) (Za rfl (Za (ld hB rfl) (Za rfl ?_))))))))))));refine QK 3 (Zl (Za rfl (Yh (Za rfl (Yd rfl (Xe _ _) ?_)))));refine Za (v:=iv f.jG.length) (rd:=[]) (by simp[Zf]) (Yd0 b fc f.jG fo2 _ zz (λw τ2 o2=>?_));refine Za rfl (Zl (Za rfl (Yh (Za rfl (Yd rfl (Xe _ _) ?_)))));refine Za (v:=iv f.single.length) (rd:=[]) (by simp[Zf]) (Yd0 b fc f.single fo3 _ (o2.get zz (by simp)) (λw τ3 o3=>?_));have o:=o2.trans o3;refine Za rfl (Zl (Za rfl (Ye ?_)));have bQ:((((((((((decide ((i:Int)<240)&&ez f.name) && !(cu f.name m).getD false)&&decide (0<=f.least))&&decide (f.least<=f.most))&&decide (f.most<=60))&&decide (0<=f.jI))&&decide (f.jI<=999))&&iu b.ai [] f.jG)&&iu b.ai [] f.single))=lU b (b.aw.take i) f:=by
  have hti:(b.aw.take i).length=i:=by rw[zAq];omega
  have e:decide ((i:Int)<240)=decide (i<240):=by congr 1;simp;omega
  rw[lU,hti,BJ,e];generalize (List.take i b.aw).any (λg=>g.name==f.name)=x1;generalize decide (i<240)=x2;generalize ez f.name=x3;cases x1<;>cases x2<;>cases x3<;>simp[zCM]
 have tU:=o.get JY (by simp);have wo:=o.get CY (by simp);have JM:=o.get hB (by simp);have JX:=o.get zz (by simp);refine Za (v:=.bool (!lU b (b.aw.take i) f)) (rd:=[]) (by rw[←bQ];rfl) (Ya (λh2=>?_) (λh2=>?_))
 ·have h2:lU b (b.aw.take i) f=false:=by simpa using h2
  rw[h2,aE (by simp)]at hr;refine Za rfl (Za (ld JM rfl) (Za rfl (Yd (cX tU rfl rfl rfl) (Ze _ (Yb tU)) (Zs (Xq (Yb tU) rfl) ?_))));rw[hr]
 ·have h2:lU b (b.aw.take i) f=true:=by simpa using h2
  rw[h2,aJ rfl]at hr;refine Za rfl (Za (ld JM rfl) (Yd (Gi wo _ _) (Ze _ (Yb wo)) (Za (Qj ..) ?_)));rw[Qc (n:=i) (by omega)];refine bn (i+1) _ _ (by omega) ⟨_,rfl,by omega,?_,?_,Zd _ (Yb wo),by rw[k_];exact BJ.put f,by rw[k_];exact hr⟩
  ·exact Zb JX (by simp) (by omega)
  ·exact Zb tU (by simp) (by omega)
def Yg(l:List Cd):Prop:=∀c∈l,(pz c).length<=500000000
theorem AY(cs:List Cd)(hf:ZG cs=true)(hs:Yg cs):PC 78 [iH cs] (.agg [iv (cE cs).1,iv (cE cs).2]):=by
 refine c180 cs hf (λm hm c hc=>?_);have wD:il c=true:=by
  simp_all [ZG]
 have J8:=wD;simp only[il,AI,fE]at J8;obtain⟨q0,q1,q2,q3⟩:=J8;exact c221 m cs hm c wD (c223 _ q0) (c124 c q1 q2 q3 (hs c hc))
theorem c143(b:Bk)(hf:a_ b=true)(hs:Yg b.ai):PC 118 [cC b] (.agg [iv (bz b).1,iv (bz b).2]):=by
 have OM:=hf;simp only[a_,AI]at OM;have G0:=OM.1;have p179:PC 160 [.aq [iH b.ai,o9 b.aw] 0] (.agg [iv (cE b.ai).1,iv (cE b.ai).2]):=by
  refine Xa hP g160.ok rfl rfl ?_;rw[H1.e];unfold g160;dsimp only;refine ay (aY (AY _ G0 hs) g78.ok ?_);exact ay rfl
 have p181:PC 161 [.aq [iH b.ai,o9 b.aw] 0] (.agg [iv (jr b.ai).1,iv (jr b.ai).2]):=by
  refine Xa hP g161.ok rfl rfl ?_;rw[H1.e];unfold g161;dsimp only;refine ay (aY (c182 _ G0) g162.ok ?_);exact ay rfl
 have p183:PC 163 [.aq [iH b.ai,o9 b.aw] 0] (.agg [iv (gq b [] b.aw).1,iv (gq b [] b.aw).2]):=by
  refine Xa hP g163.ok rfl rfl ?_;rw[H1.e];unfold g163;dsimp only;refine ay (aY (c184 b hf) g164.ok ?_);exact ay rfl
 refine Xa hP g118.ok rfl rfl ?_;rw[H1.e];unfold g118;dsimp only;refine ay ?_;refine QK 4 (Zl ?_);refine ay (YG p179 rfl g160.ok.plain rfl rfl ?_);refine ae (Ya (λh=>?_) (λh=>Za rfl ?_))
 ·refine ay ?_;rw[bz,aJ (by simpa using h)]
 refine Zl (ay (YG p181 rfl g161.ok.plain rfl rfl ?_));refine ae ?_;refine Ya (λh2=>?_) (λh2=>Za rfl ?_)
 ·refine ay ?_;simp_all [bz]
 refine Zl (ay (YG p183 rfl g163.ok.plain rfl rfl ?_));refine ae (Ya (λh3=>?_) (λh3=>Za rfl ?_))
 ·refine ay ?_;simp_all [bz]
 refine Zl (ay ?_);rw[bz,aE (by simpa using h),aE (by simpa using h2)];have h3:(gq b [] b.aw).1=0:=by simpa using h3
 have key:∀(l pre:List Fo),(gq b pre l).1=0→(gq b pre l).2=0:=by
  intro l
  induction l<;>grind [gq]
 rw[h3,key _ _ h3]
theorem de.vQ{P:Program}{GL:ar}{f:FuncId}{e:Bool}{sz:Nat}{v:aa}{bs:List ab}(h1:de P GL f [.an] v bs)(h2:de P GL f [.aU e true sz []] v bs):de P GL f [.aU e false sz []] v bs:=by
 intro w M vs hM hg hx
 match vs,hx with
 |[u],⟨hu,_⟩=>
  have hu':Den M bA (.aU e false sz []) u:=hu;cases hu' with
  |aU _ _ _ _ _ a cap blk off f q1 q2 q3 q4 q5 q6 q7 q8=>
   cases a with
   |none=>
    have:=q4 rfl;subst this;exact h1 w M _ hM hg ⟨.an _,trivial⟩
   |some p=>exact h2 w M _ hM hg ⟨.aU _ e true sz [] (some p) cap blk off f q1 (λ_=>rfl) q3 q4 q5 q6 q7 q8,trivial⟩
theorem c96(l:List Int)(hl:l.length<=1000000000):de prog aG 44 [aP l] (.sl 0 0 l.length false) [.rows 1 (l.map aR)]:=by
 cases l with
 |nil=>
  refine de.vQ ?_ ?_
  ·refine Yv hP g44.ok rfl ?_;rw[H1.e];unfold g44;dsimp only;exact Za rfl (Yh (Tidy.ghost 1 (.inl rfl)))
  ·refine Yv hP g44.ok rfl ?_;rw[H1.e];unfold g44;dsimp only;exact ay (Tidy.trans (Tidy.dY λM c u d=>XW (.aU true true 1 []) ⟨M,c⟩ u d) (Tidy.ghost 1 (.inr rfl)))
 |cons x l=>
  refine Yv hP g44.ok rfl ?_;rw[H1.e];unfold g44;dsimp only;refine ay (Yd (v:=.sl 0 0 (x :: l).length false) (rd:=[]) (up:=[(0,.rows 1 ((x :: l).map aR))]) ?_ rfl (Tidy.refl _ _));show (match Xk 1 [] (aP (x :: l))with
   |some (ys,rd)=>bif aW ys&&zAP ((2*(([]:List (List aa)).length+ys.length)+192)*8) (2 ^ 48)then aA.ok (.sl 0 0 (([]:List (List aa)).length+ys.length) false) rd ([]++[(0,ab.rows 1 ([]++ys))])else aA.stop
   | none=>.stop)=_
  have h1:Xk 1 [] (aP (x::l))=some ((x::l).map aR,[]):=rfl;have h2:∀q:List Int,aW (q.map aR)=true:=by
   intro q;induction q with
   |nil=>rfl
   |cons y q ih=>simp only[zAN,aW,ih,zAz];rfl
  have h3:zAP ((2*(([]:List (List aa)).length+((x::l).map aR).length)+192)*8) (2 ^ 48)=true:=sh (by simp only[zAH,zAG];omega);simp only[h1,h2,h3,zAu,cond_true];simp
theorem w96{l:List Int}(hl:l.length<=1000000000){σ:List ab}{K:KT}(hK:K (.sl σ.length 0 l.length false) (σ++[.rows 1 (l.map aR)])):VV.call (.call 44) [aP l] σ K:=by
 refine Iu (c96 l hl) rfl g44.ok.plain rfl ?_;simp only[Xv,zAN,zBC,Y2,aa.ct,XC,No];exact hK
theorem d96{l:List Int}(hl:l.length<=1000000000){σ:List ab}{K:aa→List Nat×List Nat→List ab→Prop}(hK:K (.sl σ.length 0 l.length false) ([],[σ.length]) (σ++[.rows 1 (l.map aR)])):VV.eS (.call 44) [aP l] σ K:=by
 refine NO (c96 l hl) rfl g44.ok.plain rfl ?_;simp only[Xv,zAN,zBC,Y2,aa.ct,XC,No,Z7];exact hK
theorem c112(l:List Th)(hl:l.length<=1000000000):de prog aG 45 [gU l] (.sl 0 0 l.length false) [.rows 4 (l.map bg)]:=by
 cases l with
 |nil=>
  refine de.vQ ?_ ?_
  ·refine Yv hP g45.ok rfl ?_;rw[H1.e];unfold g45;dsimp only;exact Za rfl (Yh (Tidy.ghost 4 (.inl rfl)))
  ·refine Yv hP g45.ok rfl ?_;rw[H1.e];unfold g45;dsimp only;exact ay (Tidy.trans (Tidy.dY λM c u d=>XW (.aU true true 4 []) ⟨M,c⟩ u d) (Tidy.ghost 4 (.inr rfl)))
 |cons x l=>
  refine Yv hP g45.ok rfl ?_;rw[H1.e];unfold g45;dsimp only;refine ay (Yd (v:=.sl 0 0 (x :: l).length false) (rd:=[]) (up:=[(0,.rows 4 ((x :: l).map bg))]) ?_ rfl (Tidy.refl _ _));show (match Xk 4 [] (gU (x :: l))with
   |some (ys,rd)=>bif aW ys&&zAP ((2*(([]:List (List aa)).length+ys.length)+192)*32) (2 ^ 48)then aA.ok (.sl 0 0 (([]:List (List aa)).length+ys.length) false) rd ([]++[(0,ab.rows 4 ([]++ys))])else aA.stop
   | none=>.stop)=_
  have h1:Xk 4 [] (gU (x::l))=some ((x::l).map bg,[]):=rfl;have h2:∀q:List Th,aW (q.map bg)=true:=by
   intro q;induction q with
   |nil=>rfl
   |cons y q ih=>simp only[zAN,aW,ih,zAz];rfl
  have h3:zAP ((2*(([]:List (List aa)).length+((x::l).map bg).length)+192)*32) (2 ^ 48)=true:=sh (by simp only[zAH,zAG];omega);simp only[h1,h2,h3,zAu,cond_true];simp
theorem d112{l:List Th}(hl:l.length<=1000000000){σ:List ab}{K:aa→List Nat×List Nat→List ab→Prop}(hK:K (.sl σ.length 0 l.length false) ([],[σ.length]) (σ++[.rows 4 (l.map bg)])):VV.eS (.call 45) [gU l] σ K:=by
 refine NO (c112 l hl) rfl g45.ok.plain rfl ?_;simp only[Xv,zAN,zBC,Gv,aa.ct,XC,No,Z7];exact hK
theorem c59(s:St)(hs:bd 1000000000 s):de prog aG 20 [bZ s] (.agg (po s 0)) (mq s):=by
 refine Yv hP g20.ok rfl ?_;rw[H1.e];unfold g20;dsimp only;have w1:BY.wrap (0+1)=1:=by decide
 have w2:BY.wrap (1+1)=2:=by decide
 refine ay (w96 hs.ao ?_);simp only[IS,zAG,zAM,zAL,No,Nat.reduceAdd];refine ay (QK 3 (Zl ?_));refine ay (d96 hs.s0.az ?_);simp only[IS,zAG,zAM,zAL,No,Nat.reduceAdd];refine ay (d96 hs.s0.hand ?_);simp only[IS,zAG,zAM,zAL,No,Nat.reduceAdd];refine ay (d96 hs.s0.al ?_);simp only[IS,zAG,zAM,zAL,No,Nat.reduceAdd];refine ay (d96 hs.s0.told ?_);simp only[IS,zAG,zAM,zAL,No,Nat.reduceAdd];refine ay (d112 hs.s0.af ?_);simp only[IS,zAG,zAM,zAL,No,Nat.reduceAdd];repeat first|refine Za rfl ?_|refine Yd rfl rfl ?_|refine Zi rfl ?_|refine Xf rfl rfl ?_
 refine Zw (by kernel_rfl) (Za rfl ?_);rw[w1];refine Zl (ay (d96 hs.s1.az ?_));simp only[IS,zAG,zAM,zAL,No,Nat.reduceAdd];refine ay (d96 hs.s1.hand ?_);simp only[IS,zAG,zAM,zAL,No,Nat.reduceAdd];refine ay (d96 hs.s1.al ?_);simp only[IS,zAG,zAM,zAL,No,Nat.reduceAdd];refine ay (d96 hs.s1.told ?_);simp only[IS,zAG,zAM,zAL,No,Nat.reduceAdd];refine ay (d112 hs.s1.af ?_);simp only[IS,zAG,zAM,zAL,No,Nat.reduceAdd];repeat first|refine Za rfl ?_|refine Yd rfl rfl ?_|refine Zi rfl ?_|refine Xf rfl rfl ?_
 refine Zw (by kernel_rfl) (Za rfl ?_);rw[w2];refine Zl ?_;refine ay ?_;refine Tidy.gc [2,3,4,5,7,6,8,9,10,12,11] (by decide) (by simp) ?_ rfl;simp only[JE,zAN,zBC,aj,Y2,Gv]
def dV{α:Type}(t:Int):List (Int×α)→Option α
 |[]=>none
 |p::l=>if t==p.1 then some p.2 else dV t l
def rP{α:Type}(f:α→aa)(l:List (Int×α)):List (aa×aa):=l.map λp=>(iv p.1,f p.2)
theorem Ww{α:Type}(f:α→aa)(t:Int):∀l:List (Int×α),jq (iv t) (rP f l)=some ((dV t l).map f)
 |[]=>rfl
 |p::l=>by
  simp only[rP,zAN,jq,jz,dV,jU,cond_true];cases h:t==p.1 with
  |true=>rfl
  |false=>exact Ww f t l
theorem WN{α:Type}(f:α→aa)(t:Int)(v:α):∀l:List (Int×α),dV t l=none→nS (iv t) (f v) (rP f l)=some (rP f (l++[(t,v)]))
 |[],_=>rfl
 |p::l,h=>by
  rw[dV]at h;split at h
  ·cases h
  ·rename_i h2;have h2:(t==p.1)=false:=by simpa using h2
   have:=WN f t v l h;simp only[rP]at this;simp only[rP,zAN,zAL,nS,jz,jU,cond_true,h2,this]
theorem Wb{α:Type}(t:Int):∀ (a b:List (Int × α)),dV t (a ++ b)=(match dV t a with
 |some v=>some v
 | none=>dV t b)
 |[],b=>rfl
 |p::a,b=>by
  simp only[zAL,dV];split
  ·rfl
  ·exact Wb t a b
theorem P4{α:Type}(t:Int):∀l:List (Int×α),(dV t l).isSome=(l.map (·.1)).contains t
 |[]=>rfl
 |p::l=>by
  simp only[dV,zAN,zDx];cases h:t==p.1 with
  |true=>simp
  |false=>simp only[zAS,if_false,zCR];exact P4 t l
theorem SI{α:Type}(f:α→aa)(z:aa)(ok:Bool){σ:List ab}{b:Nat}{l:List (Int×α)}(h:aj σ b=.map (rP f l))(t:Int):Yy false ok z [.map b,iv t] σ=.ok (la ok z ((dV t l).map f)) [b] []:=by
 simp only[Yy,yP,mapOf,h,Ww,cond_true]
theorem YdY{α:Type}(f:α→aa){σ:List ab}{b:Nat}{l:List (Int×α)}(h:aj σ b=.map (rP f l))(t:Int)(v:α)(hn:dV t l=none):XG false [.map b,iv t,f v] σ=.ok .aQ [] [(b,.map (rP f (l++[(t,v)])))]:=by
 simp only[XG,yP,h,WN f t v l hn,cond_true]
structure Ch (row:List aa) (j:Nat) (x:Sd):Prop where
 h0:aK false (j+0) 1 row=some (iv x.aV)
 h1:aK false (j+1) 1 row=some (iv x.aT)
 h2:aK false (j+2) 1 row=some (iv x.most)
 h3:aK false (j+3) 1 row=some (aP x.az)
 h4:aK false (j+4) 1 row=some (aP x.hand)
 h5:aK false (j+5) 1 row=some (aP x.al)
 h6:aK false (j+6) 1 row=some (gU x.af)
 h7:aK false (j+7) 1 row=some (aP x.told)
theorem LJ(s:St):Ch (aI s) 7 s.s0:=⟨rfl,rfl,rfl,rfl,rfl,rfl,rfl,rfl⟩
theorem LK(s:St):Ch (aI s) 15 s.s1:=⟨rfl,rfl,rfl,rfl,rfl,rfl,rfl,rfl⟩
set_option maxHeartbeats 2000000
theorem c120(l:List Int)(hl:l.length<=gn)(id:FuncId)(fs cs:List aa)(hp:Zh prog id=true)(f:Int→Bool)(hc:∀x∈l,PC id (fs++[iv x]++cs) (.bool (f x)))(hr:∀x,ga (fs++[iv x]++cs)=true) :
  PC 91 [aP l,.func (.func id) fs cs] (iv (ea f l 0)):=by
 rw[cZ]at hl;refine Xa hP g91.ok rfl rfl ?_;rw[H2.e];unfold g91;dsimp only;refine Za (v:=iv l.length) (rd:=[]) (by simp[Zf]) (Xg (ι:=Nat) (λi vs s=>vs=[iv i]∧i<=l.length∧ea f l 0=ea f (l.drop i) i) (λi=>l.length-i) 0 ⟨rfl,by omega,by simp⟩ ?_);rintro i vs s again ⟨rfl,hi,jS⟩ bn;refine Za rfl (YS (λh=>?_) (λh=>?_))
 ·refine Za (Xm _ aR _ _ _ l _ i h) (Za (bB rfl) ?_);refine Yo (hc _ (AT h)) rfl hp (hr _) ?_;rw[gI h,ea]at jS;refine Ya (λh2=>?_) (λh2=>?_)
  ·rw[aJ h2]at jS;rw[jS];rfl
  ·rw[aE (by rw[h2];simp)]at jS;refine Za (Qj ..) ?_;rw[Qc (n:=i) (by omega)];exact bn (i+1) _ _ (by omega) ⟨rfl,by omega,by rw[jS];push_cast;rfl⟩
 ·subst h;rw[zAD,ea]at jS;rw[jS]
theorem c185(l:List Int)(hl:l.length<=gn)(id:FuncId)(fs cs:List aa)(hp:Zh prog id=true)(f:Int→Bool)(hc:∀x∈l,PC id (fs++[iv x]++cs) (.bool (f x)))(hr:∀x,ga (fs++[iv x]++cs)=true)(Hb:ga [aP l,.func (.func id) fs cs]=true) :
  PC 165 [aP l,.func (.func id) fs cs] (.bool (l.any f)):=by
 refine Xa hP g165.ok rfl rfl ?_;rw[H2.e];unfold g165;dsimp only;refine Yo (c120 l hl id fs cs hp f hc hr) rfl g91.ok.plain Hb (Za (qw ..) ?_);rw[Oa f l 0 (by omega)]
theorem c186(b:Bk)(x:Int):PC 166 [iv x,.aq [.aq [iH b.ai,o9 b.aw] 0] 0] (.bool (decide (x<0)||decide ((b.ai.length:Int)<=x))):=by
 refine Xa hP g166.ok rfl rfl ?_;rw[H2.e];unfold g166;dsimp only;refine Za (ZS ..) (Cg (λ_=>rfl) (λ_=>bB rfl) (λ_=>rfl) (λ_=>rfl) (λ_=>bB rfl) (v6:=iv b.ai.length) (q6:=[]) (λ_=>by simp[Zf]) (λ_=>qw ..) rfl)
theorem YcN(n:Nat)(l:List Int)(most:Int):(!(decide ((l.length:Int)>most)||l.any λx=>decide (x<0)||decide ((n:Int)<=x)))=Qo n l most:=by
 rw[Qo,Bool.not_or,Xdp]
 congr 1
 ·rw[zAk];simp
 ·congr 1;funext x
  rw[zAk];simp
theorem XdO(f:Int→aa)(z:aa)(o:Option Int):la true z (o.map f)=.bp [(o.map f).getD z,.bool o.isSome]:=by cases o<;>rfl
theorem Zc6{σ:List ab}{b:Nat}{row:List aa}(h:aj σ b=.box [.aq row 0])(l:List Int)(id:FuncId):Zy σ 1000 [aP l,.func (.func id) [] [.ak b 0]]=some ([aP l,.func (.func id) [] [.aq [.aq row 0] 0]],[b]):=by
 simp_all [Zy]
set_option maxHeartbeats 4000000
@[reducible] def cy(b:Bk):List aa:=[iH b.ai,o9 b.aw]
theorem Ol(b:Bk)(l:List Int)(hl:l.length<=gn)(most:Int){σ:List ab}{b4:Nat}(hb:aj σ b4=.box [.aq (cy b) 0]){R K:List ab→Prop}(hR:Qo b.ai.length l most=false→∀σ',Old σ σ'→R σ')(hK:Qo b.ai.length l most=true→∀σ',Old σ σ'→K σ') :
  VV.wr (Qs [.an,(.int .i64 0)] [] σ) σ λqq σ=>VV.wr (Yj 2 [qq,.agg [aP l,iv most]] σ) σ λ_ σ=>
  VV.rd (Xb 0 [qq] σ) λFI=>VV.rd (Qe false 1 [FI] σ) λFJ=>VV.rd (Qn [FJ] σ) λFK=>
  VV.rd (Xb 1 [qq] σ) λFN=>VV.rd (Qe false 1 [FN] σ) λFQ=>VV.rd (Ym .gtr false [FK,FQ] σ) λoZ=>
  VV.gr oZ false (λk=>VV.rd (Xb 0 [qq] σ) k) λFY=>VV.gr oZ false (λk=>VV.rd (Qe false 1 [FY] σ) k) λF0=>
  VV.gr oZ false (λk=>VV.rd (YT (.func 166) 0 [.ak b4 0] σ) k) λF3=>VV.gw oZ false (λk=>VV.call (.call 165) [F0,F3] σ k) σ λF6 σ=>
  VV.rd (Zo [oZ,(.bool true),F6] σ) λF8=>VV.test F8 (R σ) (K σ):=by
 refine Qu (row:=[aP l,iv most]) rfl rfl rfl ?_;have hB:=Yc σ (ab.box [aP l,iv most]);have cj:aj (σ++[ab.box [aP l,iv most]]) b4=.box [.aq (cy b) 0]:=Qb _ hb;have ho:=Old.app σ [ab.box [aP l,iv most]];generalize σ++[ab.box [aP l,iv most]]=τ at hB cj ho ⊢;generalize σ.length=c at hB ⊢;refine Za rfl (Za (ld hB rfl) (Za (v:=iv l.length) (rd:=[]) (by simp[Zf]) (Za rfl (Za (ld hB rfl) (Za (o_ ..) ?_)))));refine Xdy (d:=l.any λx=>decide (x<0)||decide ((b.ai.length:Int)<=x)) (λ_=>rfl) (λ_=>ld hB rfl) (λ_=>rfl) (λ_ k hk=>?_) ?_
 ·exact YG (c185 l hl 166 [] [.aq [.aq (cy b) 0] 0] g166.ok.plain (λx=>decide (x<0)||decide ((b.ai.length:Int)<=x)) (λx _=>c186 b x) (λx=>rfl) rfl) rfl g165.ok.plain (Zc6 cj l 166) rfl hk
 have he:=YcN b.ai.length l most;refine Ya (λh=>hR ?_ _ ho) (λh=>hK ?_ _ ho)
 ·rw[←he,h];rfl
 ·rw[←he,h];rfl
theorem Xei(b:Bk)(next:Int)(u:Th)(met:Bool) :
  (!((((((((met||decide (u.card<0))||decide ((b.ai.length:Int)<=u.card)) || !((b.ai[u.card.toNat]?).getD default).unit)||decide (u.harm<0))||decide (1000000<u.harm))||decide (u.id<1))||decide (next<=u.id))))=(Qz b next u && !met):=by
 rw[Qz]
 grind
theorem c144(b:Bk)(s:St)(side:Int)(j:Nat)(x:Sd)(hx:Ch (aI s) j x)(hj:∀σ,Yk 2 8 [.aq (aI s) (0+7),iv side] σ=.ok (.aq (aI s) j) [] [])(hs:lO 1000000000 x)(ids:List (Int×Int)){m:Nat}{σ:List ab}(hm:aj σ m=.map (rP iv ids)){K:KT}
 (hF:(Zx b.ai.length x&&XA b s.next (ids.map (·.1)) x.af)=false→∀σ',K (.bool false) σ')
 (hT:(Zx b.ai.length x&&XA b s.next (ids.map (·.1)) x.af)=true→∀σ',Bt m σ σ'→aj σ' m=.map (rP iv (ids++x.af.map λu=>(u.id,side)))→K (.bool true) σ') :
  g119.u VV [.aq (cy b) 0,.aq (aI s) 0,iv side,.map m] σ K:=by
 rw[H4.e];unfold g119;dsimp only;refine Yd rfl (Xe _ _) ?_;have hB:=Yc σ (ab.box [.aq (cy b) 0]);have nA:aj (σ++[ab.box [.aq (cy b) 0]]) m=.map (rP iv ids):=Qb _ hm;have ho:=Old.app σ [ab.box [.aq (cy b) 0]];have wO:=Yb hm;have cO:m≠σ.length:=by omega
 generalize σ++[ab.box [.aq (cy b) 0]]=τ at hB nA ho ⊢;generalize σ.length=c at hB cO ⊢;refine Za rfl (Za rfl (Za (hj _) (Za rfl (Za rfl (Za (bB hx.h0) ?_)))));refine aY (c57 _) g63.ok (Za rfl ?_);refine Iq (λ_=>rfl) (λ_=>rfl) (λ_=>rfl) (λ_=>bB hx.h1) (λ_=>ZS ..) (Qdy (λ_=>rfl) (λ_=>rfl) (λ_=>rfl) (λ_=>bB hx.h1) (λ_ k hk=>aY (c57 _) g63.ok hk) (λ_=>rfl) (Iq (λ_=>rfl) (λ_=>rfl) (λ_=>rfl) (λ_=>bB hx.h2) (λ_=>ZS ..) (Iq (λ_=>rfl) (λ_=>rfl) (λ_=>rfl) (λ_=>bB hx.h2) (λ_=>o_ ..) (SR (λ_=>rfl) (λ_=>rfl) (λ_=>rfl) (λ_=>bB hx.h6) (v5:=iv x.af.length) (q5:=[]) (λ_=>by simp[Zf]) (λ_=>o_ ..) (Ya (λh=>hF ?_ _) (λh=>?_))))))
 ·have:Zx b.ai.length x=false:=by
   rw[zBF];intro hh;simp only[Zx,AI,fE]at hh;obtain⟨p1,p2,p3,p4,p5,_,_,_,_,p6⟩:=hh;simp only[p1,p3,Bool.not_true,zCR,Bool.or_false,Bool.or_eq_true,fE]at h;omega
  rw[this];rfl
 simp only[zAv,zBh,sG]at h;obtain⟨⟨⟨⟨⟨p1,p2⟩,p3⟩,p4⟩,p5⟩,p6⟩:=h;have hh:Zx b.ai.length x=(Qo b.ai.length x.az 60&&(Qo b.ai.length x.hand 10&&(Qo b.ai.length x.al 1000000&&Qo b.ai.length x.told 1000000))):=by
  have q2:decide (0<=x.aT)=true:=by simp;omega
  have q4:decide (0<=x.most)=true:=by simp;omega
  have q5:decide (x.most<=10)=true:=by simp;omega
  have q6:decide (x.af.length<=7)=true:=by simp;omega
  rw[Zx,p1,p3,q2,q4,q5,q6];simp
 rw[hh]at hF hT;clear hh p1 p2 p3 p4 p5 p6;refine Za rfl (Za rfl (Za (bB hx.h3) (Za rfl (Za rfl (Za rfl (Za (bB hx.h4) (Za rfl (Za rfl (Za rfl (Za (bB hx.h5) (Za rfl (Za rfl (Za rfl (Za (bB hx.h7) (Za rfl (Za rfl ?_))))))))))))))));have d1:=hs.az;have d2:=hs.hand;have d3:=hs.al;have d4:=hs.told;have d5:=hs.af;refine QK 5 (Zl (Za rfl (Yh (Za rfl ?_))));refine Ol b x.az (by rw[cZ];omega) 60 hB (λh _ _=>hF (by rw[h];rfl) _) (λa1 σ1 o1=>Za rfl (Zl (Za rfl (Yh (Za rfl ?_)))));refine Ol b x.hand (by rw[cZ];omega) 10 (o1.get hB (by simp)) (λh _ _=>hF (by rw[a1,h];rfl) _) (λa2 σ2 o2=>Za rfl (Zl (Za rfl (Yh (Za rfl ?_)))))
 replace o2:=o1.trans o2
 refine Ol b x.al (by rw[cZ];omega) 1000000 (o2.get hB (by simp)) (λh _ _=>hF (by rw[a1,a2,h];rfl) _) (λa3 σ3 o3=>Za rfl (Zl (Za rfl (Yh (Za rfl ?_)))))
 replace o3:=o2.trans o3
 refine Ol b x.told (by rw[cZ];omega) 1000000 (o3.get hB (by simp)) (λh _ _=>hF (by rw[a1,a2,a3,h];rfl) _) (λa4 σ4 o4=>Za rfl (Zl (Za rfl (Ye ?_))))
 replace o4:=o3.trans o4
 rw[a1,a2,a3,a4]at hF hT;simp only[zAu,zAF]at hF hT;have hB4:=o4.get hB (by simp);have hm4:=o4.get nA (by simp);have oo:=ho.trans o4;clear o1 o2 o3 o4 ho hB nA hm;refine Za rfl (Za rfl (Za (bB hx.h6) (Za (v:=iv x.af.length) (rd:=[]) (by simp[Zf]) ?_)));refine Xg (ι:=Nat) (λi vs τ=>vs=[iv i]∧i<=x.af.length∧aj τ c=.box [.aq (cy b) 0]∧aj τ m=.map (rP iv (ids++(x.af.take i).map λu=>(u.id,side)))∧Bt m σ τ∧XA b s.next (ids.map (·.1)) x.af=XA b s.next ((ids++(x.af.take i).map λu=>(u.id,side)).map (·.1)) (x.af.drop i)) (λi=>x.af.length-i) 0
  ⟨rfl,by omega,hB4,by simpa using hm4,⟨oo.1,λc hc _=>oo.2 c hc⟩,by simp⟩ ?_
 clear hB4 hm4 oo;rintro i vs τ1 again ⟨rfl,hi,hB,hm,qA,hr⟩ bn;refine Za rfl (Ya (λh=>?_) (λh=>?_));rotate_left
 ·have h:i=x.af.length:=by simp at h;omega
  subst h;rw[zAD,XA]at hr;rw[zAr]at hm;exact hT hr _ qA hm
 have h:i<x.af.length:=by simpa using h
 have cH:=λ(s:List ab)=>Xm s bg false false 4 x.af .i64 i h;have k_:=Yw _ _ h;rw[gI h,XA]at hr;generalize x.af[i]=u at cH k_ hr;generalize hq:ids++(x.af.take i).map (λu=>(u.id,side))=cur at hm hr;have J3:ids++(x.af.take (i+1)).map (λu=>(u.id,side))=cur++[(u.id,side)]:=by rw[k_,zAe,←zAa,hq];rfl
 refine Za (cH _) (Za (bB rfl) (Qu (row:=bg u) (row':=bg u) rfl rfl rfl ?_));have hU:=Yc τ1 (ab.box (bg u));have yo:aj (τ1++[ab.box (bg u)]) c=.box [.aq (cy b) 0]:=Qb _ hB;have nA:aj (τ1++[ab.box (bg u)]) m=.map (rP iv cur):=Qb _ hm;have Dm:=Yb nA;have zB:Bt m σ (τ1++[ab.box (bg u)]):=qA.trans (Bt.gr m (Old.app _ _).1 (Old.app _ _).2);generalize τ1++[ab.box (bg u)]=τ2 at hU yo nA Dm zB ⊢;generalize τ1.length=d at hU ⊢;refine Za rfl (Za (ld hU rfl) (Za (SI iv _ _ nA _) ?_));rw[XdO];refine Za rfl (Za rfl ?_);refine vg (λ_=>rfl) (λ_=>ld hU rfl) (λ_=>ZS ..) (Yez (λ_=>rfl) (λ_=>ld hU rfl) (λ_=>ld yo rfl) (λ_=>rfl) (λ_=>rfl) (λ_=>bB rfl) (v7:=iv b.ai.length) (q7:=[]) (λ_=>by simp[Zf]) (λ_=>qw ..) (Yeg (d:=!((b.ai[u.card.toNat]?).getD default).unit) (λ_=>ld yo rfl) (λ_=>rfl) (λ_=>rfl) (λ_=>bB rfl) (λ_=>rfl) (λ_=>ld hU rfl) (v7:=.aq (cL ((b.ai[u.card.toNat]?).getD default)) 0) (q7:=[]) (λhc=>?_) (λ_=>rfl) (λ_=>bB (tP _)) (λ_=>rfl) ?_))
 ·simp only[zAv,sG]at hc;have e3:u.card.toNat<b.ai.length:=by omega
  rw[zAU e3];exact sH _ cL _ _ _ b.ai _ u.card (by omega) e3
 refine vg (λ_=>rfl) (λ_=>ld hU rfl) (λ_=>ZS ..) (vg (λ_=>rfl) (λ_=>ld hU rfl) (λ_=>o_ ..) (vg (λ_=>rfl) (λ_=>ld hU rfl) (λ_=>ZS ..) (Cg (λ_=>rfl) (λ_=>ld hU rfl) (λ_=>rfl) (λ_=>rfl) (λ_=>rfl) (v6:=iv s.next) (q6:=[]) (λ_=>bB rfl) (λ_=>qw ..) ?_)));have qG:=Xei b s.next u (dV u.id cur).isSome;have hk:=P4 u.id cur;refine Ya (λh2=>hF ?_ _) (λh2=>?_)
 ·rw[h2]at qG;rw[hr,←hk];have qG:(Qz b s.next u && !(dV u.id cur).isSome)=false:=qG.symm;cases h5:Qz b s.next u with
  |false=>rfl
  |true=>
   rw[h5]at qG;have:(dV u.id cur).isSome=true:=by simpa using qG
   rw[this];rfl
 ·rw[h2]at qG;have qG:(Qz b s.next u && !(dV u.id cur).isSome)=true:=qG.symm;simp only[AI,zAf]at qG;have kW:dV u.id cur=none:=by
   have:=qG.2;cases h5:dV u.id cur with
   |none=>rfl
   |some v=>rw[h5]at this;cases this
  rw[qG.1,←hk,qG.2,Bool.not_false,zAF,zAF]at hr;refine Za rfl (Za (ld hU rfl) (Yd (YdY iv nA _ side kW) (Ze _ Dm) (Za (Qj ..) ?_)));rw[Qc (n:=i) (by omega)];refine bn (i+1) _ _ (by omega) ⟨rfl,by omega,Zb yo (by simp) (λe=>cO e),?_,zB.trans ⟨by simp,λc hc cO=>Xc _ hc cO⟩,?_⟩
  ·rw[J3];exact Zd _ Dm
  ·rw[J3,hr,zAe];rfl
theorem Py(k:Int)(a:Int):∀l:List Th,dV a (l.map λu=>(u.id,k))=(gB l a).map λ_=>k
 |[]=>rfl
 |u::l=>by
  have:=Py k a l;simp only[zAN,dV,gB,zDw];by_cases h:u.id=a
  ·simp_all
  ·have h2:(a==u.id)=false:=by simp;exact λe=>h e.symm
   simp only[h2,zAS,if_false,gm h,this,gB,Option.map_map];rfl
theorem Ydm(s:St)(a:Int):dV a (s.s0.af.map (λu=>(u.id,(0:Int)))++s.s1.af.map (λu=>(u.id,(1:Int))))=if (aL s a).2.2=true then some (aL s a).1 else none:=by
 rw[Wb,Py,Py,aL]
 grind
theorem S7(b:Bk):aK true 0 2 (cy b)=some (cC b):=rfl
theorem Qt{e:Int}{b:Bk}{s:St}{bare:Bool}(h:aO e b s bare=true):e=0∧1<=s.turn∧s.turn<=4096∧0<=s.mover∧s.mover<=1∧0<=s.phase∧s.phase<=2∧0<=s.result∧s.result<=3∧((s.result==0)==(s.phase != 2))=true∧1<=s.next∧s.next<=1000000∧s.ao.length<=7:=by
 simp only[aO,AI,fE]at h
 grind
theorem Zdm(o:Option Int):la true (iv 0) (o.map iv)=.bp [iv (o.getD 0),.bool o.isSome]:=by cases o<;>rfl
theorem Qdl(o:Option Bool):la false (.bool false) (o.map aa.bool)=.bool (o.getD false):=by cases o<;>rfl
theorem WH(t:Int):∀l:List Int,(dV t (l.map λa=>(a,true))).getD false=l.contains t
 |[]=>rfl
 |a::l=>by
  simp only[zAN,dV,zDx];cases h:t==a<;>simp_all [WH]
theorem c111(b:Bk)(hf:a_ b=true)(bY:Yg b.ai)(s:St)(hs:bd 1000000000 s)(bare:Bool):PC 76 [.aq (cy b) 0,.aq (aI s) 0,.bool bare] (.bool (aO (bz b).1 b s bare)):=by
 have h143:=c143 b hf bY;generalize (bz b).1=e at h143 ⊢;generalize (bz b).2=ep at h143;have qz:=hs.ao;refine Xa hP g76.ok rfl rfl ?_;rw[H3.e];unfold g76;dsimp only;refine Za rfl (Za rfl (Za (bB rfl) (Za (ZS ..) ?_)));refine Qg λk4 OO=>?_;have mf:(aO e b s bare=true→False)→k4 [.bool true] []:=by
  intro h;rw[OO];refine Yh ?_;rw[zBF.2 (λhm=>h hm)]
 apply Jl (R:=k4 [.bool false] []) (1<=s.turn∧s.turn<=4096∧0<=s.mover∧s.mover<=1∧0<=s.phase∧s.phase<=2∧0<=s.result∧s.result<=3∧((s.result==0)==(s.phase != 2))=true∧1<=s.next∧s.next<=1000000∧s.ao.length<=7∧e=0)
 ·intro hR;clear OO;refine Ya (λh=>by rw[h];exact mf (λhm=>by have:=Qt hm;simp at h;omega)) (λb1=>Za rfl (Za rfl (Za (bB rfl) (Za (o_ ..) ?_))));refine Ya (λh=>by rw[h];exact mf (λhm=>by have:=Qt hm;simp at h;omega)) (λb2=>Za rfl (Za rfl (Za (bB rfl) (Za (ZS ..) ?_))));refine Ya (λh=>by rw[h];exact mf (λhm=>by have:=Qt hm;simp at h;omega)) (λb3=>Za rfl (Za rfl (Za (bB rfl) (Za (o_ ..) ?_))));refine Ya (λh=>by rw[h];exact mf (λhm=>by have:=Qt hm;simp at h;omega)) (λb4=>Za rfl (Za rfl (Za (bB rfl) (Za (ZS ..) ?_))));refine Ya (λh=>by rw[h];exact mf (λhm=>by have:=Qt hm;simp at h;omega)) (λb5=>Za rfl (Za rfl (Za (bB rfl) (Za (o_ ..) ?_))));refine Ya (λh=>by rw[h];exact mf (λhm=>by have:=Qt hm;simp at h;omega)) (λb6=>Za rfl (Za rfl (Za (bB rfl) (Za (ZS ..) ?_))));refine Ya (λh=>by rw[h];exact mf (λhm=>by have:=Qt hm;simp at h;omega)) (λb7=>Za rfl (Za rfl (Za (bB rfl) (Za (o_ ..) ?_))));refine Ya (λh=>by rw[h];exact mf (λhm=>by have:=Qt hm;simp at h;omega)) (λb8=>Za rfl (Za rfl (Za (bB rfl) (Za (Ys ..) (Za rfl (Za rfl (Za (bB rfl) (Za (Z6 ..) (Za (Qeq ..) ?_)))))))));have hx:(!(decide (s.result=0)==decide (s.phase≠2))) = !((s.result==0)==(s.phase != 2)):=by
   congr 1
   have e1:decide (s.result=0)=(s.result==0):=by rw[zAk];simp
   have e2:decide (s.phase≠2)=(s.phase != 2):=by rw[zAk];simp
   rw[e1,e2]
  rw[hx];refine Ya (λh=>by rw[h];exact mf (λhm=>by have:=(Qt hm).2.2.2.2.2.2.2.2.2.1;rw[this]at h;cases h)) (λb9=>Za rfl (Za rfl (Za (bB rfl) (Za (ZS ..) ?_))));refine Ya (λh=>by rw[h];exact mf (λhm=>by have:=Qt hm;simp at h;omega)) (λb10=>Za rfl (Za rfl (Za (bB rfl) (Za (o_ ..) ?_))));refine Ya (λh=>by rw[h];exact mf (λhm=>by have:=Qt hm;simp at h;omega)) (λb11=>Za rfl (Za rfl (Za (bB rfl) (Za (v:=iv s.ao.length) (rd:=[]) (by simp[Zf]) (Za (o_ ..) ?_)))));refine Ya (λh=>by rw[h];exact mf (λhm=>by have:=Qt hm;simp at h;omega)) (λb12=>Za rfl (Za (bB (S7 b)) ?_));refine aY h143 g118.ok ?_;refine ae ?_;by_cases he:e=0
  ·rw[show decide (e≠0)=false by simp[he]];simp at b1 b2 b3 b4 b5 b6 b7 b8 b10 b11 b12;exact hR ⟨by omega,by omega,by omega,by omega,by omega,by omega,by omega,by omega,by simpa using b9,by omega,by omega,by omega,he⟩
  ·rw[show decide (e≠0)=true by simp[he]];exact mf (λhm=>he (Qt hm).1)
 rintro⟨p1,p2,p3,p4,p5,p6,p7,p8,p9,p10,p11,p12,p13⟩;rw[OO];clear OO mf k4;have lu:aO e b s bare=(YC b s&&(if s.phase≠1 then decide (s.ao.length=0)else !(decide (s.ao.length=0) && !bare)&&(s.bV&&fm s [] s.ao))):=by
  rw[aO,fk p13,fk p1,fk p2,fk p3,fk p4,fk p5,fk p6,fk p7,fk p8,p9,fk p10,fk p11,fk p12];rfl
 rw[lu];clear lu h143 p1 p2 p3 p4 p5 p6 p7 p8 p9 p10 p11 p13;have w1:BY.wrap (0+1)=1:=by decide
 have w2:BY.wrap (1+1)=2:=by decide
 refine ay (QK 3 (Zl (Za rfl (Yh ?_))));refine Qd hP rfl g119.ok rfl (c144 b s 0 7 s.s0 (LJ s) (λ_=>rfl) hs.s0 [] (by rfl) (λh σ1=>?_) (λh σ1 t1 m1=>?_))
 ·refine Za rfl (Yh ?_);have h:(Zx b.ai.length s.s0&&XA b s.next [] s.s0.af)=false:=h;have:YC b s=false:=by
   rw[YC,←zCM,h];rfl
  rw[this];rfl
 refine Za rfl (Ye (Za rfl ?_));rw[w1];refine Zl (Za rfl (Yh ?_));refine Qd hP rfl g119.ok rfl (c144 b s 1 15 s.s1 (LK s) (λ_=>rfl) hs.s1 _ m1 (λh2 σ2=>?_) (λh2 σ2 t2 m2=>?_))
 ·refine Za rfl (Yh ?_);have e0:(([]++s.s0.af.map λu=>(u.id,(0:Int))):List (Int×Int)).map (·.1)=s.s0.af.map Th.id:=by simp[zCk]
  rw[e0]at h2;have:YC b s=false:=by
   rw[YC,h2];simp
  rw[this];rfl
 have hso:YC b s=true:=by
  have e0:(([]++s.s0.af.map λu=>(u.id,(0:Int))):List (Int×Int)).map (·.1)=s.s0.af.map Th.id:=by simp[zCk]
  rw[e0]at h2;have h:(Zx b.ai.length s.s0&&XA b s.next [] s.s0.af)=true:=h;rw[YC,←zCM,h,h2];rfl
 rw[hso,zAF];clear hso h h2 m1 t1 t2;refine Za rfl (Ye (Za rfl ?_));rw[w2];refine Zl (ax (Ya (λhp=>?_) (λhp=>?_)))
 ·have hp:s.phase≠1:=by simpa using hp
  rw[aJ hp];refine Za rfl (Za rfl (Za (bB rfl) (Za (v:=iv s.ao.length) (rd:=[]) (by simp[Zf]) (Za (Ys ..) ?_))))
  congr 1
  rw[zAk];simp
 have hp:¬s.phase≠1:=by simpa using hp
 rw[aE hp];refine Yd rfl (Xe _ _) (Za rfl (Za rfl (Za (bB rfl) (Za (v:=iv s.ao.length) (rd:=[]) (by simp[Zf]) ?_))));have j4:aj (σ2++[ab.map []]) σ2.length=.map (rP aa.bool (([]:List Int).map λa=>(a,true))):=Yc _ _;have hold:=Qb [ab.map []] m2;have cO:σ2.length≠0:=by have:=Yb m2;omega
 generalize σ2++[ab.map []]=τ at j4 hold ⊢;generalize σ2.length=mb at j4 cO ⊢;refine Xg (ι:=Nat) (λi vs τ=>vs=[iv i]∧i<=s.ao.length∧aj τ 0=.map (rP iv (([]++s.s0.af.map λu=>(u.id,(0:Int)))++s.s1.af.map λu=>(u.id,(1:Int))))∧aj τ mb=.map (rP aa.bool ((s.ao.take i).map λa=>(a,true)))∧fm s [] s.ao=fm s (s.ao.take i) (s.ao.drop i)) (λi=>s.ao.length-i) 0
  ⟨rfl,by omega,hold,by simpa using j4,by simp⟩ ?_
 clear j4 hold m2;rintro i vs τ1 again ⟨rfl,hi,G7,UA,hr⟩ bn;refine Za rfl (Ya (λh=>?_) (λh=>?_));rotate_left
 ·have h:i=s.ao.length:=by simp at h;omega
  subst h;rw[zAD,fm]at hr;rw[hr,zAz];refine ax ?_;cases ir:s.bV with
  |false=>
   refine ay ?_;simp
  |true=>
   refine ay ?_;cases bare with
   |true=>
    refine ay ?_;simp
   |false=>
    refine Qa (Za rfl (Qa (Za rfl (Qa (Za rfl (Qa (Za (bB rfl) (Qa (Za (v:=iv s.ao.length) (rd:=[]) (by simp[Zf]) ?_)))))))));refine ay ?_;show aa.bool _=_
    congr 1
    rw[zAk];simp[List.length_pos_iff]
 have h:i<s.ao.length:=by simpa using h
 have k_:=Yw _ _ h;rw[gI h,fm]at hr;refine Za (Xm _ aR _ _ _ s.ao _ i h) (Za (bB rfl) (Za (SI iv _ _ G7 _) ?_));rw[Zdm,zAM,Ydm];generalize s.ao[i]=a at k_ hr ⊢;generalize ho:(if (aL s a).2.2=true then some (aL s a).1 else none)=o;have OS:o.isSome=(aL s a).2.2:=by rw[←ho];cases (aL s a).2.2<;>rfl
 have OU:(aL s a).2.2=true→o.getD 0=(aL s a).1:=by intro q;rw[←ho,aJ q];rfl
 refine ay ?_;refine SR (λ_=>rfl) (λ_=>rfl) (λ_=>rfl) (λ_=>rfl) (λ_=>bB rfl) (λ_=>Z6 ..) ?_;refine vg (d:=(dV a ((s.ao.take i).map λa=>(a,true))).getD false) (λ_=>rfl) (λ_=>rfl) (λ_=>by rw[SI aa.bool _ _ UA,Qdl]) ?_;have Dl:=WH a (s.ao.take i);refine Ya (λh2=>?_) (λh2=>?_)
 ·have:fm s [] s.ao=false:=by
   rw[hr,zBF];intro q;simp only[AI,fE,zAf]at q;obtain⟨⟨q1,q2⟩,q3,q4⟩:=q;rw[OS,OU q1,q1,q2,Dl,q3]at h2;simp at h2
  rw[this];simp
 ·simp only[zAv,zBh,sG,Decidable.not_not]at h2;obtain⟨⟨q1,q2⟩,q3⟩:=h2;rw[OS]at q1;rw[OU q1]at q2;have kW:dV a ((s.ao.take i).map λa=>(a,true))=none:=by
   have:=P4 a ((s.ao.take i).map λa=>(a,true));simp only[List.map_map,zCk,List.map_id']at this;rw[←Dl,q3]at this;cases h5:dV a ((s.ao.take i).map λa=>(a,true))with
   |none=>rfl
   |some v=>rw[h5]at this;cases this
  rw[Dl]at q3;rw[q1,q2,q3]at hr;have wO:=Yb UA;refine Yd (YdY aa.bool UA a true kW) (Ze _ wO) (Za (Qj ..) ?_);rw[Qc (n:=i) (by omega)];refine bn (i+1) _ _ (by omega) ⟨rfl,by omega,Zb G7 (by simp) (λe=>cO e),?_,?_⟩
  ·rw[k_,zAe];exact Zd _ wO
  ·rw[k_,hr];simp
theorem aB.nl{h0:Hp}{rd:List Nat}(n:Nat):aB h0 rd .an (.aU false false n []):=aB.dY (aB.ro rfl) (λM u d=>d.e_ n)
def RI(σ:List ab)(rd:List Nat)(v:aa)(l:List Int):Prop:=aB (hp σ) rd v (aP l)
def RT(σ:List ab)(rd:List Nat)(v:aa)(l:List Th):Prop:=aB (hp σ) rd v (gU l)
theorem PK:∀ {l:List Int},∀r∈l.map aR,ga r=true:=by
 intro l r hr;obtain⟨x,_,rfl⟩:=zAt.1 hr;rfl
theorem ZeB:∀ {l:List Th},∀r∈l.map bg,ga r=true:=by
 intro l r hr;obtain⟨x,_,rfl⟩:=zAt.1 hr;rfl
theorem RI.own{σ:List ab}{rd:List Nat}{b:Nat}{ex:Bool}{l:List Int}{n:Nat}(hb:aj σ b=.rows 1 (l.map aR))(di:b∈rd)(hn:n=l.length):RI σ rd (.sl b 0 n ex) l:=
 aB.own hb di (by simp[hn]) (Oc _ _ (by simp[hn])) PK
theorem RI.tail{σ:List ab}{rd:List Nat}{b:Nat}{ex:Bool}{x:Int}{l:List Int}{n:Nat}(hb:aj σ b=.rows 1 ((x::l).map aR))(di:b∈rd)(hn:n=l.length):RI σ rd (.sl b 1 n ex) l:=
 aB.own hb di (by simp[hn];omega) (QdI _ _ _ (by simp[hn])) PK
theorem RI.ro{σ:List ab}{rd:List Nat}(l:List Int):RI σ rd (aP l) l:=aB.ro rfl
theorem RI.an{σ:List ab}{rd:List Nat}:RI σ rd .an []:=aB.dY (aB.ro rfl) (λM u d=>d.e_ 1)
theorem RT.an{σ:List ab}{rd:List Nat}:RT σ rd .an []:=aB.dY (aB.ro rfl) (λM u d=>d.e_ 4)
theorem RT.ro{σ:List ab}{rd:List Nat}(l:List Th):RT σ rd (gU l) l:=aB.ro rfl
theorem RT.own{σ:List ab}{rd:List Nat}{b:Nat}{ex:Bool}{l:List Th}{n:Nat}(hb:aj σ b=.rows 4 (l.map bg))(di:b∈rd)(hn:n=l.length):RT σ rd (.sl b 0 n ex) l:=
 aB.own hb di (by simp[hn]) (Oc _ _ (by simp[hn])) ZeB
@[reducible] def tl(s:St)(a d0 h0 g0 u0 t0 d1 h1 g1 u1 t1:aa):List aa:=[iv s.turn,iv s.mover,aN s.phase,.bool s.bV,aN s.result,a,iv s.next,
 iv s.s0.aV,iv s.s0.aT,iv s.s0.most,d0,h0,g0,u0,t0,iv s.s1.aV,iv s.s1.aT,iv s.s1.most,d1,h1,g1,u1,t1]
def SB(σ:List ab)(rd:List Nat)(cs:List aa)(s:St):Prop:=bu (hp σ) rd cs (aI s)
theorem SB.mk{σ:List ab}{rd:List Nat}{s:St}{a d0 h0 g0 u0 t0 d1 h1 g1 u1 t1:aa}(x1:RI σ rd a s.ao)(x2:RI σ rd d0 s.s0.az)(x3:RI σ rd h0 s.s0.hand)(x4:RI σ rd g0 s.s0.al)(x5:RT σ rd u0 s.s0.af)(x6:RI σ rd t0 s.s0.told)
 (y2:RI σ rd d1 s.s1.az)(y3:RI σ rd h1 s.s1.hand)(y4:RI σ rd g1 s.s1.al)(y5:RT σ rd u1 s.s1.af)(y6:RI σ rd t1 s.s1.told):SB σ rd (tl s a d0 h0 g0 u0 t0 d1 h1 g1 u1 t1) s:=
 .cons (aB.ro rfl) <| .cons (aB.ro rfl) <| .cons (aB.ro rfl) <| .cons (aB.ro rfl) <| .cons (aB.ro rfl) <| .cons x1 <| .cons (aB.ro rfl) <| .cons (aB.ro rfl) <| .cons (aB.ro rfl) <| .cons (aB.ro rfl) <| .cons x2 <| .cons x3 <| .cons x4 <| .cons x5 <| .cons x6 <|
 .cons (aB.ro rfl) <| .cons (aB.ro rfl) <| .cons (aB.ro rfl) <| .cons y2 <| .cons y3 <| .cons y4 <| .cons y5 <| .cons y6 .nil
theorem SB.ro{σ:List ab}{rd:List Nat}(s:St):SB σ rd (aI s) s:=bu.ro rfl
theorem SB.agg{σ:List ab}{rd:List Nat}{cs:List aa}{s:St}(h:SB σ rd cs s):aB (hp σ) rd (.agg cs) (bZ s):=aB.agg h
def zSd:Sd:=⟨0,0,0,[],[],[],[],[]⟩
def iz:St:=⟨0,0,0,false,0,[],0,zSd,zSd⟩
theorem SB.zero{σ:List ab}{rd:List Nat}:SB σ rd (tl iz .an .an .an .an .an .an .an .an .an .an .an) iz:=SB.mk .an .an .an .an .an .an .an .an .an .an .an
structure Ev where
 kind:Int
 side:Int
 card:Int
 id:Int
 other:Int
 n:Int
 ai:List Int
 deriving DecidableEq,Inhabited
@[reducible] def dF(e:Ev):List aa:=[aN e.kind,iv e.side,iv e.card,iv e.id,iv e.other,iv e.n,aP e.ai]
@[reducible] def wa(e:Ev):aa:=.agg (dF e)
def jm:Ev:=⟨0,0,0,0,0,0,[]⟩
theorem o8{σ:List ab}{rd:List Nat}{e:Ev}{v:aa}(h:RI σ rd v e.ai):aB (hp σ) rd (.agg [aN e.kind,iv e.side,iv e.card,iv e.id,iv e.other,iv e.n,v]) (wa e):=
 aB.agg (.cons (aB.ro rfl) <| .cons (aB.ro rfl) <| .cons (aB.ro rfl) <| .cons (aB.ro rfl) <| .cons (aB.ro rfl) <| .cons (aB.ro rfl) <| .cons h .nil)
theorem c56(b:Bk)(hf:a_ b=true)(bY:Yg b.ai)(s:St)(hs:bd 1000000000 s){σ:List ab}{bb sb:Nat}(h1:aj σ bb=.box (cy b))(h2:aj σ sb=.box (aI s)){K:KT}
 (hF:aO (bz b).1 b s true=false→K .fj σ)(hT:aO (bz b).1 b s true=true→K (.ak (σ++mq s).length 0) (σ++mq s++[.box (.ak bb 0::po s σ.length)])):g48.u VV [.ak bb 0,.ak sb 0] σ K:=by
 rw[H2.e];unfold g48;dsimp only;have zA:hp σ bb=some (.box (cy b)):=Xw h1 (by simp);have lV:hp σ sb=some (.box (aI s)):=Xw h2 (by simp);refine Zu (rd:=[bb,sb]) (c111 b hf bY s hs true) rfl g76.ok.plain (.cons (aB.box zA (by simp) (bu.ro rfl)) <| .cons (aB.box lV (by simp) (bu.ro rfl)) <| .cons (aB.ro rfl) .nil) rfl (Za rfl (Ya (λh=>?_) (λh=>?_)))
 ·exact hF (by simpa using h)
 refine Za rfl (Za (ld h2 rfl) ?_);refine Iu (c59 s hs) rfl g20.ok.plain rfl ?_;have e1:(aa.agg (po s 0)).ct (XC σ.length)=.agg (po s σ.length):=by
  simp[aa.ct,ic,XC,zDu];omega
 have e2:Xv σ.length (mq s)=mq s:=by
  simp only[Xv,mq,uq,zAN,zAe,zBC,Y2,Gv]
 rw[e1,e2];refine Za rfl (Yd rfl (Xe _ _) ?_);exact hT (by simpa using h)
def mu(b:Nat):List Int→aa
 |[]=>.aU false true 1 []
 |y::l=>.sl b 1 (y::l).length false
theorem W7{τ:List ab}{bf:Nat}{x:Int}{l:List Int}(GZ:aj τ bf=.rows 1 ((x::l).map aR)):∃rd,Xy 1 [.sl bf 0 (l.length+1) false,iv 1] τ=.ok (mu bf l) rd []:=by
 cases l with
 |nil=>
  refine⟨[],?_⟩;show (match aj τ bf with
   |.rows s _=>bif IN s 1 then (bif zAi 1 1 then aA.ok (.sl bf (0+1) (1-1) false) [bf] []else bif IN 1 1 then .ok (.aU false true 1 []) [] []else .stop)else .stop
   | _=>.stop)=_
  rw[GZ];rfl
 |cons y l=>
  refine⟨[bf],?_⟩;show (match aj τ bf with
   |.rows s _=>bif IN s 1 then (bif zAi 1 ((y::l).length+1)then aA.ok (.sl bf (0+1) ((y::l).length+1-1) false) [bf] []else bif IN 1 ((y::l).length+1)then .ok (.aU false true 1 []) [] []else .stop)else .stop
   | _=>.stop)=_
  rw[GZ];rfl
theorem RI.mu{σ:List ab}{rd:List Nat}{b:Nat}{x:Int}{l:List Int}(hb:aj σ b=.rows 1 ((x::l).map aR))(di:b∈rd):RI σ rd (Tz.mu b l) l:=by
 cases l with
 |nil=>
  refine aB.dY (aB.ro (x:=.aU false true 1 []) rfl) (λM u d=>?_);cases d with
  |aU _ _ _ _ _ a cap blk off f q1 q2 q3 q4 q5 q6 q7 q8=>exact .aU _ _ _ _ _ a cap blk off f q1 (λh=>by cases h) q3 q4 q5 q6 q7 q8
 |cons y l=>exact RI.tail hb di rfl
theorem c58{τ:List ab}{mb jf jt bf bt n k:Nat}{row oU LA:List aa}{x:Int}{l t:List Int}{vf:aa}(hm:aj τ mb=.box row)(hf:aK false jf 1 row=some (.sl bf 0 n false))(hn:n=l.length+1)(ht:aK false jt 1 oU=some (.sl bt 0 k false))(hk:k=t.length)(mw:t.length<=1000000000)
 (GZ:aj τ bf=.rows 1 ((x::l).map aR))(qA:aj τ bt=.rows 1 (t.map aR))(cO:mb≠bf)(UC:mb≠bt)(hvf:vf=mu bf l)
 (h1:cc jf [vf] row=some oU)(h2:cc jt [.sl (τ.length+1) 0 (k+1) false] oU=some LA){K:KT}
 (hK:K (iv x) (((((τ.set mb (.box oU)).set bt .dead)++[ab.rows 1 [aR x]])++[ab.rows 1 ((t++[x]).map aR)]).set mb (.box LA))):g64.u VV [.ak mb jf,.ak mb jt] τ K:=by
 subst hn;subst hk;have wO:=Yb hm;have C1:=Yb qA;rw[H2.e];unfold g64;dsimp only;refine Za rfl (Za (ld hm hf) ?_);have hx:Qh 1 [.sl bf 0 (l.length+1) false,iv ((0:Nat):Int)] τ=.ok (.ptr bf (0+0) 0) [bf] []:=sE τ bf 0 _ false 1 _ .i64 0 (by omega) GZ;refine Za hx (Za (v:=iv x) (rd:=[bf]) ?_ ?_)
 ·show (match aj τ bf with
   |.rows _ rs=>match nth rs 0 with
    |some row=>match aK false 0 1 row with
     |some v=>aA.ok v [bf] []
     |none=>.stop
    |none=>.stop
   | _=>.stop)=_
  rw[GZ];rfl
 refine Za rfl (Za (ld hm hf) ?_);have hvc:cellsOf vf=some [vf]:=by subst hvf;cases l<;>rfl
 obtain⟨rd,UW⟩:=W7 GZ;rw[←hvf]at UW;refine Za UW (Za rfl (Yd (cX hm hvc rfl h1) (Ze _ wO) (Za rfl (Za (ld (Zd _ wO) ht) ?_))));have zB:aj (τ.set mb (.box oU)) bt=.rows 1 (t.map aR):=Zb qA (by simp) UC;rw[GI _ _ _ _ _ (aR x) rfl rfl,Il _ 1 8 (τ.set mb (.box oU)) bt t.length false _ (aR x) zB (by simp) rfl (by omega)];refine Za rfl ?_;have hz:t.map aR++[aR x]=(t++[x]).map aR:=by simp
 have hlen:(τ.set mb (ab.box oU)).length=τ.length:=by simp
 have hm3:aj ((((τ.set mb (.box oU)).set bt .dead)++[ab.rows 1 [aR x]])++[ab.rows 1 ((t++[x]).map aR)]) mb=.box oU:=by
  grind [Yf,Xc,Zd]
 rw[hz,hlen];exact Yd (cX hm3 rfl rfl h2) (Ze _ (by simp;omega)) hK
theorem Ydw(s:St)(n:Nat):(aa.agg (po s 0)).ct (XC n)=.agg (po s n):=by
 simp[aa.ct,ic,XC,zDu];omega
theorem Zdw(s:St)(n:Nat):Xv n (mq s)=mq s:=by
 simp only[Xv,mq,uq,zAN,zAe,zBC,Y2,Gv]
theorem Sr:∀l:List Int,Z2 (l.map aR)=true
 |[]=>rfl
 |x::l=>by simp only[zAN,Z2,Sr l,zAz];rfl
theorem Ydp:∀l:List Th,Z2 (l.map bg)=true
 |[]=>rfl
 |x::l=>by simp only[zAN,Z2,Ydp l,zAz];rfl
theorem YdU(s:St):ya (mq s)=true:=by
 simp only[mq,uq,zAL,zAM,ya,ab.dq,Sr,Ydp,zAu]
theorem d59{s:St}(hs:bd 1000000000 s){σ:List ab}{rd:List Nat}{cs:List aa}(h:SB σ rd cs s){K:aa→List Nat×List Nat→List ab→Prop}(hK:K (.agg (po s σ.length)) (rd,Z7 σ.length (mq s)) (σ++mq s)):VV.eS (.call 20) [.agg cs] σ K:=by
 refine ZcM (c59 s hs) rfl g20.ok.plain (.cons (SB.agg h) .nil) rfl (YdU s) ?_;rw[Ydw,Zdw];exact hK
theorem lO.mono{n m:Nat}{s:Sd}(h:lO n s)(k:n<=m):lO m s:=⟨zAY h.1 k,zAY h.2 k,zAY h.3 k,zAY h.4 k,zAY h.5 k⟩
theorem bd.mono{n m:Nat}{s:St}(h:bd n s)(k:n<=m):bd m s:=⟨zAY h.1 k,h.2.mono k,h.3.mono k⟩
theorem MQ{e:Int}{b:Bk}{s:St}{bare:Bool}(h:aO e b s bare=true):YC b s=true:=by
 simp only[aO,AI]at h;exact h.2.2.2.2.2.2.2.2.2.2.2.2.1
theorem PG{e:Int}{b:Bk}{s:St}{bare:Bool}(h:aO e b s bare=true):iF s.s0.aV=true:=by
 have:=MQ h;simp only[YC,Zx,AI]at this;exact this.1.1
theorem SD{e:Int}{b:Bk}{s:St}{bare:Bool}(h:aO e b s bare=true):iF s.s1.aV=true:=by
 have:=MQ h;simp only[YC,Zx,AI]at this;exact this.2.2.1.1
theorem ZU{n:Int}:iF n=true↔-1000000<=n∧n<=1000000:=by simp[iF]
theorem SB.copy{σ:List ab}{rd:List Nat}{s:St}{n:Nat}(key:∀i x,(mq s)[i]?=some x→aj σ (n+i)=x)(di:∀i,i<11→n+i∈rd):SB σ rd (po s n) s:=
 SB.mk (RI.own (key 0 _ rfl) (di 0 (by decide)) rfl) (RI.own (key 1 _ rfl) (di 1 (by decide)) rfl) (RI.own (key 2 _ rfl) (di 2 (by decide)) rfl) (RI.own (key 3 _ rfl) (di 3 (by decide)) rfl) (RT.own (key 4 _ rfl) (di 4 (by decide)) rfl) (RI.own (key 5 _ rfl) (di 5 (by decide)) rfl)
  (RI.own (key 6 _ rfl) (di 6 (by decide)) rfl) (RI.own (key 7 _ rfl) (di 7 (by decide)) rfl) (RI.own (key 8 _ rfl) (di 8 (by decide)) rfl) (RT.own (key 9 _ rfl) (di 9 (by decide)) rfl) (RI.own (key 10 _ rfl) (di 10 (by decide)) rfl)
theorem Sw{agg:Bool}{σ:List ab}{b j n:Nat}{row:List aa}{v:aa}(hb:aj σ b=.box row)(hv:aK agg j n row=some v):im agg n (.ak b j) σ=some v:=by
 simp only[im,hb,hv]
theorem pQ(b:Bk)(hf:a_ b=true)(bY:Yg b.ai)(s:St)(hs:bd 1000000000 s){σ:List ab}{bb sb n0 n:Nat}(kI:σ.length=n0)(hn:n0+11=n)(h1:aj σ bb=.box (cy b))(h2:aj σ sb=.box (aI s)){K:KT}
 (hF:aO (bz b).1 b s true=false→K .fj σ)(hT:aO (bz b).1 b s true=true→K (.ak n 0) (σ++mq s++[.box (.ak bb 0::po s n0)])):VV.call (.call 48) [.ak bb 0,.ak sb 0] σ K:=by
 subst kI;subst hn;refine Qd hP rfl g48.ok rfl (c56 b hf bY s hs h1 h2 hF (λh=>?_));have:(σ++mq s).length=σ.length+11:=by simp[mq,uq]
 rw[this];exact hT h
def St.side(s:St)(k:Int):Sd:=if k=0 then s.s0 else s.s1
def St.put(s:St)(k:Int)(d:Sd):St:=if k=0 then { s with s0:=d }else { s with s1:=d }
@[reducible] def oS(s:St)(e:Ev)(x:aa):aa:=.bp [bZ s,wa e,x]
@[reducible] def eA(r:St×Ev×Int):aa:=oS r.1 r.2.1 (iv r.2.2)
theorem rX{σ:List ab}{rd:List Nat}{cs ec:List aa}{s:St}{e:Ev}{x:aa}(h1:SB σ rd cs s)(h2:aB (hp σ) rd (.agg ec) (wa e))(hx:x.ro=true):aB (hp σ) rd (.bp [.agg cs,.agg ec,x]) (oS s e x):=
 aB.bp (.cons (SB.agg h1) <| .cons h2 <| .cons (aB.ro hx) .nil)
theorem oR{σ:List ab}{rd:List Nat}{cs ec:List aa}{r:St×Ev×Int}(h1:SB σ rd cs r.1)(h2:aB (hp σ) rd (.agg ec) (wa r.2.1)):aB (hp σ) rd (.bp [.agg cs,.agg ec,iv r.2.2]) (eA r):=rX h1 h2 rfl
@[reducible] def aZ:List aa:=tl iz .an .an .an .an .an .an .an .an .an .an .an
@[reducible] def bX:List aa:=[aN 0,iv 0,iv 0,iv 0,iv 0,iv 0,.an]
theorem u9{σ:List ab}{rd:List Nat}(e:Int):aB (hp σ) rd (.bp [.agg aZ,.agg bX,iv e]) (eA (iz,jm,e)):=
 oR (r:=(iz,jm,e)) SB.zero (o8 (e:=jm) RI.an)
theorem xp{σ:List ab}{rd:List Nat}{x:aa}(hx:x.ro=true):aB (hp σ) rd (.bp [.agg aZ,.agg bX,x]) (oS iz jm x):=
 rX SB.zero (o8 (e:=jm) RI.an) hx
end Go.Ah.Tz
end
section
namespace Go.Ah
theorem XQ:∀ {rs:List (List aa)},(∀r∈rs,r.all aa.cell=true)→aW rs=true
 |[],_=>rfl
 |r::rs,h=>by simp only[aW,AI];exact⟨h r (by simp),XQ λx hx=>h x (by simp[hx])⟩
theorem Y0{σ:List ab}{n c k:Nat}{ex2:Bool}{rs2:List (List aa)}(hc:aj σ c=.rows n rs2)(dU:rs2.length=k):Xk n σ (.sl c 0 k ex2)=some (rs2,[c]):=by
 simp only[Xk,hc];simp[cut,dU];rw[show zAP k k=true from sh (IT _)];simp[←dU]
theorem HL(n by_:Nat){σ:List ab}{b c len k:Nat}{ex ex2:Bool}{rs rs2:List (List aa)}(hb:aj σ b=.rows n rs)(hc:aj σ c=.rows n rs2)(hl:rs.length=len)(dU:rs2.length=k)(hr:aW rs2=true)(bM:(2*(len+k)+192)*by_<=2 ^ 48) :
  Qf n by_ [.sl b 0 len ex,.sl c 0 k ex2] σ=.ok (.sl σ.length 0 (len+k) false) [c] ([(b,.dead)]++[(σ.length,.rows n (rs++rs2))]):=by
 have h2:zAP ((2*(len+k)+192)*by_) (2 ^ 48)=true:=sh bM;have:Qf n by_ [.sl b 0 len ex,.sl c 0 k ex2] σ=XD n by_ σ rs [(b,.dead)] (.sl c 0 k ex2):=by
  simp[Qf,yX,hb,hl]
 rw[this];unfold XD;simp only[Y0 hc dU,hr,dU,h2,zAu,cond_true,hl]
theorem Xb2(n by_:Nat){σ:List ab}{c k:Nat}{ex2:Bool}{rs2:List (List aa)}(hc:aj σ c=.rows n rs2)(dU:rs2.length=k)(hr:aW rs2=true)(bM:(2*k+192)*by_<=2 ^ 48) :
  Qf n by_ [.an,.sl c 0 k ex2] σ=.ok (.sl σ.length 0 k false) [c] ([]++[(σ.length,.rows n rs2)]):=by
 have h3:zAP ((2*k+192)*by_) (2 ^ 48)=true:=sh bM;show XD n by_ σ [] [] (.sl c 0 k ex2)=_;unfold XD;simp only[Y0 hc dU,hr,dU,zAG,h3,zAu,cond_true,No,zAM]
end Go.Ah
namespace Go.Ah.Tz
open Go.Proofs.Tryz (prog)
set_option maxRecDepth 100000
theorem j6{n:Nat}(h:zAi n 40=true):n∈zAC 40:=List.mem_range.2 (ik h)
theorem SB.lit{σ:List ab}{rd:List Nat}{cs:List aa}{s:St}{a d0 h0 g0 u0 t0 d1 h1 g1 u1 t1:aa}(e:cs=tl s a d0 h0 g0 u0 t0 d1 h1 g1 u1 t1)
 (x0:RI σ rd a s.ao:=by exact RI.own rfl (j6 rfl) rfl)
 (x1:RI σ rd d0 s.s0.az:=by exact RI.own rfl (j6 rfl) rfl)
 (x2:RI σ rd h0 s.s0.hand:=by exact RI.own rfl (j6 rfl) rfl)
 (x3:RI σ rd g0 s.s0.al:=by exact RI.own rfl (j6 rfl) rfl)
 (x4:RT σ rd u0 s.s0.af:=by exact RT.own rfl (j6 rfl) rfl)
 (x5:RI σ rd t0 s.s0.told:=by exact RI.own rfl (j6 rfl) rfl)
 (x6:RI σ rd d1 s.s1.az:=by exact RI.own rfl (j6 rfl) rfl)
 (x7:RI σ rd h1 s.s1.hand:=by exact RI.own rfl (j6 rfl) rfl)
 (x8:RI σ rd g1 s.s1.al:=by exact RI.own rfl (j6 rfl) rfl)
 (x9:RT σ rd u1 s.s1.af:=by exact RT.own rfl (j6 rfl) rfl)
 (x10:RI σ rd t1 s.s1.told:=by exact RI.own rfl (j6 rfl) rfl):SB σ rd cs s:=by
 subst e;exact SB.mk x0 x1 x2 x3 x4 x5 x6 x7 x8 x9 x10
theorem HB{σ:List ab}{b c len:Nat}{ex ex2:Bool}{l:List Int}{x:Int}{K:KT}(hb:aj σ b=.rows 1 (l.map aR))(hc:aj σ c=.rows 1 [[iv x]])(hl:len=l.length)(bM:l.length<=1000000000)(hK:K (.sl σ.length 0 (l++[x]).length false) (σ.set b .dead++[.rows 1 ((l++[x]).map aR)])) :
  VV.wr (Qf 1 8 [.sl b 0 len ex,.sl c 0 1 ex2] σ) σ K:=by
 refine Yd (HL 1 8 (rs2:=[[iv x]]) hb hc (by simp[hl]) rfl rfl (by omega)) (XI _ _ (Yb hb)) ?_;rw[hl];simpa[aR]using hK
theorem Iy{σ:List ab}{b c len:Nat}{ex ex2:Bool}{l:List Int}{x:Int}{K:aa→List Nat×List Nat→List ab→Prop}(hb:aj σ b=.rows 1 (l.map aR))(hc:aj σ c=.rows 1 [[iv x]])(hl:len=l.length)(bM:l.length<=1000000000)(hK:K (.sl σ.length 0 (l++[x]).length false) ([c],[b,σ.length]) (σ.set b .dead++[.rows 1 ((l++[x]).map aR)])) :
  VV.dr (Qf 1 8 [.sl b 0 len ex,.sl c 0 1 ex2] σ) σ K:=by
 refine Xf (HL 1 8 (rs2:=[[iv x]]) hb hc (by simp[hl]) rfl rfl (by omega)) (XI _ _ (Yb hb)) ?_;rw[hl];simpa[aR]using hK
attribute [local irreducible] aF.rd aF.pu aF.wr aF.dr aF.gr aF.gw aF.gl aF.gd aF.opt cI W
set_option maxHeartbeats 8000000
theorem au{A B:Prop}(k:B)(h:B→A:=by intro k;(repeat (first|refine Za (vA ..) ?_|refine Za (Z1 ..) ?_|refine Za rfl ?_|refine Yd rfl rfl ?_|refine Zs rfl ?_|refine Zi rfl ?_|refine Xf rfl rfl ?_|refine Yh ?_|refine Ye ?_|refine Qa ?_|refine Zc rfl ?_|refine Yq ?_|refine Yx rfl ?_|refine Zw rfl ?_|refine Gb ?_));exact k):A:=h k
end Go.Ah.Tz
end
section
namespace Go.Ah.Tz
open Go.Proofs.Tryz (prog)
set_option maxRecDepth 100000
abbrev z_(s:St):List aa:=[.ak 0 0,iv s.turn,iv s.mover,aN s.phase,.bool s.bV,aN s.result,.sl 4 0 s.ao.length false,iv s.next,iv s.s0.aV,iv s.s0.aT,iv s.s0.most,.sl 5 0 s.s0.az.length false,.sl 6 0 s.s0.hand.length false,.sl 7 0 s.s0.al.length false,.sl 8 0 s.s0.af.length false,.sl 9 0 s.s0.told.length false,iv s.s1.aV,iv s.s1.aT,iv s.s1.most,.sl 10 0 s.s1.az.length false,.sl 11 0 s.s1.hand.length false,.sl 12 0 s.s1.al.length false,.sl 13 0 s.s1.af.length false,.sl 14 0 s.s1.told.length false]
abbrev st4(s:St):List aa:=[iv s.turn,iv s.mover,aN s.phase,.bool s.bV,aN s.result,.sl 4 0 s.ao.length false,iv s.next,iv s.s0.aV,iv s.s0.aT,iv s.s0.most,.sl 5 0 s.s0.az.length false,.sl 6 0 s.s0.hand.length false,.sl 7 0 s.s0.al.length false,.sl 8 0 s.s0.af.length false,.sl 9 0 s.s0.told.length false,iv s.s1.aV,iv s.s1.aT,iv s.s1.most,.sl 10 0 s.s1.az.length false,.sl 11 0 s.s1.hand.length false,.sl 12 0 s.s1.al.length false,.sl 13 0 s.s1.af.length false,.sl 14 0 s.s1.told.length false]
abbrev sg4(b:Bk)(s:St):List ab:=[.box (cy b),.box (aI s),.box aZ,.box bX,.rows 1 (s.ao.map aR),.rows 1 (s.s0.az.map aR),.rows 1 (s.s0.hand.map aR),.rows 1 (s.s0.al.map aR),.rows 4 (s.s0.af.map bg),.rows 1 (s.s0.told.map aR),.rows 1 (s.s1.az.map aR),.rows 1 (s.s1.hand.map aR),.rows 1 (s.s1.al.map aR),.rows 4 (s.s1.af.map bg),.rows 1 (s.s1.told.map aR)]
def aS(s:St)(k:Int):St×Ev×Int:=
 match (s.side k).az with
 |[]=>if iF ((s.side k).aV-1)then (s.put k { s.side k with aV:=(s.side k).aV-1 },⟨3,k,-1,0,0,0,[]⟩,0)else (iz,jm,171)
 |c::l=>if 10<=(s.side k).hand.length then
   ({ s with s0:={ s.s0 with told:=s.s0.told++[c] },s1:={ s.s1 with told:=s.s1.told++[c] } } |> λs'=>s'.put k { s'.side k with az:=l,al:=(s.side k).al++[c] },⟨4,k,c,0,0,0,[]⟩,0)
  else (s.put k { s.side k with az:=l,hand:=(s.side k).hand++[c],told:=(s.side k).told++[c] },⟨3,k,c,0,0,0,[]⟩,0)
attribute [local irreducible] aF.rd aF.pu aF.wr aF.dr aF.gr aF.gw aF.gl aF.gd aF.opt cI W
set_option maxHeartbeats 8000000
theorem c18(b:Bk)(hf:a_ b=true)(bY:Yg b.ai)(s:St)(hs:bd 2000000 s)(hm:aO (bz b).1 b s true=true)(k:Int)(h01:k=0∨k=1):PC 36 [cC b,bZ s,iv k] (eA (aS s k)):=by
 have vo:=ZU.1 (PG hm);have gk:=ZU.1 (SD hm);have gW:bd 1000000000 s:=hs.mono (by decide);have nA:=hm;refine Qi hP g36.ok rfl ?_;rcases h01 with rfl|rfl
 rotate_left;obtain⟨tu,mo,ph,st,re,at_,ne,⟨l',m',o',d',h',g',u',t'⟩,⟨l,m,o,d,h,g,u,t⟩⟩:=s;obtain⟨ha,⟨p1,p2,p3,p4,p5⟩,⟨q1,q2,q3,q4,q5⟩⟩:=hs;have hl:=gk
 let mk:Sd→List Int→St:=λx y=>⟨tu,mo,ph,st,re,at_,ne,⟨l',m',o',d',h',g',u',y⟩,x⟩
 have OR:∀l m o (d h g:List Int) u (t y:List Int),d.length<=1000000000→h.length<=1000000000→g.length<=1000000000→u.length<=1000000000→t.length<=1000000000→y.length<=1000000000→bd 1000000000 (mk ⟨l,m,o,d,h,g,u,t⟩ y):=λ_ _ _ _ _ _ _ _ _ a b c d e f=>⟨gW.1,⟨gW.2.1,gW.2.2,gW.2.3,gW.2.4,f⟩,⟨a,b,c,d,e⟩⟩;rotate_left;obtain⟨tu,mo,ph,st,re,at_,ne,⟨l,m,o,d,h,g,u,t⟩,⟨l',m',o',d',h',g',u',t'⟩⟩:=s;obtain⟨ha,⟨q1,q2,q3,q4,q5⟩,⟨p1,p2,p3,p4,p5⟩⟩:=hs;have hl:=vo
 let mk:Sd→List Int→St:=λx y=>⟨tu,mo,ph,st,re,at_,ne,x,⟨l',m',o',d',h',g',u',y⟩⟩
 have OR:∀l m o (d h g:List Int) u (t y:List Int),d.length<=1000000000→h.length<=1000000000→g.length<=1000000000→u.length<=1000000000→t.length<=1000000000→y.length<=1000000000→bd 1000000000 (mk ⟨l,m,o,d,h,g,u,t⟩ y):=λ_ _ _ _ _ _ _ _ _ a b c d e f=>⟨gW.1,⟨a,b,c,d,e⟩,⟨gW.3.1,gW.3.2,gW.3.3,gW.3.4,f⟩⟩
 all_goals
  simp only at ha q1 q2 q3 q4 q5 p1 p2 p3 p4 p5 hl;rw[H3.e];unfold g36;dsimp only[bZ,aI];refine au (pQ b hf bY _ gW (n0:=4) (n:=15) (bb:=0) (sb:=1) rfl rfl rfl rfl (λh=>by rw[hm]at h;cases h) (λ_=>?_));dsimp only[po,mq,yF,uq];cases d with
  |nil=>
   refine au ?_;refine aY (c57 _) g63.ok ?_;refine au ?_;have e:BY.wrap (l-1)=l-1:=br (by omega) (by omega);refine Ya (λhw=>?_) (λhw=>?_)
   ·have hw:iF (l-1)=false:=by rw[←e];simpa using hw
    refine au ?_;refine⟨[],?_⟩;show aB _ _ _ (eA (if iF (l-1)then _ else (iz,jm,171)));rw[hw];exact u9 171
   ·have hw:iF (l-1)=true:=by rw[←e];simpa using hw
    rw[e];refine au ?_;refine d59 (s:=mk ⟨l-1,m,o,[],h,g,u,t⟩ t') (rd:=zAC 40) (OR _ _ _ _ _ _ _ _ _ (by simp) (by omega) (by omega) (by omega) (by omega) (by omega)) (SB.lit rfl) ?_;dsimp only[po,mq,yF,uq,mk];refine au ?_;show ∃rd,aB _ rd _ (eA (if iF (l-1)then (_,(⟨3,_,-1,0,0,0,[]⟩:Ev),0)else (iz,jm,171)));rw[aJ hw];exact⟨zAC 40,oR (r:=(_,⟨3,_,-1,0,0,0,[]⟩,0)) (SB.lit rfl) (o8 (e:=⟨3,_,-1,0,0,0,[]⟩) RI.an)⟩
  |cons c d2=>
   simp only[IS]at q1;refine au (Ya (λhw=>?_) (λhw=>?_))
   ·have hw:10<=h.length:=by simp at hw;omega
    refine au ?_;refine Qd hP rfl g64.ok rfl (c58 (x:=c) (l:=d2) (t:=g) rfl rfl rfl rfl rfl (by omega) rfl rfl (by decide) (by decide) rfl rfl rfl ?_);rw[show g.length+1=(g++[c]).length by simp];refine au (QK 3 (Zl ?_));refine au ?_;refine Iy rfl rfl rfl (by omega) ?_;refine au ?_;refine Iy rfl rfl rfl (by omega) ?_;refine au ?_;refine d59 (s:=mk ⟨l,m,o,d2,h,g++[c],u,t++[c]⟩ (t'++[c])) (rd:=zAC 40) (OR _ _ _ _ _ _ _ _ _ (by omega) (by omega) (by simp;omega) (by omega) (by simp;omega) (by simp;omega)) (by first|exact SB.lit rfl (x1:=RI.mu rfl (j6 rfl))|exact SB.lit rfl (x6:=RI.mu rfl (j6 rfl))) ?_;dsimp only[po,mq,yF,uq,mk];refine au ?_;show ∃rd,aB _ rd _ (eA (if 10<=h.length then (_,(⟨4,_,c,0,0,0,[]⟩:Ev),0)else _));rw[aJ hw];exact⟨zAC 40,oR (r:=(_,⟨4,_,c,0,0,0,[]⟩,0)) (SB.lit rfl) (o8 (e:=⟨4,_,c,0,0,0,[]⟩) RI.an)⟩
   ·have hw:¬10<=h.length:=by simp at hw;omega
    refine au ?_;refine Qd hP rfl g64.ok rfl (c58 (x:=c) (l:=d2) (t:=h) rfl rfl rfl rfl rfl (by omega) rfl rfl (by decide) (by decide) rfl rfl rfl ?_);rw[show h.length+1=(h++[c]).length by simp];refine au ?_;refine Iy rfl rfl rfl (by omega) ?_;refine au ?_;refine d59 (s:=mk ⟨l,m,o,d2,h++[c],g,u,t++[c]⟩ t') (rd:=zAC 40) (OR _ _ _ _ _ _ _ _ _ (by omega) (by simp;omega) (by omega) (by omega) (by simp;omega) (by omega)) (by first|exact SB.lit rfl (x1:=RI.mu rfl (j6 rfl))|exact SB.lit rfl (x6:=RI.mu rfl (j6 rfl))) ?_;dsimp only[po,mq,yF,uq,mk];refine au ?_;show ∃rd,aB _ rd _ (eA (if 10<=h.length then _ else (_,(⟨3,_,c,0,0,0,[]⟩:Ev),0)));rw[aE hw];exact⟨zAC 40,oR (r:=(_,⟨3,_,c,0,0,0,[]⟩,0)) (SB.lit rfl) (o8 (e:=⟨3,_,c,0,0,0,[]⟩) RI.an)⟩
theorem I4(b:Bk)(hf:a_ b=true)(bY:Yg b.ai)(s:St)(hs:bd 2000000 s)(hm:aO (bz b).1 b s true=true):PC 36 [cC b,bZ s,iv 0] (eA (aS s 0)):=c18 b hf bY s hs hm 0 (.inl rfl)
theorem I5(b:Bk)(hf:a_ b=true)(bY:Yg b.ai)(s:St)(hs:bd 2000000 s)(hm:aO (bz b).1 b s true=true):PC 36 [cC b,bZ s,iv 1] (eA (aS s 1)):=c18 b hf bY s hs hm 1 (.inr rfl)
def Z0(b:Bk)(s:St)(k c:Int):Bool:=((((decide (c<0)||decide ((b.ai.length:Int)<=c)) || !((b.ai[c.toNat]?).getD default).unit)||decide (7<=((s.side k).af.length:Int)))||decide (1000000<=s.next))
def ZB(s:St)(k c:Int):St:={ s.put k { s.side k with af:=(s.side k).af++[⟨s.next,c,0,true⟩] }with next:=s.next+1 }
def tK(b:Bk)(s:St)(k c:Int):aa:=
 if Z0 b s k c then oS iz jm (.bool false)else oS (ZB s k c) ⟨2,k,c,s.next,0,0,[]⟩ (.bool true)
theorem I6(b:Bk)(hf:a_ b=true)(bY:Yg b.ai)(s:St)(hs:bd 2000000 s)(hm:aO (bz b).1 b s true=true)(c:Int):PC 131 [cC b,bZ s,iv 0,iv c] (tK b s 0 c):=by
 have Da:=Qt hm;have hw:BY.wrap (s.next+1)=s.next+1:=zAZ _ (by omega);refine Qi hP g131.ok rfl ?_;rw[H4.e];unfold g131;dsimp only;refine Yd (v:=.ak 0 0) (rd:=[]) (up:=[(0,.box (cy b))]) rfl rfl (Yd (v:=.ak 1 0) (rd:=[]) (up:=[(1,.box (aI s))]) rfl rfl (Yd (v:=.ak 2 0) (rd:=[]) (up:=[(2,.box aZ)]) rfl rfl (Yd (v:=.ak 3 0) (rd:=[]) (up:=[(3,.box bX)]) rfl rfl (pQ b hf bY s (hs.mono (by decide)) (n0:=4) (n:=15) rfl rfl rfl rfl (λh=>by rw[hm]at h;cases h) (λ_=>?_)))));refine Za rfl (XZ (c:=false) (d:=false) (λ_=>rfl) (λ_=>rfl) (XZ (c:=false) (d:=false) (λ_=>rfl) (λ_=>rfl) (XZ (c:=false) (λ_=>rfl) (λ_=>ZS ..) (Iq (c:=decide (c<0)) (λ_=>rfl) (λ_=>rfl) (λ_=>rfl) (v4:=iv b.ai.length) (q4:=[]) (λ_=>by simp[Zf]) (λ_=>qw ..) (Cg (d:=!((b.ai[c.toNat]?).getD default).unit) (λ_=>rfl) (λ_=>rfl) (λ_=>rfl) (v4:=.aq (cL ((b.ai[c.toNat]?).getD default)) 0) (q4:=[]) (λhc=>?_) (λ_=>rfl) (λ_=>bB (tP _)) (λ_=>rfl) ?_)))))
 ·simp_all [sH]
 refine Cg (λ_=>rfl) (λ_=>rfl) (λ_=>rfl) (λ_=>rfl) (λ_=>rfl) (v6:=iv s.s0.af.length) (q6:=[]) (λ_=>by simp[Zf]) (λ_=>qw ..) (vg (λ_=>rfl) (λ_=>rfl) (λ_=>qw ..) (Ya (λh=>?_) (λh=>?_)))
 ·refine Za rfl (Za rfl (Yd rfl rfl (Yd rfl rfl (Zs rfl (Zs rfl ?_)))));have hr:tK b s 0 c=oS iz jm (.bool false):=aJ h;rw[hr];exact⟨[],xp rfl⟩
 have hr:tK b s 0 c=oS (ZB s 0 c) ⟨2,0,c,s.next,0,0,[]⟩ (.bool true):=aE (by rw[Bool.not_eq_true];exact h);have hu:¬7<=(s.s0.af.length:Int):=by
  simp_all
 refine Za rfl (Za rfl (Za rfl (Za rfl ?_)));refine Zi rfl (Zi rfl (Xf (ld (row:=(z_ s)) rfl rfl) (Zg _) ?_));refine Zi rfl (Xf (ld (row:=aI s) rfl rfl) (Zg _) (Zi rfl ?_));refine Xf (v:=.sl 16 0 1 true) (rd:=[]) (up:=[(16,.rows 4 [bg (⟨s.next,c,0,true⟩:Th)])]) rfl rfl (Xf (v:=.sl 17 0 (s.s0.af.length+1) false) (rd:=[16]) (up:=[(8,.dead),(17,.rows 4 ((s.s0.af++[(⟨s.next,c,0,true⟩:Th)]).map bg))]) ?_ rfl ?_)
 ·have:=QP 4 32 (σ:=((sg4 b s).append [.box (z_ s),.rows 4 [bg (⟨s.next,c,0,true⟩:Th)]])) (b:=8) (c:=16) (len:=s.s0.af.length) (ex:=false) (rs:=s.s0.af.map bg) (row:=bg (⟨s.next,c,0,true⟩:Th)) rfl rfl (by simp) rfl (by omega);simp_all
 refine ay ?_;rw[hw];refine ay ?_;refine⟨zAC 18,?_⟩;rw[hr];refine rX (cs:=(((st4 s).set 6 (iv (s.next+1))).set 13 (.sl 17 0 (s.s0.af.length+1) false))) (s:=ZB s 0 c) ?_ (o8 (e:=⟨2,0,c,s.next,0,0,[]⟩) RI.an) rfl;refine SB.mk (rd:=zAC 18) (s:=ZB s 0 c) ?_ ?_ ?_ ?_ ?_ ?_ ?_ ?_ ?_ ?_ ?_<;>first|exact RI.own rfl (by decide) rfl|exact RT.own rfl (by decide) rfl|exact RT.own (l:=s.s0.af++[(⟨s.next,c,0,true⟩:Th)]) rfl (by decide) (by simp)
theorem I7(b:Bk)(hf:a_ b=true)(bY:Yg b.ai)(s:St)(hs:bd 2000000 s)(hm:aO (bz b).1 b s true=true)(c:Int):PC 131 [cC b,bZ s,iv 1,iv c] (tK b s 1 c):=by
 have Da:=Qt hm;have hw:BY.wrap (s.next+1)=s.next+1:=zAZ _ (by omega);refine Qi hP g131.ok rfl ?_;rw[H4.e];unfold g131;dsimp only;refine Yd (v:=.ak 0 0) (rd:=[]) (up:=[(0,.box (cy b))]) rfl rfl (Yd (v:=.ak 1 0) (rd:=[]) (up:=[(1,.box (aI s))]) rfl rfl (Yd (v:=.ak 2 0) (rd:=[]) (up:=[(2,.box aZ)]) rfl rfl (Yd (v:=.ak 3 0) (rd:=[]) (up:=[(3,.box bX)]) rfl rfl (pQ b hf bY s (hs.mono (by decide)) (n0:=4) (n:=15) rfl rfl rfl rfl (λh=>by rw[hm]at h;cases h) (λ_=>?_)))));refine Za rfl (XZ (c:=false) (d:=false) (λ_=>rfl) (λ_=>rfl) (XZ (c:=false) (d:=false) (λ_=>rfl) (λ_=>rfl) (XZ (c:=false) (λ_=>rfl) (λ_=>ZS ..) (Iq (c:=decide (c<0)) (λ_=>rfl) (λ_=>rfl) (λ_=>rfl) (v4:=iv b.ai.length) (q4:=[]) (λ_=>by simp[Zf]) (λ_=>qw ..) (Cg (d:=!((b.ai[c.toNat]?).getD default).unit) (λ_=>rfl) (λ_=>rfl) (λ_=>rfl) (v4:=.aq (cL ((b.ai[c.toNat]?).getD default)) 0) (q4:=[]) (λhc=>?_) (λ_=>rfl) (λ_=>bB (tP _)) (λ_=>rfl) ?_)))))
 ·simp_all [sH]
 refine Cg (λ_=>rfl) (λ_=>rfl) (λ_=>rfl) (λ_=>rfl) (λ_=>rfl) (v6:=iv s.s1.af.length) (q6:=[]) (λ_=>by simp[Zf]) (λ_=>qw ..) (vg (λ_=>rfl) (λ_=>rfl) (λ_=>qw ..) (Ya (λh=>?_) (λh=>?_)))
 ·refine Za rfl (Za rfl (Yd rfl rfl (Yd rfl rfl (Zs rfl (Zs rfl ?_)))));have hr:tK b s 1 c=oS iz jm (.bool false):=aJ h;rw[hr];exact⟨[],xp rfl⟩
 have hr:tK b s 1 c=oS (ZB s 1 c) ⟨2,1,c,s.next,0,0,[]⟩ (.bool true):=aE (by rw[Bool.not_eq_true];exact h);have hu:¬7<=(s.s1.af.length:Int):=by
  simp_all
 refine Za rfl (Za rfl (Za rfl (Za rfl ?_)));refine Zi rfl (Zi rfl (Xf (ld (row:=(z_ s)) rfl rfl) (Zg _) ?_));refine Zi rfl (Xf (ld (row:=aI s) rfl rfl) (Zg _) (Zi rfl ?_));refine Xf (v:=.sl 16 0 1 true) (rd:=[]) (up:=[(16,.rows 4 [bg (⟨s.next,c,0,true⟩:Th)])]) rfl rfl (Xf (v:=.sl 17 0 (s.s1.af.length+1) false) (rd:=[16]) (up:=[(13,.dead),(17,.rows 4 ((s.s1.af++[(⟨s.next,c,0,true⟩:Th)]).map bg))]) ?_ rfl ?_)
 ·have:=QP 4 32 (σ:=((sg4 b s).append [.box (z_ s),.rows 4 [bg (⟨s.next,c,0,true⟩:Th)]])) (b:=13) (c:=16) (len:=s.s1.af.length) (ex:=false) (rs:=s.s1.af.map bg) (row:=bg (⟨s.next,c,0,true⟩:Th)) rfl rfl (by simp) rfl (by omega);simp_all
 refine ay ?_;rw[hw];refine ay ?_;refine⟨zAC 18,?_⟩;rw[hr];refine rX (cs:=(((st4 s).set 6 (iv (s.next+1))).set 21 (.sl 17 0 (s.s1.af.length+1) false))) (s:=ZB s 1 c) ?_ (o8 (e:=⟨2,1,c,s.next,0,0,[]⟩) RI.an) rfl;refine SB.mk (rd:=zAC 18) (s:=ZB s 1 c) ?_ ?_ ?_ ?_ ?_ ?_ ?_ ?_ ?_ ?_ ?_<;>first|exact RI.own rfl (by decide) rfl|exact RT.own rfl (by decide) rfl|exact RT.own (l:=s.s1.af++[(⟨s.next,c,0,true⟩:Th)]) rfl (by decide) (by simp)
theorem c118(l:List Th)(hl:l.length<=1000000000)(id:FuncId)(fs cs:List aa)(hp:Zh prog id=true)(f:Th→Bool)(hc:∀x∈l,PC id (fs++[.agg (bg x)]++cs) (.bool (f x)))(hr:∀x,ga (fs++[.agg (bg x)]++cs)=true) :
  PC 50 [gU l,.func (.func id) fs cs] (iv (ea f l 0)):=by
 refine Xa hP g50.ok rfl rfl ?_;rw[H2.e];unfold g50;dsimp only;refine Za (v:=iv l.length) (rd:=[]) (by simp[Zf]) (Xg (ι:=Nat) (λi vs s=>vs=[iv i]∧i<=l.length∧ea f l 0=ea f (l.drop i) i) (λi=>l.length-i) 0 ⟨rfl,by omega,by simp⟩ ?_);rintro i vs s again ⟨rfl,hi,jS⟩ bn;refine Za rfl (YS (λh=>?_) (λh=>?_))
 ·refine Za (Xm _ bg _ _ _ l _ i h) (Za (bB rfl) ?_);refine Yo (hc _ (AT h)) rfl hp (hr _) ?_;rw[gI h,ea]at jS;refine Ya (λh2=>?_) (λh2=>?_)
  ·rw[aJ h2]at jS;rw[jS];rfl
  ·rw[aE (by rw[h2];simp)]at jS;refine Za (Qj ..) ?_;rw[Qc (n:=i) (by omega)];exact bn (i+1) _ _ (by omega) ⟨rfl,by omega,by rw[jS];push_cast;rfl⟩
 ·subst h;rw[zAD,ea]at jS;rw[jS]
theorem c119(u:Th)(id:Int):PC 51 [.agg (bg u),.aq [iv id] 0] (.bool (decide (u.id=id))):=by
 refine Xa hP g51.ok rfl rfl ?_;rw[H2.e];unfold g51;dsimp only;exact Yd rfl rfl (Za rfl (Za (ld rfl rfl) (Za rfl (Za (Ys ..) rfl))))
theorem XcE(id:Int):∀(l:List Th) (n:Int),ea (λu:Th=>decide (u.id=id)) l n=match gB l id with
  |some k=>n+k
  |none=>-1
 |[],n=>rfl
 |u::l,n=>by
  have ih:=XcE id l (n+1);simp only[ea,gB,zDw]at ih ⊢;by_cases h:u.id=id
  ·simp[h]
  ·simp only[gm h,zAS,if_false,ih];cases List.findIdx? (λu=>decide (u.id=id)) l with
   |none=>rfl
   |some k=>show n+1+(k:Int)=n+((k+1:Nat):Int);omega
theorem c71(s:St)(hs:bd 1000000000 s)(id:Int):PC 25 [bZ s,iv id] (gz s id):=by
 have h0:=c118 s.s0.af hs.s0.af 51 [] [.aq [iv id] 0] g51.ok.plain (λu=>decide (u.id=id)) (λx _=>c119 x id) (λx=>rfl);have h1:=c118 s.s1.af hs.s1.af 51 [] [.aq [iv id] 0] g51.ok.plain (λu=>decide (u.id=id)) (λx _=>c119 x id) (λx=>rfl);have w1:BY.wrap (0+1)=1:=by decide
 have w2:BY.wrap (1+1)=2:=by decide
 rw[XcE]at h0 h1;refine Xa hP g25.ok rfl rfl ?_;rw[H2.e];unfold g25;dsimp only;refine ay (QK 3 (Zl ?_));refine ay (YG h0 rfl g50.ok.plain rfl rfl ?_);simp only[gz,aL];cases q0:gB s.s0.af id with
 |some k=>
  simp only[q0];refine Za (qw ..) ?_;rw[fk (by omega)];exact Yh (by simp)
 |none=>
  simp only[q0];refine Za rfl (Ye (Za rfl ?_));rw[w1];refine Zl (ay (YG h1 rfl g50.ok.plain rfl rfl ?_));cases q1:gB s.s1.af id with
  |some k=>
   simp only[q1];refine Za (qw ..) ?_;rw[fk (by omega)];exact Yh (by simp)
  |none=>
   simp only[q1];refine Za rfl (Ye (Za rfl ?_));rw[w2];exact Zl (Za rfl (Ye (by simp)))
def YY(b:Bk)(c:Int):Int:=((b.ai[c.toNat]?).getD default).dg
def oK(b:Bk)(u:Th)(n:Int):Int:=max (BY.wrap (n-YY b u.card)) 0
theorem Ji(x:Cd):aK false 5 1 (cL x)=some (iv x.dg):=rfl
theorem Te(m:List aa)(aV n:Int):PC 173 [.aq m 0,.fj,iv aV,iv n] (.bp [iv (BY.wrap (aV-n)),iv n]):=by
 refine Xa hP g173.ok rfl rfl ?_;rw[H4.e];unfold g173;dsimp only;exact ay rfl
theorem Tf(b:Bk)(m:List aa)(u:Th)(aV n:Int)(h0:0<=u.card)(h1:u.card.toNat<b.ai.length):PC 173 [.aq (.aq (cy b) 0::m) 0,.aq (bg u) 0,iv aV,iv n] (.bp [iv (BY.wrap (u.harm+oK b u n)),iv (oK b u n)]):=by
 refine Xa hP g173.ok rfl rfl ?_;rw[H4.e];unfold g173;dsimp only;refine ax ?_;have hx:=sH [] cL false false 12 b.ai .i64 u.card h0 h1;refine Za hx (Za rfl (Za (bB (Ji _)) ?_));refine ax ?_;have:YY b u.card=(b.ai[u.card.toNat]).dg:=by simp[YY,zAU h1]
 rw[oK,this]
abbrev Hi(s:St):List aa:=[.ak 0 0,iv s.turn,iv s.mover,aN s.phase,.bool s.bV,aN s.result,.sl 6 0 s.ao.length false,iv s.next,iv s.s0.aV,iv s.s0.aT,iv s.s0.most,.sl 7 0 s.s0.az.length false,.sl 8 0 s.s0.hand.length false,.sl 9 0 s.s0.al.length false,.sl 10 0 s.s0.af.length false,.sl 11 0 s.s0.told.length false,iv s.s1.aV,iv s.s1.aT,iv s.s1.most,.sl 12 0 s.s1.az.length false,.sl 13 0 s.s1.hand.length false,.sl 14 0 s.s1.al.length false,.sl 15 0 s.s1.af.length false,.sl 16 0 s.s1.told.length false]
abbrev VT(s:St):List aa:=[iv s.turn,iv s.mover,aN s.phase,.bool s.bV,aN s.result,.sl 6 0 s.ao.length false,iv s.next,iv s.s0.aV,iv s.s0.aT,iv s.s0.most,.sl 7 0 s.s0.az.length false,.sl 8 0 s.s0.hand.length false,.sl 9 0 s.s0.al.length false,.sl 10 0 s.s0.af.length false,.sl 11 0 s.s0.told.length false,iv s.s1.aV,iv s.s1.aT,iv s.s1.most,.sl 12 0 s.s1.az.length false,.sl 13 0 s.s1.hand.length false,.sl 14 0 s.s1.al.length false,.sl 15 0 s.s1.af.length false,.sl 16 0 s.s1.told.length false]
abbrev O9(b:Bk)(s:St):List ab:=[.box (cy b),.box (aI s),.box aZ,.box bX,.box aZ,.box bX,.rows 1 (s.ao.map aR),.rows 1 (s.s0.az.map aR),.rows 1 (s.s0.hand.map aR),.rows 1 (s.s0.al.map aR),.rows 4 (s.s0.af.map bg),.rows 1 (s.s0.told.map aR),.rows 1 (s.s1.az.map aR),.rows 1 (s.s1.hand.map aR),.rows 1 (s.s1.al.map aR),.rows 4 (s.s1.af.map bg),.rows 1 (s.s1.told.map aR)]
abbrev zu:List ab:=[.dead,.dead,.dead,.dead,.dead,.dead,.dead,.dead,.dead,.dead,.dead,.dead,.dead,.dead,.dead,.dead,.dead,.dead]
def iV(n:Int):Int:=min (max n 0) 4000000
def jH(s:St)(kd k:Int)(i:Nat)(id:Int)(u:Th)(v:Int×Int):St×Ev×Int:=
 if iF v.1 then (s.put k { s.side k with af:=(s.side k).af.set i { u with harm:=v.1 } },⟨kd,k,0,id,0,v.2,[]⟩,0)else (iz,jm,171)
def ni(s:St)(kd k:Int)(v:Int×Int):St×Ev×Int:=
 if iF v.1 then (s.put k { s.side k with aV:=v.1 },⟨kd,k,0,0,0,v.2,[]⟩,0)else (iz,jm,171)
def fY(kd:Int)(fP:Int→Int×Int)(fU:Th→Int×Int)(s:St)(id k:Int):St×Ev×Int:=
 if id=0 then ni s kd k (fP (s.side k).aV)else if id<0 then (iz,jm,4)else match gB s.s0.af id with
  |some i=>jH s kd 0 i id ((s.s0.af[i]?).getD default) (fU ((s.s0.af[i]?).getD default))
  |none=>match gB s.s1.af id with
   |some i=>jH s kd 1 i id ((s.s1.af[i]?).getD default) (fU ((s.s1.af[i]?).getD default))
   |none=>(iz,jm,4)
def jv(b:Bk)(s:St)(id k n:Int):St×Ev×Int:=
 fY 5 (λl=>(BY.wrap (l-iV n),iV n)) (λu=>(BY.wrap (u.harm+oK b u (iV n)),oK b u (iV n))) s id k
def jA(s:St)(id k n:Int):St×Ev×Int:=
 fY 6 (λl=>(BY.wrap (l+iV n),iV n)) (λu=>(BY.wrap (u.harm-min (iV n) u.harm),min (iV n) u.harm)) s id k
def gT(kd:Int)(F:FuncId):fz:=λA xs σ ret=>match xs with
|[x0,x1,x2,x3,x4]=>
 A.wr (tL [x0] σ) σ λVW σ=>
 A.wr (tL [x1] σ) σ λVX σ=>
 A.wr (Qs aZ [] σ) σ λuw σ=>
 A.wr (Qs bX [] σ) σ λB8 σ=>
 A.call (.call 171) [VW,VX,(.int .i8 kd),x2,x3,x4,(.func (.func F) [] [])] σ λoW σ=>
 A.rd (Xi 0 [oW] σ) λsc=>
 A.rd (Xi 1 [oW] σ) λMb=>
 A.rd (Xi 2 [oW] σ) λxM=>
 A.wr (Yj 23 [uw,sc] σ) σ λ_ σ=>
 A.wr (Yj 7 [B8,Mb] σ) σ λ_ σ=>
 A.opt (im true 23 uw σ) λr8=>
 A.opt (im true 7 B8 σ) λr9=>
 ret (.bp [r8,r9,xM]) σ
|_=>A.stop
theorem RA{b:Bk}{next:Int}:∀ {l:List Th} {ids:List Int},XA b next ids l=true→∀u∈l,Qz b next u=true
 |v::l,ids,h,u,hu=>by
  simp only[XA,AI]at h;rcases zAR.1 hu with rfl|hu
  ·exact h.1
  ·exact RA h.2.2 u hu
theorem NX{b:Bk}{next:Int}{u:Th}(h:Qz b next u=true):0<=u.card∧u.card.toNat<b.ai.length:=by
 simp_all [Qz]
theorem IB{e:Int}{b:Bk}{s:St}{bare:Bool}(h:aO e b s bare=true):∀u∈s.s0.af,0<=u.card∧u.card.toNat<b.ai.length:=by
 have:=MQ h;simp only[YC,AI]at this;exact λu hu=>NX (RA this.2.1 u hu)
theorem Ih{e:Int}{b:Bk}{s:St}{bare:Bool}(h:aO e b s bare=true):∀u∈s.s1.af,0<=u.card∧u.card.toNat<b.ai.length:=by
 have:=MQ h;simp only[YC,AI]at this;exact λu hu=>NX (RA this.2.2.2 u hu)
theorem YR{l:List Th}{id:Int}{k:Nat}(h:gB l id=some k):∃u,l[k]?=some u∧u.id=id:=by
 obtain⟨hk,h2,_⟩:=List.findIdx?_eq_some_iff_getElem.1 h;simp_all
theorem XdM{σ:List ab}{b k:Nat}{l:List Th}{u:Th}(hU:aj σ b=.rows 4 (l.map bg))(hk:l[k]?=some u)(now:Int):Yj 1 [.ptr b k 2,iv now] σ=.ok .aQ [] [(b,.rows 4 ((l.set k { u with harm:=now }).map bg))]:=by
 have h1:nth (l.map bg) k=some (bg u):=by rw[Y7,zAX,hk];rfl
 have hl:k<(l.map bg).length:=by grind
 have h2:QF k [iv u.id,iv u.card,iv now,.bool u.ux] (l.map bg)=some ((l.set k { u with harm:=now }).map bg):=by
  rw[Y8 hl,zDc];rfl
 show (match aj σ b with
   |.rows sz rs=>match nth rs k with
    |some row=>match cellsOf (iv now)with
     | some cs=>bif IN cs.length 1 then (match cc 2 cs row with
      |some row'=>match QF k row' rs with
       |some rs'=>aA.ok .aQ [] [(b,.rows sz rs')]
       |none=>.stop
      | none=>.stop)else .stop
     |none=>.stop
    |none=>.stop
   | _=>.stop)=_
 simp_all [bg]
theorem cTp{b:Bk}(hf:a_ b=true)(bY:Yg b.ai){s:St}(hs:bd 2000000 s)(hm:aO (bz b).1 b s true=true){m:Int}(h01:m=0∨m=1){f F F2:FuncId}{kd:Int}(hg:GQ f 5 (gT kd F)){gF:fz}(yv:GQ F 1 gF)(hF:∀x τ (K:KT),K (.func (.func F2) [x] []) τ→gF VV [x] τ K)(ym:Zh prog F2=true)(n:Int)(v:Int×Int)(hc:PC F2 [.aq (.aq (cy b) 0::aI s) 0,.fj,iv (s.side m).aV,iv (iV n)] (.bp [iv v.1,iv v.2])):PC f [cC b,bZ s,iv 0,iv m,iv n] (eA (ni s kd m v)):=by
 have hr:ni s kd m v=(if iF v.1 then (s.put m { s.side m with aV:=v.1 },⟨kd,m,0,0,0,v.2,[]⟩,0)else (iz,jm,171)):=rfl;rcases h01 with rfl|rfl
 all_goals
  refine Qi hP hg rfl ?_;unfold gT;refine ay (Qd hP rfl g171.ok rfl ?_);rw[H7.e];unfold g171;dsimp only;refine ay (pQ b hf bY s (hs.mono (by decide)) (n0:=6) (n:=17) rfl rfl rfl rfl (λh=>by rw[hm]at h;cases h) (λ_=>?_));refine Za rfl (Ye (Za (vA ..) (Za (Z1 ..) (Za (Z6 ..) ?_))));refine Qg λk11 lW=>?_;refine Ye ?_;rw[lW];refine Za rfl (XZ (c:=false) (d:=false) (λ_=>rfl) (λ_=>rfl) (ay (Xbx hP (ys:=[.ak 17 0]) (zs:=[.ak 17 0]) rfl yv rfl [] [17] (v:=.func (.func F2) [.ak 17 0] []) (m:=0) (σ:=((O9 b s).append [.box (Hi s)])) (τ:=zu) (τ':=zu) (by decide) (show ∀b∈[17],b<18 by decide) rfl rfl ?_ rfl (u:=.func (.func F2) [.ak 17 0] []) (up:=[]) (σ':=((O9 b s).append [.box (Hi s)])) rfl rfl rfl ?_)))
  ·exact hF _ _ _ ⟨rfl,rfl⟩
  refine ay ?_;refine Gc (rd:=[0,6,7,8,9,10,11,12,13,14,15,16,17]) (hc) rfl ym (.cons (aB.box (row:=(Hi s)) rfl (by decide) (.cons (aB.box (row:=cy b) rfl (by decide) (bu.ro rfl)) ?_)) <| .cons (aB.ro rfl) <| .cons (aB.ro rfl) <| .cons (aB.ro rfl) .nil) rfl ?_
  ·exact SB.mk (s:=s) (RI.own rfl (by decide) rfl) (RI.own rfl (by decide) rfl) (RI.own rfl (by decide) rfl) (RI.own rfl (by decide) rfl) (RT.own rfl (by decide) rfl) (RI.own rfl (by decide) rfl) (RI.own rfl (by decide) rfl) (RI.own rfl (by decide) rfl) (RI.own rfl (by decide) rfl) (RT.own rfl (by decide) rfl) (RI.own rfl (by decide) rfl)
  refine ay (aY (c57 _) g63.ok (Za rfl (Ya (λh2=>?_) (λh2=>?_))))
  ·have h3:iF v.1=false:=by simpa using h2
   replace hr:=hr.trans (aE (by rw[h3];decide))
   refine ay ?_;rw[hr];exact⟨[],u9 171⟩
  have h3:iF v.1=true:=by simpa using h2
  replace hr:=hr.trans (aJ h3)
  refine Za rfl (Qg λk63 Dg=>?_);refine ay ?_;rw[Dg];refine ay ?_;rw[hr];refine⟨zAC 18,?_⟩;refine oR (r:=(_,⟨kd,_,0,0,0,v.2,[]⟩,0)) ?_ (o8 (e:=⟨kd,_,0,0,0,v.2,[]⟩) RI.an)
 ·refine SB.mk (rd:=zAC 18) (s:={ s with s0:={ s.s0 with aV:=v.1 } }) ?_ ?_ ?_ ?_ ?_ ?_ ?_ ?_ ?_ ?_ ?_<;>first|exact RI.own rfl (by decide) rfl|exact RT.own rfl (by decide) rfl
 ·refine SB.mk (rd:=zAC 18) (s:={ s with s1:={ s.s1 with aV:=v.1 } }) ?_ ?_ ?_ ?_ ?_ ?_ ?_ ?_ ?_ ?_ ?_<;>first|exact RI.own rfl (by decide) rfl|exact RT.own rfl (by decide) rfl
theorem cTu{b:Bk}(hf:a_ b=true)(bY:Yg b.ai){s:St}(hs:bd 2000000 s)(hm:aO (bz b).1 b s true=true){m:Int}(h01:m=0∨m=1){f F F2:FuncId}{kd:Int}(hg:GQ f 5 (gT kd F)){gF:fz}(yv:GQ F 1 gF)(hF:∀x τ (K:KT),K (.func (.func F2) [x] []) τ→gF VV [x] τ K)(ym:Zh prog F2=true)(id sd n:Int)(gP:id≠0)(oC:¬id<0)(k:Nat)(yu:gz s id=.bp [iv m,iv k,.bool true])(u:Th)(hk:(s.side m).af[k]?=some u)(v:Int×Int)(hc:PC F2 [.aq (.aq (cy b) 0::aI s) 0,.aq (bg u) 0,iv (s.side m).aV,iv (iV n)] (.bp [iv v.1,iv v.2])):PC f [cC b,bZ s,iv id,iv sd,iv n] (eA (jH s kd m k id u v)):=by
 have h71:=c71 s (hs.mono (by decide)) id;rw[yu]at h71;have mw:k<(s.side m).af.length:=(gK hk).1;have hr:jH s kd m k id u v=(if iF v.1 then (s.put m { s.side m with af:=(s.side m).af.set k { u with harm:=v.1 } },⟨kd,m,0,id,0,v.2,[]⟩,0)else (iz,jm,171)):=rfl;rcases h01 with rfl|rfl
 all_goals
  refine Qi hP hg rfl ?_;unfold gT;refine ay (Qd hP rfl g171.ok rfl ?_);rw[H7.e];unfold g171;dsimp only;refine ay (pQ b hf bY s (hs.mono (by decide)) (n0:=6) (n:=17) rfl rfl rfl rfl (λh=>by rw[hm]at h;cases h) (λ_=>?_));refine Za rfl (Ye (Za (vA ..) (Za (Z1 ..) (Za (Z6 ..) ?_))));refine Qg λk11 lW=>?_;rw[fk gP];refine ay (aY h71 g25.ok (Za rfl (Za rfl (Za rfl (Za rfl ?_)))));refine XZ (c:=false) (λ_=>rfl) (λ_=>ZS ..) ?_;rw[gm oC];refine ay (Za (sE _ _ 0 _ _ _ _ _ k mw rfl) ?_);rw[No];rw[lW];refine Za rfl (XZ (c:=false) (d:=false) (λ_=>rfl) (λ_=>rfl) (ay (Xbx hP (ys:=[.ak 17 0]) (zs:=[.ak 17 0]) rfl yv rfl [] [17] (v:=.func (.func F2) [.ak 17 0] []) (m:=0) (σ:=((O9 b s).append [.box (Hi s)])) (τ:=zu) (τ':=zu) (by decide) (show ∀b∈[17],b<18 by decide) rfl rfl ?_ rfl (u:=.func (.func F2) [.ak 17 0] []) (up:=[]) (σ':=((O9 b s).append [.box (Hi s)])) rfl rfl rfl ?_)))
  ·exact hF _ _ _ ⟨rfl,rfl⟩
  refine ay ?_;refine Gc (rd:=[0,6,7,8,9,10,11,12,13,14,15,16,17]) (hc) rfl ym (.cons (aB.box (row:=(Hi s)) rfl (by decide) (.cons (aB.box (row:=cy b) rfl (by decide) (bu.ro rfl)) ?_)) <| .cons (aB.ptr (row:=bg u) rfl (by decide) (by rw[zAX];exact congrArg (Option.map bg) hk) (bu.ro rfl)) <| .cons (aB.ro rfl) <| .cons (aB.ro rfl) .nil) rfl ?_
  ·exact SB.mk (s:=s) (RI.own rfl (by decide) rfl) (RI.own rfl (by decide) rfl) (RI.own rfl (by decide) rfl) (RI.own rfl (by decide) rfl) (RT.own rfl (by decide) rfl) (RI.own rfl (by decide) rfl) (RI.own rfl (by decide) rfl) (RI.own rfl (by decide) rfl) (RI.own rfl (by decide) rfl) (RT.own rfl (by decide) rfl) (RI.own rfl (by decide) rfl)
  refine ay (aY (c57 _) g63.ok (Za rfl (Ya (λh2=>?_) (λh2=>?_))))
  ·have h3:iF v.1=false:=by simpa using h2
   replace hr:=hr.trans (aE (by rw[h3];decide))
   refine ay ?_;rw[hr];exact⟨[],u9 171⟩
  have h3:iF v.1=true:=by simpa using h2
  replace hr:=hr.trans (aJ h3)
  refine Za rfl (Qg λk63 Dg=>?_);refine ay (Yd (XdM rfl hk _) rfl ?_);rw[Dg];refine ay ?_;rw[hr];refine⟨zAC 18,?_⟩;refine oR (r:=(_,⟨kd,_,0,id,0,v.2,[]⟩,0)) ?_ (o8 (e:=⟨kd,_,0,id,0,v.2,[]⟩) RI.an)
 ·refine SB.mk (rd:=zAC 18) (s:={ s with s0:={ s.s0 with af:=s.s0.af.set k { u with harm:=v.1 } } }) ?_ ?_ ?_ ?_ ?_ ?_ ?_ ?_ ?_ ?_ ?_<;>first|exact RI.own rfl (by decide) rfl|exact RT.own rfl (by decide) rfl|exact RT.own (l:=s.s0.af.set k { u with harm:=v.1 }) rfl (by decide) (by simp)
 ·refine SB.mk (rd:=zAC 18) (s:={ s with s1:={ s.s1 with af:=s.s1.af.set k { u with harm:=v.1 } } }) ?_ ?_ ?_ ?_ ?_ ?_ ?_ ?_ ?_ ?_ ?_<;>first|exact RI.own rfl (by decide) rfl|exact RT.own rfl (by decide) rfl|exact RT.own (l:=s.s1.af.set k { u with harm:=v.1 }) rfl (by decide) (by simp)
theorem cTn{b:Bk}(hf:a_ b=true)(bY:Yg b.ai){s:St}(hs:bd 2000000 s)(hm:aO (bz b).1 b s true=true){f F F2:FuncId}{kd:Int}(hg:GQ f 5 (gT kd F)){gF:fz}(yv:GQ F 1 gF)(hF:∀x τ (K:KT),K (.func (.func F2) [x] []) τ→gF VV [x] τ K)(ym:Zh prog F2=true)(id sd n:Int)(gP:id≠0)(v:aa)(w:aa)(x:Bool)(yu:gz s id=.bp [v,w,.bool x])(hx:id<0∨x=false):PC f [cC b,bZ s,iv id,iv sd,iv n] (eA (iz,jm,4)):=by
 have h71:=c71 s (hs.mono (by decide)) id;rw[yu]at h71;have rm:ga [.bp [v,w,.bool x]]=true:=by rw[←yu];rfl
 refine Qi hP hg rfl ?_;unfold gT;refine ay (Qd hP rfl g171.ok rfl ?_);rw[H7.e];unfold g171;dsimp only;refine ay (pQ b hf bY s (hs.mono (by decide)) (n0:=6) (n:=17) rfl rfl rfl rfl (λh=>by rw[hm]at h;cases h) (λ_=>?_));refine Za rfl (Ye (Za (vA ..) (Za (Z1 ..) (Za (Z6 ..) ?_))));refine Qg λk11 lW=>?_;rw[fk gP];refine ay (aY h71 g25.ok ?_);refine ay (XZ (c:=!x) (λ_=>rfl) (λ_=>ZS ..) ?_);rw[show (!x||decide (id<0))=true by rcases hx with h|h<;>simp[h]];refine ay ?_;exact⟨[],u9 4⟩
theorem cT{b:Bk}(hf:a_ b=true)(bY:Yg b.ai){s:St}(hs:bd 2000000 s)(hm:aO (bz b).1 b s true=true){f F F2:FuncId}{kd:Int}(hg:GQ f 5 (gT kd F)){gF:fz}(yv:GQ F 1 gF)(hF:∀x τ (K:KT),K (.func (.func F2) [x] []) τ→gF VV [x] τ K)(ym:Zh prog F2=true)(id sd n:Int)(h0:sd=0∨sd=1){fP:Int→Int×Int}{fU:Th→Int×Int}(hcP:∀m aV,PC F2 [.aq m 0,.fj,iv aV,iv (iV n)] (.bp [iv (fP aV).1,iv (fP aV).2]))(hcU:∀m u aV,0<=u.card→u.card.toNat<b.ai.length→PC F2 [.aq (.aq (cy b) 0::m) 0,.aq (bg u) 0,iv aV,iv (iV n)] (.bp [iv (fU u).1,iv (fU u).2])) :
  PC f [cC b,bZ s,iv id,iv sd,iv n] (eA (fY kd fP fU s id sd)):=by
 unfold fY;by_cases gP:id=0
 ·rw[aJ gP];subst gP;exact cTp hf bY hs hm h0 hg yv hF ym n _ (by rcases h0 with rfl|rfl<;>exact hcP _ _)
 rw[aE gP];by_cases oC:id<0
 ·rw[aJ oC];exact cTn hf bY hs hm hg yv hF ym id sd n gP _ _ _ rfl (.inl oC)
 rw[aE oC];cases q0:gB s.s0.af id with
 |some k=>
  obtain⟨u,hk,_⟩:=YR q0;have J1:=IB hm u (zAK hk);simp only[hk,zAo];exact cTu hf bY hs hm (.inl rfl) hg yv hF ym id sd n gP oC k (by simp[gz,aL,q0]) u hk _ (hcU _ _ _ J1.1 J1.2)
 |none=>
  cases q1:gB s.s1.af id with
  |some k=>
   obtain⟨u,hk,_⟩:=YR q1;have J1:=Ih hm u (zAK hk);simp only[hk,zAo];exact cTu hf bY hs hm (.inr rfl) hg yv hF ym id sd n gP oC k (by simp[gz,aL,q0,q1]) u hk _ (hcU _ _ _ J1.1 J1.2)
  |none=>exact cTn hf bY hs hm hg yv hF ym id sd n gP _ _ _ rfl (.inr (by simp[aL,q0,q1]))
theorem w65(x:aa)(τ:List ab)(K:KT)(h:K (.func (.func 173) [x] []) τ):g172.u VV [x] τ K:=by
 rw[H1.e];unfold g172;dsimp only;exact Za rfl h
theorem c22(b:Bk)(hf:a_ b=true)(bY:Yg b.ai)(s:St)(hs:bd 2000000 s)(hm:aO (bz b).1 b s true=true)(id sd n:Int)(h0:sd=0∨sd=1):PC 123 [cC b,bZ s,iv id,iv sd,iv n] (eA (jv b s id sd n)):=
 cT hf bY hs hm (show GQ 123 5 (gT 5 172) from g123.ok) g172.ok w65 g173.ok.plain id sd n h0 (λm aV=>Te m aV _) (λm u aV h1 h2=>Tf b m u aV _ h1 h2)
theorem told{α:Type}(l:List α){Q:α→Int→Prop}(h:∀x∈l,∃n,Q x n):∃F:Nat→Int,∀i (h:i<l.length),Q l[i] (F i):=by
 refine Classical.axiomOfChoice (r:=λ(i:Nat) (n:Int)=>∀(h:i<l.length),Q l[i] n) (λi=>?_);by_cases hi:i<l.length
 ·obtain⟨n,hn⟩:=h l[i] (AT hi);exact⟨n,λ_=>hn⟩
 ·exact⟨0,λh'=>(hi h').elim⟩
abbrev BS(s:St):List aa:=[.ak 0 0,iv s.turn,iv s.mover,aN s.phase,.bool s.bV,aN s.result,.sl 2 0 s.ao.length false,iv s.next,iv s.s0.aV,iv s.s0.aT,iv s.s0.most,.sl 3 0 s.s0.az.length false,.sl 4 0 s.s0.hand.length false,.sl 5 0 s.s0.al.length false,.sl 6 0 s.s0.af.length false,.sl 7 0 s.s0.told.length false,iv s.s1.aV,iv s.s1.aT,iv s.s1.most,.sl 8 0 s.s1.az.length false,.sl 9 0 s.s1.hand.length false,.sl 10 0 s.s1.al.length false,.sl 11 0 s.s1.af.length false,.sl 12 0 s.s1.told.length false]
abbrev VS(b:Bk)(s:St):List ab:=[.box (cy b),.box (aI s),.rows 1 (s.ao.map aR),.rows 1 (s.s0.az.map aR),.rows 1 (s.s0.hand.map aR),.rows 1 (s.s0.al.map aR),.rows 4 (s.s0.af.map bg),.rows 1 (s.s0.told.map aR),.rows 1 (s.s1.az.map aR),.rows 1 (s.s1.hand.map aR),.rows 1 (s.s1.al.map aR),.rows 4 (s.s1.af.map bg),.rows 1 (s.s1.told.map aR)]
def Yr(b:Bk)(c:Int):Cd:=(b.ai[c.toNat]?).getD default
def kv(b:Bk)(place:Int):List Th→Int→Int×Int→Int×Int
 |[],_,a=>a
 |u::l,i,a=>kv b place l (i+1) (if i=place then (BY.wrap (a.1+(Yr b u.card).dG),BY.wrap (a.2+(Yr b u.card).bJ))else (BY.wrap (a.1+(Yr b u.card).eR),BY.wrap (a.2+(Yr b u.card).dP)))
def jL(b:Bk)(l:List Th)(place:Int):Int×Int:=kv b place l 0 (0,0)
def QJ(b:Bk)(all:List Th):List Th→Int→List Int
 |[],_=>[]
 |u::l,i=>if (jL b all i).2<=u.harm then u.id::QJ b all l (i+1)else QJ b all l (i+1)
def Q0(b:Bk)(d:Sd):List Int:=QJ b d.af d.af 0
theorem ZbA(b:Bk)(all:List Th):∀(l:List Th) (i:Int),(QJ b all l i).length<=l.length
 |[],_=>IT _
 |u::l,i=>by
  have:=ZbA b all l (i+1);unfold QJ;split<;>simp<;>omega
def aH(b:Bk)(s:St):List Int:=if s.mover=0 then Q0 b s.s0++Q0 b s.s1 else Q0 b s.s1++Q0 b s.s0
theorem Bd(x:Cd):aK false 3 1 (cL x)=some (iv x.dG):=rfl
theorem Be(x:Cd):aK false 4 1 (cL x)=some (iv x.bJ):=rfl
theorem Bf(x:Cd):aK false 6 1 (cL x)=some (iv x.eR):=rfl
theorem Bg(x:Cd):aK false 7 1 (cL x)=some (iv x.dP):=rfl
theorem z7{σ:List ab}{b i j n sz:Nat}{agg:Bool}{rs:List (List aa)}{row:List aa}{v:aa}(hb:aj σ b=.rows sz rs)(hi:rs[i]?=some row)(hv:aK agg j n row=some v):Qe agg n [.ptr b i j] σ=.ok v [b] []:=by
 show (match aj σ b with
   |.rows _ rs=>match nth rs i with
    |some row=>match aK agg j n row with
     |some v=>aA.ok v [b] []
     |none=>.stop
    |none=>.stop
   | _=>.stop)=_
 rw[hb];simp only[Y7,hi,hv]
theorem Gr.more{σ0 σ:List ab}{n k:Nat}{rows:List (List aa)}{v:aa}(h:Gr σ0 n rows k v σ)(l:List ab):Gr σ0 n rows k v (σ++l):=by
 obtain⟨h1,h2,h3⟩:=h;refine⟨by simp;omega,λc hc=>by rw[Yf l (by omega),h2 c hc],?_⟩;rcases h3 with h3|⟨q1,b,q2,q3,q4,q5⟩
 ·exact .inl h3
 ·exact .inr ⟨q1,b,q2,q3,Qb l q4,q5⟩
theorem Gr.ri{σ0 σ:List ab}{l:List Int}{v:aa}(h:Gr σ0 1 (l.map aR) l.length v σ):∃rd,RI σ rd v l:=by
 rcases h.2.2 with ⟨h1,h2,_⟩|⟨_,b,_,h2,h3,_⟩
 ·simp_all [RI.an]
 ·subst h2;exact⟨[b],RI.own h3 (by simp) rfl⟩
def AB(side:Int):Nat:=if side=0 then 4 else 9
def yG(side:Int):Nat:=if side=0 then 7 else 15
theorem c75(b:Bk)(s:St){m:Int}(hm:m=0∨m=1)(hl:(s.side m).af.length<=1000000000)(hu:∀u∈(s.side m).af,0<=u.card∧u.card.toNat<b.ai.length)(place:Int):PC 49 [.aq (.aq (cy b) 0::aI s) 0,iv m,iv place] (.bp [iv (jL b (s.side m).af place).1,iv (jL b (s.side m).af place).2]):=by
 generalize hU:(s.side m).af=U at *;have hp:aK false (yG m+1+6) 1 (.aq (cy b) 0::aI s)=some (gU U):=by rw[←hU];rcases hm with rfl|rfl<;>rfl
 have hi:∀σ,Yk 2 8 [.aq (.aq (cy b) 0::aI s) (0+1+7),iv m] σ=.ok (.aq (.aq (cy b) 0::aI s) (yG m+1)) [] []:=λσ=>by rcases hm with rfl|rfl<;>rfl
 refine Xa hP g49.ok rfl rfl ?_;rw[H3.e];unfold g49;dsimp only;refine Za rfl (Za rfl (Za rfl (Za (hi _) (Za rfl (Za (bB hp) (Za (v:=iv U.length) (rd:=[]) (by simp[Zf]) ?_))))));refine Xg (ι:=Nat) (λi vs _=>(∃a:Int×Int,vs=[iv i,iv a.1,iv a.2]∧jL b U place=kv b place (U.drop i) i a)∧i<=U.length) (λi=>U.length-i) 0 ⟨⟨(0,0),rfl,by simp[jL]⟩,by omega⟩ ?_;rintro i vs σ again ⟨⟨a,rfl,hr⟩,hi⟩ bn;refine Za rfl (Ya (λh=>?_) (λh=>?_));rotate_left
 ·have h:i=U.length:=by simp at h;omega
  simp_all [kv]
 have h:i<U.length:=by simpa using h
 have g_:=AT h;rw[gI h,kv]at hr;have cH:=λ(t:List ab)=>Xm t bg false false 4 U .i64 i h;generalize U[i]=u at g_ hr cH;have C6:=hu u g_;have wu:=λ(t:List ab)=>sH t cL false false 12 b.ai .i64 u.card C6.1 C6.2;have uK:Yr b u.card=b.ai[u.card.toNat]:=by simp_all [Yr]
 rw[uK]at hr;generalize b.ai[u.card.toNat]=c at hr wu;refine Qg λk10 ry=>?_;refine Za (cH _) (Za (bB rfl) (Qu (row:=bg u) (row':=bg u) rfl rfl rfl ?_));have hB:=Yc σ (.box (bg u));refine Za rfl (Za rfl (Za (bB rfl) (Za rfl (Za rfl (Za (bB rfl) (Za rfl (Za (ld hB rfl) (Za (wu _) (Za (Ys ..) ?_)))))))));refine Ya (λhp=>?_) (λhp=>?_)
 ·rw[aJ (of_decide_eq_true hp)]at hr;refine Za rfl (Za rfl (Za (bB (Bd _)) (Za (Qj ..) (Za rfl (Za rfl (Za (bB (Be _)) (Za (Qj ..) ?_)))))));rw[ry];refine Za (Qj ..) ?_;rw[Qc (n:=i) (by omega)];exact bn (i+1) _ _ (by omega) ⟨⟨_,rfl,by rw[hr];push_cast;rfl⟩,by omega⟩
 ·rw[aE (of_decide_eq_false hp)]at hr;refine Za rfl (Za rfl (Za (bB (Bf _)) (Za (Qj ..) (Za rfl (Za rfl (Za (bB (Bg _)) (Za (Qj ..) ?_)))))));rw[ry];refine Za (Qj ..) ?_;rw[Qc (n:=i) (by omega)];exact bn (i+1) _ _ (by omega) ⟨⟨_,rfl,by rw[hr];push_cast;rfl⟩,by omega⟩
theorem c28(b:Bk)(hf:a_ b=true)(bY:Yg b.ai)(s:St)(hs:bd 2000000 s)(hm:aO (bz b).1 b s true=true):PC 24 [cC b,bZ s] (aP (aH b s)):=by
 have w1:BY.wrap (0+1)=1:=by decide
 have w2:BY.wrap (1+1)=2:=by decide
 have Da:=Qt hm;obtain⟨M,eM⟩:∃M,(VS b s).append [ab.box (BS s)]=M:=⟨_,rfl⟩;have inner:∀(m:Int) (wL:m=0∨m=1) (pre:List Int) (v:aa) (τ:List ab) (X:mC),Gr M 1 (pre.map aR) pre.length v τ→pre.length<=2000000→(∀v' τ',Gr M 1 ((pre++Q0 b (s.side m)).map aR) (pre++Q0 b (s.side m)).length v' τ'→X [iv (s.side m).af.length,v'] τ') →
   VV.loop (λSU v22 σ=>VV.rd (Ym .lss false [h0 v22,iv (s.side m).af.length] σ) λt35=>VV.test t35 (
    cI (λk24=>VV.rd (Qh 4 [.sl (AB m + 2) 0 (s.side m).af.length false,h0 v22] σ) λt37=>VV.rd (Qe true 4 [t37] σ) λt38=>VV.wr (Qs [.int .i64 0,.int .i64 0,.int .i64 0,.bool false] [] σ) σ λt10 σ=>VV.wr (Yj 4 [t10,t38] σ) σ λ_ σ=>
     VV.call (.call 49) [.ak 13 0,iv m,h0 v22] σ λt43 σ=>VV.rd (Xi 0 [t43] σ) λt44=>VV.rd (Xi 1 [t43] σ) λt45=>VV.rd (Xb 2 [t10] σ) λt46=>VV.rd (Qe false 1 [t46] σ) λt47=>VV.rd (Ym .geq false [t47,t45] σ) λt49=>VV.test t49 (
      VV.rd (Xb 0 [t10] σ) λt51=>VV.rd (Qe false 1 [t51] σ) λt52=>VV.wr (Yp 1 1 [.int .i64 0] [(0,1)] [t52] σ) σ λt53 σ=>VV.wr (Qf 1 8 [h1 v22,t53] σ) σ λt54 σ=>k24 [t54] σ) (k24 [h1 v22] σ)) (λv25 σ=>VV.rd (Ym .add false [h0 v22,.int .i64 1] σ) λt55=>SU [t55,h0 v25] σ)) (X v22 σ)) [.int .i64 0,v] τ:=by
  intro m wL pre v τ X OH aaC hX;have O4:(s.side m).af.length<=2000000:=by rcases wL with rfl|rfl;exact hs.s0.af;exact hs.s1.af
  have huu:∀u∈(s.side m).af,0<=u.card∧u.card.toNat<b.ai.length:=by rcases wL with rfl|rfl;exact IB hm;exact Ih hm
  have h165:=c75 b s wL (by omega) huu;have hMU:aj M (AB m+2)=.rows 4 ((s.side m).af.map bg):=by rw[←eM];rcases wL with rfl|rfl<;>rfl
  have nw:Q0 b (s.side m)=QJ b (s.side m).af (s.side m).af 0:=rfl;generalize (s.side m).af=U at *;refine Xg (ι:=Nat) (λi vs τ=>(∃(done:List Int) (v:aa),vs=[iv i,v]∧Gr M 1 (done.map aR) done.length v τ∧pre++Q0 b (s.side m)=done++QJ b U (U.drop i) i∧done.length<=pre.length+i)∧i<=U.length) (λi=>U.length-i) 0 ⟨⟨pre,_,rfl,OH,by rw[nw];rfl,by omega⟩,by omega⟩ ?_;rintro i vs τ again ⟨⟨done,v,rfl,hG,hr,T5⟩,hi⟩ bn;refine Za rfl (YS (λh=>?_) (λh=>?_))
  ·have sq:(U.map bg)[i]?=some (bg U[i]):=by simp[h]
   rw[gI h,QJ]at hr;generalize U[i]=u at hr sq;refine Qg λk24 Kg=>?_;have hU:aj τ (AB m+2)=.rows 4 (U.map bg):=hG.fQ hMU (by simp);refine Za (v:=.ptr (AB m+2) i 0) (rd:=[AB m+2]) ?_ ?_
   ·have:=sE τ (AB m+2) 0 U.length false 4 (U.map bg) .i64 i h hU;rw[No]at this;exact this
   refine Za (z7 hU sq rfl) (Qu (row:=bg u) (row':=bg u) rfl rfl rfl ?_);have hB:=Yc τ (.box (bg u));have JP:=hG.more [.box (bg u)];have hO:∀c y,y≠ab.dead→aj ((VS b s).append [ab.box (BS s)]) c=y→aj (τ++[.box (bg u)]) c=y:=λc y hy hc=>JP.fQ (by rw[←eM];exact hc) hy;refine Zu (rd:=[0,2,3,4,5,6,7,8,9,10,11,12,13]) (h165 i) rfl g49.ok.plain (.cons (aB.box (row:=BS s) (Xw (hO 13 _ (by simp) rfl) (by simp)) (by decide) (.cons (aB.box (row:=cy b) (Xw (hO 0 _ (by simp) rfl) (by simp)) (by decide) (bu.ro rfl)) ?_)) <| .cons (aB.ro rfl) <| .cons (aB.ro rfl) .nil) rfl ?_
   ·exact SB.mk (s:=s) (RI.own (hO 2 _ (by simp) rfl) (by decide) rfl) (RI.own (hO 3 _ (by simp) rfl) (by decide) rfl) (RI.own (hO 4 _ (by simp) rfl) (by decide) rfl) (RI.own (hO 5 _ (by simp) rfl) (by decide) rfl) (RT.own (hO 6 _ (by simp) rfl) (by decide) rfl) (RI.own (hO 7 _ (by simp) rfl) (by decide) rfl) (RI.own (hO 8 _ (by simp) rfl) (by decide) rfl) (RI.own (hO 9 _ (by simp) rfl) (by decide) rfl) (RI.own (hO 10 _ (by simp) rfl) (by decide) rfl) (RT.own (hO 11 _ (by simp) rfl) (by decide) rfl) (RI.own (hO 12 _ (by simp) rfl) (by decide) rfl)
   refine ay (Za (ld hB rfl) (Za (qw ..) ?_));refine Ya (λhp=>?_) (λhp=>?_)
   ·rw[aJ (of_decide_eq_true hp)]at hr;refine Za rfl (Za (ld hB rfl) ?_);refine JP.put (by_:=8) rfl rfl rfl (by omega) (λv' τ' TP=>?_);rw[Kg];refine Za (Qj ..) ?_;rw[Qc (n:=i) (by omega)];refine bn (i+1) _ _ (by omega) ⟨⟨done++[u.id],v',rfl,?_,?_,?_⟩,by omega⟩
    ·rw[zAe,By];exact TP
    ·rw[hr,zAa];push_cast;rfl
    ·rw[By,zBa];omega
   ·rw[aE (of_decide_eq_false hp)]at hr;rw[Kg];refine Za (Qj ..) ?_;rw[Qc (n:=i) (by omega)];exact bn (i+1) _ _ (by omega) ⟨⟨done,v,rfl,JP,by rw[hr];push_cast;rfl,by omega⟩,by omega⟩
  subst h;rw[zAD,QJ,zBN]at hr;subst hr;exact hX v τ hG
 have h01:s.mover=0∨s.mover=1:=by omega
 obtain⟨m,em⟩:∃m,s.mover=m:=⟨_,rfl⟩;rw[em]at h01;have h10:1-m=0∨1-m=1:=by omega
 have pu:∀ {k:Int},k=0∨k=1→aK false (yG k+1+6) 1 (BS s)=some (.sl (AB k+2) 0 (s.side k).af.length false):=by rintro k (rfl|rfl)<;>rfl
 have si:∀ {k:Int},k=0∨k=1→∀σ,Yk 2 8 [.ak 13 (0+1+7),iv k] σ=.ok (.ak 13 (yG k+1)) [] []:=by rintro k (rfl|rfl) σ<;>rfl
 refine Qi hP g24.ok rfl ?_;rw[H2.e];unfold g24;dsimp only;refine ay (pQ b hf bY s (hs.mono (by decide)) (n0:=2) (n:=13) rfl rfl rfl rfl (λh=>by rw[hm]at h;cases h) (λ_=>?_));have G6:∀σ,aj σ 1=.box (aI s)→Qe false 1 [.ak 1 1] σ=.ok (iv m) [1] []:=λσ h=>by
  have:=ld (σ:=σ) (b:=1) (j:=1) (n:=1) (agg:=false) (v:=iv s.mover) h rfl;rw[em]at this;exact this
 refine Za rfl (Ye (Za rfl (Za (G6 _ rfl) (Za rfl (Za (G6 _ rfl) (Za (Cv ..) ?_))))));rw[zAZ _ (by omega)];refine Za rfl (QK 3 (Zl ?_));have OH:Gr M 1 ([].map aR) ([]:List Int).length .an ((VS b s).append [.box (BS s)]):=by rw[eM];exact Gr.nil 1 _
 have hold:∀ {rows n v σ},Gr M 1 rows n v σ→aj σ 13=.box (BS s):=λh=>h.fQ (by rw[←eM];rfl) (by simp);refine Za rfl (Yh (Za rfl (Za rfl (Za rfl (Za rfl (Za (si h01 _) (Za rfl (Za (ld (hold OH) (pu h01)) (Za rfl ?_)))))))));refine inner m h01 [] _ _ _ OH (by simp) λv1 τ1 hG1=>?_;have BB:=ZbA b (s.side m).af (s.side m).af 0;have O4:(s.side m).af.length<=2000000:=by rcases h01 with rfl|rfl;exact hs.s0.af;exact hs.s1.af
 refine Za rfl ?_;rw[w1];refine Zl (Za rfl (Yh (Za rfl (Za rfl (Za rfl (Za rfl (Za (si h10 _) (Za rfl (Za (ld (hold hG1) (pu h10)) (Za rfl ?_))))))))));refine inner (1-m) h10 _ _ _ _ hG1 (by simp[Q0];omega) λv2 τ2 JP=>?_;refine Za rfl ?_;rw[w2];refine Zl (Za rfl (Ye ?_));obtain⟨rd,hri⟩:=JP.ri;refine⟨rd,?_⟩;have e:aH b s=[]++Q0 b (s.side m)++Q0 b (s.side (1-m)):=by
  unfold aH;rw[em];rcases h01 with rfl|rfl<;>rfl
 rw[e];exact hri
def Hn:Th:=⟨0,0,0,false⟩
theorem XbI:∀l:List Th,aW (l.map bg)=true
 |[]=>rfl
 |x::l=>by simp only[zAN,aW,XbI l,zAz];rfl
theorem WU{σ:List ab}{sz b n i:Nat}{ex:Bool}{rs:List (List aa)}(hb:aj σ b=.rows sz rs)(hi:i<=n)(h3:IN sz 3=false:=by rfl):∃v rd,Xy sz [.sl b 0 n ex,iv i] σ=.ok v rd []∧((i<n∧v=.sl b i (n-i) ex∧rd=[b])∨(i=n∧v=.aU false (zAi 0 n) sz []∧rd=[])):=by
 by_cases h:i<n
 ·refine⟨.sl b i (n - i) ex,[b],?_,.inl ⟨h,rfl,rfl⟩⟩;show (match aj σ b with
   |.rows s _=>bif IN s sz then (bif zAi i n then aA.ok (.sl b (0+i) (n-i) ex) [b] []else bif IN i n then (bif IN sz 3 then .ok (.sl b (0+n) 0 ex) [b] []else .ok (.aU false (zAi 0 n) sz []) [] [])else .stop)else .stop
   | _=>.stop)=_
  rw[hb];have:zAi i n=true:=sh h;simp only[zBf,cond_true,this,No]
 ·have e:i=n:=by omega
  subst e;refine⟨.aU false (zAi 0 i) sz [],[],?_,.inr ⟨rfl,rfl,rfl⟩⟩;show (match aj σ b with
   |.rows s _=>bif IN s sz then (bif zAi i i then aA.ok (.sl b (0+i) (i-i) ex) [b] []else bif IN i i then (bif IN sz 3 then .ok (.sl b (0+i) 0 ex) [b] []else .ok (.aU false (zAi 0 i) sz []) [] [])else .stop)else .stop
   | _=>.stop)=_
  rw[hb];have:zAi i i=false:=by
   cases e:zAi i i<;>simp_all
  simp_all
theorem ZcA(l:List Th)(i:Nat)(hi:i<l.length):∃l1 u l2,l=l1++u::l2∧l1.length=i∧l.eraseIdx i=l1++l2:=by
 refine⟨l.take i,l[i],l.drop (i+1),?_,by simp;omega,List.eraseIdx_eq_take_drop_succ ..⟩;simp
theorem c72{σ:List ab}{b i:Nat}{l rest:List Th}(hb:aj σ b=.rows 4 ((l++rest).map bg))(hi:i<l.length)(hl:l.length<=1000000000){K:KT}
 (hK:K (.sl b 0 (l.length-1) false) (σ.set b (.rows 4 ((l.eraseIdx i++Hn::rest).map bg)))):g52.u VV [.sl b 0 l.length false,iv i,iv ((i+1:Nat):Int)] σ K:=by
 have C1:=Yb hb;obtain⟨l1,u,l2,Ks,gk,G4⟩:=ZcA l i hi;have hlen:l.length=i+1+l2.length:=by rw[Ks];simp;omega
 rw[H3.e];unfold g52;dsimp only;refine Za (v:=iv l.length) (rd:=[]) rfl (Za (v:=.aQ) (rd:=[]) ?_ ?_)
 ·show (bif zAP i (i+1)&&(zAP (i+1) l.length&&zAP l.length l.length)then aA.ok .aQ [] []else .stop)=_;simp_all [sh]
 refine Za (Ys ..) ?_;rw[gm (by omega)];refine Ye (Za (v:=iv l.length) (rd:=[]) rfl ?_);refine Xf (v:=.sl b 0 i false) (rd:=[b]) ?_ (Zg _) ?_
 ·show (match aj σ b with
   |.rows s _=>bif IN s 4&&zAP i l.length then aA.ok (.sl b 0 i false) [b] []else .stop
   | _=>.stop)=_
  rw[hb];simp only[zBf,sh (show i<=l.length by omega),zAu,cond_true]
 obtain⟨v,rd,hv,jx⟩:=WU (n:=l.length) (i:=i+1) (ex:=false) hb (by omega);refine Xf hv (Zg _) ?_;have kO:∃rW,Xk 4 σ v=some (l2.map bg,rW):=by
  rcases jx with ⟨h1,rfl,_⟩|⟨h1,rfl,_⟩
  ·refine⟨[b],?_⟩;have hc:cut (i+1) (i+1+(l.length-(i+1))) ((l++rest).map bg)=l2.map bg:=by
    rw[Ks];unfold cut;rw[show i+1+((l1++u::l2).length-(i+1))=(l1++u::l2).length by simp;omega,zAe,List.take_left' (by simp),zAe,zAN,show i+1=(l1.map bg++[bg u]).length by simp[gk],show l1.map bg++bg u::l2.map bg=(l1.map bg++[bg u])++l2.map bg by simp];exact List.drop_left
   show (match aj σ b with
    |.rows s rs=>bif IN s 4&&zAP (i+1+(l.length-(i+1))) rs.length then some (cut (i+1) (i+1+(l.length-(i+1))) rs,[b])else none
    | _=>none)=_
   rw[hb];simp only[zBf,sh (show i+1+(l.length-(i+1))<=((l++rest).map bg).length by simp;omega),zAu,cond_true,hc]
  ·have:l2=[]:=zAW.1 (by omega);subst this;exact⟨[],rfl⟩
 obtain⟨rW,kO⟩:=kO;have wW:((l++rest).map bg).length=l.length+rest.length:=by simp
 have TX:Qf 4 32 [.sl b 0 i false,v] σ=.ok (.sl b 0 (i+l2.length) false) rW [(b,.rows 4 (over i (l2.map bg) ((l++rest).map bg)))]:=by
  have h1:(IN 0 0&&IN ((l++rest).map bg).length i)=false:=by
   grind [fV]
  have:Qf 4 32 [.sl b 0 i false,v] σ=Gk 4 32 σ b 0 i ((l++rest).map bg) v:=by
   show (match aj σ b with
    |.rows s rs=>bif IN s 4 then (bif IN 0 0&&IN rs.length i then XD 4 32 σ rs [(b,.dead)] v else Gk 4 32 σ b 0 i rs v)else .stop
    |.full s rs=>bif IN s 4&&IN 0 0 then AJ 4 32 σ b i rs v else .stop
    | _=>.stop)=_
   simp_all
  rw[this,Gk];simp only[kO,XbI,cond_true,No,sh (show i+(l2.map bg).length<=((l++rest).map bg).length by simp;omega),zAH]
  grind [sh]
 refine Xf TX (Ze _ C1) (Zw (by rfl) ?_);refine Za (v:=iv ((i+l2.length:Nat):Int)) (rd:=[]) rfl ?_;have lV:=Zd (σ:=σ) (.rows 4 (over i (l2.map bg) ((l++rest).map bg))) C1;have yx:over i (l2.map bg) ((l++rest).map bg)=(l1++l2).map bg++((u::l2).drop l2.length).map bg++rest.map bg:=by
  grind [over,List.drop_drop,List.drop_left,zAH,List.map_drop]
 have oE:∃w,(u::l2).drop l2.length=[w]:=by
  have:((u::l2).drop l2.length).length=1:=by simp
  exact List.length_eq_one_iff.1 this
 obtain⟨w,hw⟩:=oE;rw[hw]at yx;rw[yx]at lV ⊢;have s_:((l1++l2).map bg++[w].map bg++rest.map bg).length=l.length+rest.length:=by simp;omega
 refine Za (v:=.sl b (0+(i+l2.length)) (l.length-(i+l2.length)) false) (rd:=[b]) ?_ ?_
 ·show (match aj (σ.set b _) b with
   |.rows s rs=>bif IN s 4&&((zAi (i+l2.length) l.length||IN (i+l2.length) 0)&&(zAP l.length (i+l2.length)||(!(IN 4 0)&&zAP (0+l.length) rs.length)))then aA.ok (.sl b (0+(i+l2.length)) (l.length-(i+l2.length)) false) [b] []else .stop
   | _=>.stop)=_
  rw[lV];have k1:zAi (i+l2.length) l.length=true:=sh (show i+l2.length+1<=l.length by omega);have k2:zAP (0+l.length) ((l1++l2).map bg++[w].map bg++rest.map bg).length=true:=sh (by omega);simp only[k1,k2,zBf,Bool.true_or,zAF,zAz];cases zAP l.length (i+l2.length)<;>rfl
 refine Yd (v:=.aQ) (rd:=[]) (up:=[(b,.rows 4 (over (0+(i+l2.length)) (zAd (l.length-(i+l2.length)) (bg Hn)) ((l1++l2).map bg++[w].map bg++rest.map bg)))]) ?_ (Ze _ (by simpa using C1)) ?_
 ·show (match aj (σ.set b _) b with
   |.rows s rs=>bif IN s 4&&zAP (0+(i+l2.length)+(l.length-(i+l2.length))) rs.length then aA.ok .aQ [] [(b,.rows 4 (over (0+(i+l2.length)) (zAd (l.length-(i+l2.length)) (bg Hn)) rs))]else .stop
   | _=>.stop)=_
  simp_all [sh]
 rw[zDA];have e1:l.length-1=i+l2.length:=by omega
 have e2:over (0+(i+l2.length)) (zAd (l.length-(i+l2.length)) (bg Hn)) ((l1++l2).map bg++[w].map bg++rest.map bg)=(l.eraseIdx i++Hn::rest).map bg:=by
  rw[show l.length-(i+l2.length)=1 by omega,G4]
  grind [over]
 rw[e1]at hK;rw[e2];exact hK
theorem c74(x id:Int):PC 54 [iv x,.aq [iv id] 0] (.bool (decide (x=id))):=by
 refine Xa hP g54.ok rfl rfl ?_;rw[H2.e];unfold g54;dsimp only;exact Za (bB rfl) (Za (Ys ..) rfl)
theorem YdM{σ:List ab}{b m:Nat}{L:List Int}(hb:aj σ b=.rows 1 (L.map aR))(hm:m<L.length)(x:Int):Yj 1 [.ptr b m 0,iv x] σ=.ok .aQ [] [(b,.rows 1 ((L.set m x).map aR))]:=by
 have hl:m<(L.map aR).length:=by simpa using hm
 have h1:nth (L.map aR) m=some (aR L[m]):=by simp_all [Y7]
 have h2:QF m [iv x] (L.map aR)=some ((L.set m x).map aR):=by
  rw[Y8 hl,zDc];rfl
 show (match aj σ b with
   |.rows sz rs=>match nth rs m with
    |some row=>match cellsOf (iv x)with
     | some cs=>bif IN cs.length 1 then (match cc 0 cs row with
      |some row'=>match QF m row' rs with
       |some rs'=>aA.ok .aQ [] [(b,.rows sz rs')]
       |none=>.stop
      | none=>.stop)else .stop
     |none=>.stop
    |none=>.stop
   | _=>.stop)=_
 simp_all [aR]
theorem Xdk{α:Type}(f:α→Bool):∀(l:List α) (n:Int),ea f l n = -1∧(∀x∈l,f x=false)∨∃k:Nat,k<l.length∧ea f l n=n+k∧(∀x∈l.take k,f x=false)∧(l[k]?).map f=some true
 |[],n=>.inl ⟨rfl,by simp⟩
 |x::l,n=>by
  by_cases h:f x=true
  ·grind [ea]
  ·have e:ea f (x::l) n=ea f l (n+1):=aE h;rw[e];have h':f x=false:=by simpa using h
   rcases Xdk f l (n+1)with ⟨q1,q2⟩|⟨k,q1,q2,q3,q4⟩
   ·simp_all
   ·refine .inr ⟨k+1,by simp;omega,by rw[q2];push_cast;omega,?_,by simpa using q4⟩;simp_all
def bC(id:Int)(l:List Int):List Int:=l.filter λx=>!decide (x=id)
theorem Wy(id:Int)(l:List Int):(bC id l).length<=l.length:=List.length_filter_le _ _
theorem Qch{id:Int}{l:List Int}(h:∀x∈l,decide (x=id)=false):bC id l=l:=by
 simp_all [bC]
theorem WT{σ:List ab}{rd:List Nat}{b:Nat}{ex:Bool}{l rest:List Int}{n:Nat}(hb:aj σ b=.rows 1 ((l++rest).map aR))(di:b∈rd)(hn:n=l.length):RI σ rd (.sl b 0 n ex) l:=by
 subst hn;refine aB.own hb di (by simp) ?_ PK;simp[cut]
theorem WG{σ:List ab}{y:Nat}(h:¬y<σ.length):aj σ y=.dead:=by
 induction σ generalizing y with
 |nil=>rfl
 |cons x σ ih=>cases y<;>simp_all
theorem c73{σ:List ab}{b c:Nat}{l rest:List Int}{id:Int}(hb:aj σ b=.rows 1 ((l++rest).map aR))(hc:aj σ c=.box [iv id])(hl:l.length<=1000000000){K:KT}
 (hK:∀τ Ly,τ.length=σ.length→(∀k,k≠b→aj τ k=aj σ k)→aj τ b=.rows 1 ((bC id l++Ly).map aR)→K (.sl b 0 (bC id l).length false) τ) :
  g53.u VV [.sl b 0 l.length false,.func (.func 54) [] [.ak c 0]] σ K:=by
 have C1:=Yb hb;have hbc:c≠b:=by rintro rfl;rw[hb]at hc;cases hc
 rw[H2.e];unfold g53;dsimp only;refine Zu (rd:=[b,c]) (c120 l (by rw[cZ];omega) 54 [] [.aq [iv id] 0] g54.ok.plain (λx=>decide (x=id)) (λx _=>c74 x id) (λx=>rfl)) rfl g91.ok.plain (.cons (WT hb (by simp) rfl) <| .cons (aB.func .nil (.cons (aB.box (Xw hc (by simp)) (by simp) (bu.ro rfl)) .nil)) .nil) rfl (Za (Ys ..) ?_);rcases Xdk (λx=>decide (x=id)) l 0 with ⟨q1,q2⟩|⟨k,q1,q2,q3,q4⟩
 ·rw[q1];refine Yh ?_;have e:=Qch q2
  grind
 rw[q2,Int.zero_add,gm (by omega)];refine Ye (Za (Qj ..) ?_);rw[Qc (n:=k) (by omega)];have Um:bC id (l.take (k+1))=l.take k:=by
  simp_all [bC,zCv]
 refine Xg (ι:=Nat) (λj vs τ=>∃(m:Nat) (L:List Int),vs=[iv j,iv m]∧j<=l.length∧m<j∧L.length=l.length+rest.length∧L.take m=bC id (l.take j)∧(∀i,j<=i→i<l.length→L[i]?=l[i]?)∧aj τ b=.rows 1 (L.map aR)∧τ.length=σ.length∧(∀x,x≠b→aj τ x=aj σ x)) (λj=>l.length-j) (k+1)
  ⟨k,l++rest,rfl,by omega,by omega,by simp,by grind,λi h1 h2=>by rw[zAV h2],hb,rfl,λ_ _=>rfl⟩ ?_
 rintro j vs τ again ⟨m,L,rfl,hj,hm,hL,ht,hr,qA,b_,ho⟩ bn;have wO:m<=L.length:=by omega
 refine Za rfl (Za rfl (YS (λh=>?_) (λh=>?_)))
 ·have hx:L[j]?=some l[j]:=by rw[hr j (IT _) h];simp[h]
  have k_:l.take (j+1)=l.take j++[l[j]]:=by rw[zCv];simp[h]
  generalize l[j]=x at hx k_;refine Qg λk7 hk7=>?_;refine Za (v:=.ptr b j 0) (rd:=[b]) ?_ ?_
  ·have:=sE τ b 0 l.length false 1 (L.map aR) .i64 j h qA;rw[No]at this;exact this
  refine Za (z7 qA (row:=aR x) (by rw[zAX,hx];rfl) rfl) ?_;have BA:aj τ c=.box [iv id]:=by rw[ho c hbc];exact hc
  refine Zu (rd:=[c]) (c74 x id) rfl g54.ok.plain (.cons (aB.ro rfl) <| .cons (aB.box (Xw BA (by simp)) (by simp) (bu.ro rfl)) .nil) rfl (Za rfl (Ya (λhp=>?_) (λhp=>?_)))
  ·refine Za (v:=.ptr b m 0) (rd:=[b]) ?_ ?_
   ·have:=sE τ b 0 l.length false 1 (L.map aR) .i64 m (by omega) qA;rw[No]at this;exact this
   refine Yd (YdM qA (by omega) x) (Ze _ (by omega)) (Za (Qj ..) ?_);rw[Qc (n:=m) (by omega),hk7];refine Za (Qj ..) ?_;rw[Qc (n:=j) (by omega)];refine bn (j+1) _ _ (by omega) ⟨m+1,L.set m x,rfl,by omega,by omega,by simpa using hL,?_,λi h1 h2=>?_,Zd _ (by omega),by simpa using b_,λy hy=>?_⟩
   ·rw[k_,bC,List.filter_append,zCv,List.take_set_of_le (IT _),ht]
    grind [bC]
   ·grind
   grind [Xc,WG]
  ·rw[hk7];refine Za (Qj ..) ?_;rw[Qc (n:=j) (by omega)];refine bn (j+1) _ _ (by omega) ⟨m,L,rfl,by omega,by omega,hL,?_,λi h1 h2=>hr i (by omega) h2,qA,b_,ho⟩
   grind [bC]
 ·subst h;rw[zAr]at ht;have hmw:(bC id l).length=m:=by rw[←ht,zAq];omega
  obtain⟨v,rd,hv,jx⟩:=WU (n:=l.length) (i:=m) (ex:=false) qA (by omega);have jx:v=.sl b m (l.length-m) false∧rd=[b]:=by
   grind
  obtain⟨rfl,rfl⟩:=jx;refine Za hv (Yd (v:=.aQ) (rd:=[]) (up:=[(b,.rows 1 (over m (zAd (l.length-m) (aR 0)) (L.map aR)))]) ?_ (Ze _ (by omega)) ?_)
  ·show (match aj τ b with
    |.rows s rs=>bif IN s 1&&zAP (m+(l.length-m)) rs.length then aA.ok .aQ [] [(b,.rows 1 (over m (zAd (l.length-m) (aR 0)) rs))]else .stop
    | _=>.stop)=_
   rw[qA];simp only[zBf,zAF,sh (show m+(l.length-m)<=(L.map aR).length by simp;omega),cond_true]
  have Bw:=Zd (σ:=τ) (.rows 1 (over m (zAd (l.length-m) (aR 0)) (L.map aR))) (show b<τ.length by omega);refine Za (v:=.sl b 0 m false) (rd:=[b]) ?_ ?_
  ·show (match aj (τ.set b _) b with
    |.rows s _=>bif IN s 1&&zAP m l.length then aA.ok (.sl b 0 m false) [b] []else .stop
    | _=>.stop)=_
   rw[Bw];simp only[zBf,sh (show m<=l.length by omega),zAu,cond_true]
  rw[hmw]at hK;refine hK _ (zAd (l.length-m) 0++L.drop l.length) (by simpa using b_) (λy hy=>?_) ?_
  ·grind [Xc,WG]
  ·rw[Bw]
   congr 1
   unfold over;rw[List.length_replicate,show m+(l.length-m)=l.length by omega,←List.map_take,ht,←List.map_drop];simp
abbrev R2(x:St)(g0 g1:Nat):List aa:=[iv x.turn,iv x.mover,aN x.phase,.bool x.bV,aN x.result,.sl 3 0 x.ao.length false,iv x.next,iv x.s0.aV,iv x.s0.aT,iv x.s0.most,.sl 4 0 x.s0.az.length false,.sl 5 0 x.s0.hand.length false,.sl g0 0 x.s0.al.length false,.sl 7 0 x.s0.af.length false,.sl 8 0 x.s0.told.length false,iv x.s1.aV,iv x.s1.aT,iv x.s1.most,.sl 9 0 x.s1.az.length false,.sl 10 0 x.s1.hand.length false,.sl g1 0 x.s1.al.length false,.sl 12 0 x.s1.af.length false,.sl 13 0 x.s1.told.length false]
def CO(e:Ev):List aa:=[aN e.kind,iv e.side,iv e.card,iv e.id,iv e.other,iv e.n,.an]
def Qm(s:St)(id:Int):St×List Ev:=
 match gB s.s0.af id with
 |some k=>let u:=(s.s0.af[k]?).getD default
  ({ s with ao:=bC id s.ao,s0:={ s.s0 with af:=s.s0.af.eraseIdx k,al:=s.s0.al++[u.card] } },[⟨13,0,u.card,id,0,0,[]⟩])
 |none=>match gB s.s1.af id with
  |some k=>let u:=(s.s1.af[k]?).getD default
   ({ s with ao:=bC id s.ao,s1:={ s.s1 with af:=s.s1.af.eraseIdx k,al:=s.s1.al++[u.card] } },[⟨13,1,u.card,id,0,0,[]⟩])
  |none=>(s,[])
def Yl:List Int→St→St×List Ev
 |[],s=>(s,[])
 |id::l,s=>((Yl l (Qm s id).1).1,(Qm s id).2++(Yl l (Qm s id).1).2)
def du(τ τ':List ab)(ex:List Nat):Prop:=τ.length<=τ'.length∧∀c,c<τ.length→c∉ex→aj τ' c=aj τ c
theorem du.app(τ l:List ab):du τ (τ++l) []:=⟨by simp,λc hc _=>Yf l hc⟩
theorem du.set(τ:List ab)(b:Nat)(x:ab):du τ (τ.set b x) [b]:=⟨by simp,λc hc h=>Xc x hc (by simpa using h)⟩
theorem du.trans{a b c:List ab}{e f:List Nat}(h:du a b e)(k:du b c f):du a c (e++f):=
 ⟨zAY h.1 k.1,λx hx hn=>by
  rw[zAI,not_or]at hn;rw[k.2 x (zAJ hx h.1) hn.2,h.2 x hx hn.1]⟩
theorem du.get{a b:List ab}{e:List Nat}(h:du a b e){c:Nat}{x:ab}(hx:aj a c=x)(hd:x≠.dead:=by simp)(hn:c∉e:=by simp):aj b c=x:=by
 rw[h.2 c (Yb hx hd) hn];exact hx
def Bu(b:Bk)(s x:St):List (Nat×ab):=[(0,.box (cy b)),(1,.box (aI s)),(2,.box aZ),(4,.rows 1 (x.s0.az.map aR)),(5,.rows 1 (x.s0.hand.map aR)),(8,.rows 1 (x.s0.told.map aR)),(9,.rows 1 (x.s1.az.map aR)),(10,.rows 1 (x.s1.hand.map aR)),(13,.rows 1 (x.s1.told.map aR))]
theorem ZdZ{b:Bk}{s x:St}{p:Nat×ab}(h:p∈Bu b s x):p.2≠.dead∧(∀rs,p.2≠.rows 7 rs)∧p.1<14∧p.1∉[3,6,7,11,12]:=by
 simp only[Bu,zAR,List.not_mem_nil,or_false]at h;rcases h with rfl|rfl|rfl|rfl|rfl|rfl|rfl|rfl|rfl<;>simp
structure vw (b:Bk) (s x:St) (g0 g1:Nat) (τ:List ab):Prop where
 fx:∀p∈Bu b s x,aj τ p.1=p.2
 mv:aj τ 14=.box (.ak 0 0::R2 x g0 g1)
 at_:∃r,aj τ 3=.rows 1 ((x.ao++r).map aR)
 JI:aj τ g0=.rows 1 (x.s0.al.map aR)
 r7:∃r,aj τ 7=.rows 4 ((x.s0.af++r).map bg)
 JJ:aj τ g1=.rows 1 (x.s1.al.map aR)
 r12:∃r,aj τ 12=.rows 4 ((x.s1.af++r).map bg)
 n0:g0=6∨15<=g0
 n1:g1=11∨15<=g1
 ne:g0≠g1
def GR{α:Type}(n:Nat)(f:α→List aa)(B:Nat)(l:List α)(v:aa)(σ:List ab):Prop:=(l=[]∧v=.an)∨∃c,v=.sl c 0 l.length false∧B<=c∧aj σ c=.rows n (l.map f)
theorem GR.bT{α:Type}{n:Nat}{f:α→List aa}{B:Nat}{l:List α}{v:aa}{σ τ:List ab}(h:GR n f B l v σ)(hk:∀c rs,aj σ c=.rows n rs→aj τ c=.rows n rs):GR n f B l v τ:=by
 rcases h with h|⟨c,h1,h2,h3⟩
 ·exact .inl h
 ·exact .inr ⟨c,h1,h2,hk _ _ h3⟩
theorem Zd2{σ:List ab}{rd:List Nat}{b:Nat}{ex:Bool}{l rest:List Th}{n:Nat}(hb:aj σ b=.rows 4 ((l++rest).map bg))(di:b∈rd)(hn:n=l.length):RT σ rd (.sl b 0 n ex) l:=by
 subst hn;refine aB.own hb di (by simp) ?_ ZeB;simp[cut]
theorem du.refl(τ:List ab):du τ τ []:=⟨IT _,λ_ _ _=>rfl⟩
theorem vw.sb{b:Bk}{s x:St}{g0 g1:Nat}{τ τ':List ab}{ex:List Nat}(h:vw b s x g0 g1 τ)(A:du τ τ' ex){rd:List Nat}(hr:∀c∈[3,4,5,g0,7,8,9,10,g1,12,13],c∉ex∧c∈rd):SB τ' rd (R2 x g0 g1) x:=by
 obtain⟨r,ha⟩:=h.at_;obtain⟨r7,h7⟩:=h.r7;obtain⟨r12,h12⟩:=h.r12;have f:=h.fx;simp only[Bu,zCi]at f;obtain⟨-,-,-,f4,f5,f8,f9,f10,f13,-⟩:=f;simp only[zCi]at hr;obtain⟨q3,q4,q5,q6,q7,q8,q9,q10,q11,q12,q13,-⟩:=hr;have G:∀ {c n rs},aj τ c=.rows n rs→c∉ex→aj τ' c=.rows n rs:=λe q=>A.get e (by simp) q;exact SB.mk (s:=x) (WT (G ha q3.1) q3.2 rfl) (RI.own (G f4 q4.1) q4.2 rfl) (RI.own (G f5 q5.1) q5.2 rfl) (RI.own (G h.JI q6.1) q6.2 rfl) (Zd2 (G h7 q7.1) q7.2 rfl) (RI.own (G f8 q8.1) q8.2 rfl) (RI.own (G f9 q9.1) q9.2 rfl) (RI.own (G f10 q10.1) q10.2 rfl) (RI.own (G h.JJ q11.1) q11.2 rfl) (Zd2 (G h12 q12.1) q12.2 rfl) (RI.own (G f13 q13.1) q13.2 rfl)
theorem Ych(s:St)(id:Int):(aL s id).2.2=false∨∃side,∃k:Nat,aL s id=(side,(k:Int),true):=by
 unfold aL;split
 ·exact .inr ⟨_,_,rfl⟩
 ·split
  ·exact .inr ⟨_,_,rfl⟩
  ·exact .inl rfl
theorem Zby{s:St}{id side:Int}{k:Nat}(h:aL s id=(side,(k:Int),true)):(side=0∨side=1)∧∃u,(s.side side).af[k]?=some u∧u.id=id ∧
  Qm s id=({ (s.put side { s.side side with af:=(s.side side).af.eraseIdx k,al:=(s.side side).al++[u.card] })with ao:=bC id s.ao },[⟨13,side,u.card,id,0,0,[]⟩]):=by
 unfold aL at h;cases q0:gB s.s0.af id with
 |some j=>
  rw[q0]at h;simp only[zBm]at h;obtain⟨rfl,hj,_⟩:=h;have hj:j=k:=by omega
  subst hj;obtain⟨u,e1,e2⟩:=YR q0;refine⟨.inl rfl,u,e1,e2,?_⟩;unfold Qm;rw[q0];simp only[e1,zAo];rfl
 |none=>
  rw[q0]at h;cases q1:gB s.s1.af id with
  |some j=>
   rw[q1]at h;simp only[zBm]at h;obtain⟨rfl,hj,_⟩:=h;have hj:j=k:=by omega
   subst hj;obtain⟨u,e1,e2⟩:=YR q1;refine⟨.inr rfl,u,e1,e2,?_⟩;unfold Qm;rw[q0,q1];simp only[e1,zAo];rfl
  |none=>rw[q1]at h;simp at h
theorem Xby{s:St}{id:Int}(h:(aL s id).2.2=false):Qm s id=(s,[]):=by
 unfold aL at h;unfold Qm;cases q0:gB s.s0.af id with
 |some j=>rw[q0]at h;simp at h
 |none=>
  rw[q0]at h;cases q1:gB s.s1.af id with
  |some j=>rw[q1]at h;simp at h
  |none=>rfl
theorem lO.ug{M:Nat}{x:Sd}(h:lO M x):lO (M+1) x:=⟨zAm h.az,zAm h.hand,zAm h.al,zAm h.af,zAm h.told⟩
theorem Yby{M:Nat}{s:St}(h:bd M s)(id:Int):bd (M+1) (Qm s id).1:=by
 have w:=Wy id s.ao;have w0:=λk=>zDZ s.s0.af k;have w1:=λk=>zDZ s.s1.af k;have ha:=h.ao;unfold Qm;split
 ·rename_i k _;exact⟨by show (bC id s.ao).length<=_;omega,⟨zAm h.s0.az,zAm h.s0.hand,by simpa using h.s0.al,zAm (zAY (w0 k) h.s0.af),zAm h.s0.told⟩,h.s1.ug⟩
 ·split
  ·rename_i k _;exact⟨by show (bC id s.ao).length<=_;omega,h.s0.ug,⟨zAm h.s1.az,zAm h.s1.hand,by simpa using h.s1.al,zAm (zAY (w1 k) h.s1.af),zAm h.s1.told⟩⟩
  ·exact⟨zAm ha,h.s0.ug,h.s1.ug⟩
theorem Cq{α:Type}{n by_:Nat}{f:α→List aa}{B:Nat}{σ:List ab}{l:List α}{v:aa}(h:GR n f B l v σ)(hB:B<=σ.length)(x:α){z:List aa}{ps:List (Nat×Nat)}{w:aa}(hb:Yp n 1 z ps [w] σ=.ok (.sl σ.length 0 1 true) [] [(σ.length,.rows n [f x])])(hc:aW [f x]=true)(hlen:(2*(l.length+1)+192)*by_<=2 ^ 48){K:KT}
 (hK:∀nv τ,GR n f B (l++[x]) nv τ→(∀c,c<B→aj τ c=aj σ c)→σ.length<=τ.length→(∀c,c<σ.length→(∀rs,aj σ c≠.rows n rs)→aj τ c=aj σ c)→K nv τ) :
  VV.wr (Yp n 1 z ps [w] σ) σ λy σ=>VV.wr (Qf n by_ [v,y] σ) σ K:=by
 refine Yd hb (Xe σ _) ?_;rcases h with ⟨rfl,rfl⟩|⟨c,rfl,h2,h3⟩
 ·refine Yd (Xb2 n by_ (Yc σ _) rfl hc (by simpa using hlen)) (Xe _ _) ?_;exact hK _ _ (.inr ⟨_,rfl,by simp<;>omega,Yc _ _⟩) (λc hc=>by rw[Yf _ (by simp<;>omega),Yf _ (by omega)]) (by simp<;>omega) (λc hc _=>by rw[Yf _ (by simp<;>omega),Yf _ hc])
 ·have kH:=Yb h3;have uH:=Qb [ab.rows n [f x]] h3;refine Yd (HL n by_ (rs2:=[f x]) uH (Yc σ _) (by simp) rfl hc hlen) (XI _ _ (by simp<;>omega)) ?_;refine hK _ _ (.inr ⟨(σ++[ab.rows n [f x]]).length,by simp,by simp<;>omega,?_⟩) (λk hk=>by rw[Yf _ (by simp<;>omega),Xc _ (by simp<;>omega) (by omega),Yf _ (by omega)]) (by simp<;>omega) (λk hk hr=>by rw[Yf _ (by simp<;>omega),Xc _ (by simp<;>omega) (by rintro rfl;exact hr _ h3),Yf _ hk]);have:=AO (σ:=σ++[ab.rows n [f x]]) c (.rows n (l.map f++[f x]));simpa using this
theorem Tj{σ:List ab}{b i:Nat}{l rest:List Th}(hb:aj σ b=.rows 4 ((l++rest).map bg))(hi:i<l.length)(hl:l.length<=1000000000){K:KT}
 (hK:∀τ,du σ τ [b]→aj τ b=.rows 4 ((l.eraseIdx i++Hn::rest).map bg)→K (.sl b 0 (l.length-1) false) τ):g52.u VV [.sl b 0 l.length false,iv i,iv ((i+1:Nat):Int)] σ K:=
 c72 hb hi hl (hK _ (du.set ..) (Zd _ (Yb hb)))
theorem M7{σ:List ab}{rb j n:Nat}{x:aa}{cs row row':List aa}{K:KT}(hb:aj σ rb=.box row)(hc:cellsOf x=some cs)(hn:IN cs.length n=true)(hs:cc j cs row=some row')
 (hK:∀τ,aj τ rb=.box row'→du σ τ [rb]→K .aQ τ):VV.wr (Yj n [.ak rb j,x] σ) σ K:=
 Yd (cX hb hc hn hs) (Ze _ (Yb hb)) (hK _ (Zd _ (Yb hb)) (du.set ..))
theorem Xef{σ:List ab}{b:Nat}{l:List Int}{x:Int}{K:KT}(hb:aj σ b=.rows 1 (l.map aR))(hl:l.length<=1000000000)
 (hK:∀τ,du σ τ [b]→aj τ (σ.length+1)=.rows 1 ((l++[x]).map aR)→K (.sl (σ.length+1) 0 (l++[x]).length false) τ) :
  VV.wr (Yp 1 1 [.int .i64 0] [(0,1)] [iv x] σ) σ λy σ=>VV.wr (Qf 1 8 [.sl b 0 l.length false,y] σ) σ K:=by
 rw[GI _ _ _ _ _ (aR x) rfl rfl,Il _ 1 8 σ b l.length false _ (aR x) hb (by simp) rfl (by omega)];have h:=Yc (σ.set b .dead++[.rows 1 [aR x]]) (.rows 1 (l.map aR++[aR x]));simpa using hK _ (((du.set σ b .dead).trans (du.app _ [_])).trans (du.app _ [_])) (by simpa using h)
theorem c27(b:Bk)(hf:a_ b=true)(bY:Yg b.ai)(s:St)(hs:bd 2000000 s)(hm:aO (bz b).1 b s true=true)(ids:List Int)(pk:ids.length<=1000000):PC 26 [cC b,bZ s,aP ids] (.bp [bZ (Yl ids s).1,.aU false false 7 ((Yl ids s).2.map CO)]):=by
 refine Qi hP g26.ok rfl ?_;rw[H3.e];unfold g26;dsimp only;refine ay (pQ b hf bY s (hs.mono (by decide)) (n0:=3) (n:=14) rfl rfl rfl rfl (λh=>by rw[hm]at h;cases h) (λ_=>?_));refine Za rfl (Ye (Za (v:=iv ids.length) (rd:=[]) (by simp[Zf]) ?_));refine Xg (ι:=Nat) (λi vs τ=>∃(x:St) (g0 g1:Nat) (v:aa) (cM:List Ev),vs=[iv i,v]∧i<=ids.length∧vw b s x g0 g1 τ∧GR 7 CO 0 cM v τ∧bd (2000000+i) x∧cM.length<=i∧Yl ids s=((Yl (ids.drop i) x).1,cM++(Yl (ids.drop i) x).2)) (λi=>ids.length-i) 0
  ⟨s,6,11,.an,[],rfl,by omega,⟨by simp only[Bu,zCi];exact⟨rfl,rfl,rfl,rfl,rfl,rfl,rfl,rfl,rfl,nofun⟩,rfl,⟨[],by rw[zBN];rfl⟩,rfl,⟨[],by rw[zBN];rfl⟩,rfl,⟨[],by rw[zBN];rfl⟩,.inl rfl,.inl rfl,by decide⟩,.inl ⟨rfl,rfl⟩,hs,by simp,rfl⟩ ?_
 rintro i vs τ again ⟨x,g0,g1,v,cM,rfl,hi,hB,fg,hle,hel,ba⟩ bn;refine Za rfl (YS (λh=>?_) (λh=>?_));rotate_left
 ·subst h;rw[zAD,Yl,zBN]at ba;rw[ba];have BG:=hB.mv;refine ag (M7 (hB.fx (2,.box aZ) (by simp[Bu])) rfl rfl rfl λτ' b2 A=>Zs (Sw b2 rfl) ?_);simp only;have hS:∀rd,(∀c∈[3,4,5,g0,7,8,9,10,g1,12,13],c∈rd)→SB τ' rd (R2 x g0 g1) x:=λrd hr=>hB.sb A λc hc=>⟨by have:=hB.n0;have:=hB.n1;simp at hc ⊢;omega,hr c hc⟩;rcases fg with ⟨rfl,rfl⟩|⟨bo,rfl,_,o5⟩
  ·exact⟨_,aB.bp (.cons (SB.agg (hS _ λc hc=>hc)) <| .cons (aB.nl 7) .nil)⟩
  ·have kY:∀l:List Ev,∀r∈l.map CO,ga r=true:=by
    intro l r hr;obtain⟨e,_,rfl⟩:=zAt.1 hr;rfl
   exact⟨bo::[3,4,5,g0,7,8,9,10,g1,12,13],aB.bp (.cons (SB.agg (hS _ λc hc=>zAn _ hc)) <| .cons (aB.own (A.get o5 (by simp) (by rintro hc;simp at hc;subst hc;rw[hB.fx (2,.box aZ) (by simp[Bu])]at o5;cases o5)) (by simp) (by simp) (Oc _ _ (by simp)) (kY _)) .nil)⟩
 rw[gI h,Yl]at ba;have cH:=λ(t:List ab)=>Xm t aR false false 1 ids .i64 i h;generalize ids[i]=id at ba cH;refine Qg λk11 lW=>?_;refine Za (cH _) (Za (bB rfl) (Qu (row:=[iv id]) (row':=[iv id]) rfl rfl rfl ?_));have A1:=du.app τ [.box [iv id]];have hN:=Yc τ (.box [iv id]);have lN:=Yb hB.mv;generalize τ++[ab.box [iv id]]=τ1 at A1 hN ⊢;have O1:∀ {c y},aj τ c=y→y≠.dead→aj τ1 c=y:=λe h=>A1.get e h (by simp);have je:vw b s x g0 g1 τ1:=⟨λp hp=>O1 (hB.fx p hp) (ZdZ hp).1,O1 hB.mv (by simp),hB.at_.imp λ_ e=>O1 e (by simp),O1 hB.JI (by simp),hB.r7.imp λ_ e=>O1 e (by simp),O1 hB.JJ (by simp),hB.r12.imp λ_ e=>O1 e (by simp),hB.n0,hB.n1,hB.ne⟩;have zH:=fg.bT (τ:=τ1) λc rs e=>O1 e (by simp);have lg0:=Yb hB.JI;have lg1:=Yb hB.JJ;have l1:=A1.1;clear hB fg cH O1 A1;generalize τ.length=N at *;have BG:=je.mv;have h71:=c71 x (hle.mono (by omega)) id;refine Zi rfl (Zi rfl (Xf (ld BG rfl) (Zg _) (Xf (ld hN rfl) (Zg _) ?_)));refine Gc (rd:=[3,4,5,g0,7,8,9,10,g1,12,13]) h71 rfl g25.ok.plain (.cons (SB.agg (je.sb (du.refl _) λc hc=>⟨by simp,hc⟩)) <| .cons (aB.ro rfl) .nil) rfl (Zi rfl (Zi rfl (Zi rfl (Zw (by rfl) ?_))));clear h71;have CT:=Yby hle id;rcases Ych x id with lZ|⟨side,k,ta⟩
 ·rw[lZ];refine ag ?_;rw[lW];refine ag ?_;rw[Qc (n:=i) (by omega)];exact bn (i+1) _ _ (by omega) ⟨x,g0,g1,v,cM,rfl,by omega,je,zH,hle.mono (by omega),by omega,by rw[ba,Xby lZ];simp⟩
 obtain⟨pI,u,jT,gP,hBo⟩:=Zby ta;rw[ta];refine ag ?_;have hla:=hle.ao;have hng:=And.intro je.n0 je.n1;have cO:=je.ne;rcases pI with rfl|rfl
 rotate_left;obtain⟨r,hU⟩:=je.r12;have hG:=je.JJ;have jT:x.s1.af[k]?=some u:=jT;have OQ:=hle.s1.af;have Uo:=hle.s1.al;rotate_left;obtain⟨r,hU⟩:=je.r7;have hG:=je.JI;have jT:x.s0.af[k]?=some u:=jT;have OQ:=hle.s0.af;have Uo:=hle.s0.al
 all_goals
  have mw:=(gK jT).1;refine ag (Za (sE _ _ 0 _ false 4 _ .i64 k mw hU) ?_);refine ag (Za (z7 (i:=0+k) hU (row:=bg u) (by rw[No,zAX,zAV mw,jT];rfl) rfl) ?_);refine ag ?_;rw[Qc (n:=k) (by omega)];refine Qd hP rfl g52.ok rfl (Tj hU mw (by omega) λτ2 A2 mU=>?_);refine ag (M7 (A2.get BG) rfl rfl rfl λτ3 b3 A3=>?_);have A13:=A2.trans A3;refine ag (Xef (A13.get hG (by simp) (by simp;omega)) (by omega) λτ4 A4 mG=>?_);have l3:=A13.1;refine ag (M7 (A4.get b3 (by simp) (by simp;omega)) rfl rfl rfl λτ5 b5 A5=>?_);have A15:=(A13.trans A4).trans A5;obtain⟨ra,qz⟩:=je.at_;have hN5:=A15.get hN (by simp) (by simp;omega);refine ag (Qd hP rfl g53.ok rfl (c73 (A15.get qz (by simp) (by simp;omega)) hN5 (by omega) λτ6 aan l6 o6 m3=>?_));have A6:du τ5 τ6 [3]:=⟨by omega,λc _ hc=>o6 c (by simpa using hc)⟩;refine ag (M7 (A6.get b5) rfl rfl rfl λτ7 b7 A7=>?_);have A67:=A6.trans A7;have A17:=A15.trans A67;have hN7:=A67.get hN5 (by simp) (by simp;omega);have C_:=zH.bT (τ:=τ7) λc rs e=>A17.get e (by simp) (by simp;grind);refine ag ?_;refine(Cq (by_:=72) C_ (Nat.zero_le _) (⟨13,_,u.card,id,0,0,[]⟩:Ev) rfl rfl (by omega) λnv τ8 g9998 _ q2 q3=>?_);rw[lW];refine ag ?_;rw[Qc (n:=i) (by omega)];have K8:∀ {c y},aj τ7 c=y→y≠.dead→(∀rs,y≠.rows 7 rs)→aj τ8 c=y:=λe h1 h2=>by rw[q3 _ (Yb e h1) (by rw[e];exact h2)];exact e
  have O:∀ {c n rs},aj τ1 c=.rows n rs→n≠7→c∉_→aj τ8 c=.rows n rs:=λe h1 h2=>K8 (A17.get e (by simp) h2) (by simp) (by simp[h1]);have F:∀p∈Bu b s x,aj τ8 p.1=p.2:=λp hp=>by
   obtain⟨h1,h2,h3,h4⟩:=ZdZ hp;exact K8 (A17.get (je.fx p hp) h1 (by simp at h4 ⊢;omega)) h1 h2
  have b8:=K8 b7 (by simp) (by simp);have m8:=K8 (A7.get m3) (by simp) (by simp);have U8:=K8 ((((A3.trans A4).trans A5).trans A67).get mU (by simp) (by simp;omega)) (by simp) (by simp);have G8:=K8 ((A5.trans A67).get mG (by simp) (by simp;omega)) (by simp) (by simp);have hE:=zCH mw;have BM:∃OC OD,vw b s (Qm x id).1 OC OD τ8:=by
   rw[hBo]
   first
    |exact⟨_,g1,F,by rw[b8,←hE];rfl,⟨_,m8⟩,G8,⟨_,U8⟩,O je.JJ (by simp) (by simp;omega),je.r12.imp λr e=>O e (by simp) (by simp;omega),.inr (by omega),je.n1,by omega⟩
    |exact⟨g0,_,F,by rw[b8,←hE];rfl,⟨_,m8⟩,O je.JI (by simp) (by simp;omega),je.r7.imp λr e=>O e (by simp) (by simp;omega),G8,⟨_,U8⟩,je.n0,.inr (by omega),by omega⟩
  obtain⟨OC,OD,BM⟩:=BM;exact bn (i+1) _ _ (by omega) ⟨_,OC,OD,nv,_,rfl,by omega,BM,g9998,CT,by simp;omega,by rw[ba,congrArg Prod.snd hBo];simp⟩
theorem Xj{n:Nat}{l:List Int}{most:Int}:Qo n l most=true↔(l.length:Int)<=most∧∀c∈l,0<=c∧c<n:=by
 simp[Qo,zAj]
structure ij (b:Bk) (x:Sd):Prop where
 aV:iF x.aV=true
 aT:0<=x.aT∧iF x.aT=true
 most:0<=x.most∧x.most<=10
 az:Qo b.ai.length x.az 60=true
 hand:Qo b.ai.length x.hand 10=true
 al:Qo b.ai.length x.al 1000000=true
 told:Qo b.ai.length x.told 1000000=true
 af:x.af.length<=7
theorem Xdv{b:Bk}{x:Sd}:Zx b.ai.length x=true↔ij b x:=by
 simp only[Zx,AI,fE];constructor
 ·rintro⟨h1,h2,h3,h4,h5,h6,h7,h8,h9,h10⟩;exact⟨h1,⟨h2,h3⟩,⟨h4,h5⟩,h6,h7,h8,h9,by omega⟩
 ·rintro⟨h1,⟨h2,h3⟩,⟨h4,h5⟩,h6,h7,h8,h9,h10⟩;exact⟨h1,h2,h3,h4,h5,h6,h7,h8,h9,by omega⟩
theorem Sf{b:Bk}{next:Int}:∀ {l:List Th} {ids:List Int},XA b next ids l=true↔(∀u∈l,Qz b next u=true)∧(l.map Th.id).Nodup∧∀u∈l,u.id∉ids
 |[],ids=>by simp[XA]
 |u::l,ids=>by
  simp only[XA,AI,Sf (l:=l),zAf,zAN,zBs,zAR,forall_eq_or_imp,zAI,not_or];have hc:ids.contains u.id=false↔u.id∉ids:=by simp
  rw[hc];constructor
  ·rintro⟨h1,h2,h3,h4,h5⟩;refine⟨⟨h1,h3⟩,⟨?_,h4⟩,h2,λv hv=>(h5 v hv).1⟩;intro hm;obtain⟨v,hv,e⟩:=zAt.1 hm;exact(h5 v hv).2.1 e
  ·rintro⟨⟨h1,h3⟩,⟨h6,h4⟩,h2,h5⟩;exact⟨h1,h2,h3,h4,λv hv=>⟨h5 v hv,λe=>h6 (zAt.2 ⟨v,hv,e⟩),by simp⟩⟩
def Nd(b:Bk)(s:St):Prop:=(∀u∈s.s0.af++s.s1.af,Qz b s.next u=true)∧((s.s0.af++s.s1.af).map Th.id).Nodup
theorem XdB{b:Bk}{s:St}:(XA b s.next [] s.s0.af=true∧XA b s.next (s.s0.af.map Th.id) s.s1.af=true)↔Nd b s:=by
 rw[Sf,Sf,Nd,zAe,List.nodup_append];constructor
 ·rintro⟨⟨h1,h2,_⟩,h3,h4,h5⟩;refine⟨λu hu=>?_,h2,h4,λa ha c hc e=>?_⟩
  ·rcases zAI.1 hu with hu|hu
   ·exact h1 u hu
   ·exact h3 u hu
  ·subst e;obtain⟨v,hv,rfl⟩:=zAt.1 hc;exact h5 v hv ha
 ·rintro⟨h1,h2,h3,h4⟩;refine⟨⟨λu hu=>h1 u (zAl _ hu),h2,by simp⟩,λu hu=>h1 u (zAg _ hu),h3,λu hu hm=>h4 _ hm _ (zAt.2 ⟨u,hu,rfl⟩) rfl⟩
theorem Rb{s:St}:∀ {l prev:List Int},fm s prev l=true↔(∀a∈l,(aL s a).2.2=true∧(aL s a).1=s.mover)∧l.Nodup∧∀a∈l,a∉prev
 |[],prev=>by simp[fm]
 |a::l,prev=>by
  simp only[fm,AI,Rb (l:=l),fE,zAf,zBs,zAR,forall_eq_or_imp,zAI,not_or];have hc:prev.contains a=false↔a∉prev:=by simp
  rw[hc];constructor
  ·rintro⟨h1,h2,h3,h4,h5⟩;exact⟨⟨h1,h3⟩,⟨λhm=>(h5 a hm).2.1 rfl,h4⟩,h2,λc hc=>(h5 c hc).1⟩
  ·rintro⟨⟨h1,h3⟩,⟨h6,h4⟩,h2,h5⟩;exact⟨h1,h2,h3,h4,λc hc=>⟨h5 c hc,λe=>h6 (e▸hc),by simp⟩⟩
def Pe(s:St):Prop:=(s.phase≠1→s.ao=[])∧(s.phase=1→s.bV=true∧s.ao.length<=7∧s.ao.Nodup∧∀a∈s.ao,(aL s a).2.2=true∧(aL s a).1=s.mover)
def HdP(s:St):Prop:=1<=s.turn∧s.turn<=4096∧0<=s.mover∧s.mover<=1∧0<=s.phase∧s.phase<=2∧0<=s.result∧s.result<=3∧((s.result==0)==(s.phase != 2))=true∧1<=s.next∧s.next<=1000000
structure dz (b:Bk) (s:St):Prop where
 hd:HdP s
 s0:ij b s.s0
 s1:ij b s.s1
 un:Nd b s
 at_:Pe s
theorem Xo{e:Int}{b:Bk}{s:St}:aO e b s true=true↔e=0∧dz b s:=by
 simp only[aO,YC,AI,fE,Xdv];constructor
 ·rintro⟨h1,h2,h3,h4,h5,h6,h7,h8,h9,h10,h11,h12,⟨k1,k2,k3,k4⟩,h14⟩;refine⟨h1,⟨h2,h3,h4,h5,h6,h7,h8,h9,h10,h11,h12⟩,k1,k3,XdB.1 ⟨k2,k4⟩,?_,?_⟩
  ·intro hp;rw[aJ hp]at h14;exact zAW.1 (of_decide_eq_true h14)
  ·intro hp;rw[aE (by simpa using hp)]at h14;simp only[AI,fE]at h14;obtain⟨_,q1,q2,q3⟩:=h14;obtain⟨r1,r2,_⟩:=Rb.1 q3;exact⟨q1,by omega,r2,r1⟩
 ·rintro⟨h1,⟨h2,h3,h4,h5,h6,h7,h8,h9,h10,h11,h12⟩,k1,k3,hu,ha1,ha2⟩;obtain⟨k2,k4⟩:=XdB.2 hu;refine⟨h1,h2,h3,h4,h5,h6,h7,h8,h9,h10,h11,h12,⟨k1,k2,k3,k4⟩,?_⟩;by_cases hp:s.phase≠1
  ·rw[aJ hp,ha1 hp];rfl
  ·rw[aE hp];obtain⟨q1,q2,q3,q4⟩:=ha2 (by simpa using hp);simp only[AI,fE];exact⟨by simp,q1,by omega,Rb.2 ⟨q4,q3,by simp⟩⟩
theorem w19{s:St}(hs:bd 1000000000 s){σ:List ab}{K:KT}(hK:K (.agg (po s σ.length)) (σ++mq s)):VV.call (.call 31) [bZ s] σ K:=by
 refine Iu (c19 s hs) rfl g31.ok.plain rfl ?_;rw[Ydw,Zdw];exact hK
theorem Tc(a:St)(ha:bd 1000000000 a):PC 15 [bZ a,bZ a] (.bool true):=by
 have:=c20 a a ha
 rwa [fk rfl]at this
theorem c55(b:Bk)(hf:a_ b=true)(bY:Yg b.ai)(s:St)(hs:bd 1000000000 s):PC 43 [cC b,bZ s] (iv (bif aO (bz b).1 b s false then 0 else 170)):=by
 refine Xa hP g43.ok rfl rfl ?_;rw[H2.e];unfold g43;dsimp only;refine ay ?_;refine Zu (rd:=[0,1]) (c111 b hf bY s hs false) rfl g76.ok.plain (.cons (aB.box (row:=cy b) rfl (by simp) (bu.ro rfl)) <| .cons (aB.box (row:=aI s) rfl (by simp) (bu.ro rfl)) <| .cons (aB.ro rfl) .nil) rfl ?_;generalize aO (bz b).1 b s false=q;cases q with
 |true=>exact Za rfl (Ye rfl)
 |false=>exact Za rfl (Yh rfl)
theorem XcX(s:St)(id:Int):(∃k:Nat,∃u,aL s id=(0,(k:Int),true)∧s.s0.af[k]?=some u)∨(∃k:Nat,∃u,aL s id=(1,(k:Int),true)∧s.s1.af[k]?=some u)∨aL s id=(0,0,false):=by
 unfold aL;cases q0:gB s.s0.af id with
 |some k=>obtain⟨u,hk,_⟩:=YR q0;exact .inl ⟨k,u,rfl,hk⟩
 |none=>
  cases q1:gB s.s1.af id with
  |some k=>obtain⟨u,hk,_⟩:=YR q1;exact .inr (.inl ⟨k,u,rfl,hk⟩)
  |none=>exact .inr (.inr rfl)
end Go.Ah.Tz
end
section
namespace Go.Ah
open Go.Sort (Holds putRow grow putCells)
theorem ZdI{row:List aa}(h:row.all aa.cell=true):cellsOf (.agg row)=some row:=by simp[cellsOf,h]
theorem XdX{row:List aa}(h:row.all aa.cell=true)(σ:List ab):tL [.agg row] σ=.ok (.ak σ.length 0) [] [(σ.length,.box row)]:=by rw[Jw,ZdI h]
theorem Zep(n:Nat)(σ:List ab)(x:aa)(z cs:List aa)(hx:fill z [(0,n)] [x]=some cs)(hc:chunk n 1 cs=some [cs]):Yp n 1 z [(0,n)] [x] σ=.ok (.sl σ.length 0 1 true) [] [(σ.length,.rows n [cs])]:=by simp only[Yp,hx,hc]
theorem aB.more{h0:Hp}{rd lf:List Nat}{x y:aa}(h:aB h0 rd x y)(hs:∀b∈rd,b∈lf):aB h0 lf x y:=
 λGL w0 L g h' w M2 r hM dc v d=>h GL w0 L g h' w M2 r hM (λb hb=>dc b (hs b hb)) v d
end Go.Ah
end
section
namespace Go.Ah.Tz
open Go.Proofs.Tryz (prog)
attribute [local irreducible] aF.rd aF.pu aF.wr aF.dr aF.gr aF.gw aF.gl aF.gd aF.opt cI W
set_option maxHeartbeats 8000000
def xr(a b:Ev):Bool:=((((decide (a.kind=b.kind)&&decide (a.side=b.side))&&decide (a.card=b.card))&&decide (a.id=b.id))&&decide (a.other=b.other))&&decide (a.n=b.n)
theorem c99(a b:Ev){x y:aa}(hx:x.cell=true)(hy:y.cell=true)(hr:x.ro=true)(Hb:y.ro=true){q:Bool}(h62:∀(σ:List ab) (k:KT),k (.bool q) σ→VV.call (.call 38) [x,y] σ k) :
  PC 16 [.agg [aN a.kind,iv a.side,iv a.card,iv a.id,iv a.other,iv a.n,x],.agg [aN b.kind,iv b.side,iv b.card,iv b.id,iv b.other,iv b.n,y]] (.bool (xr a b&&q)):=by
 refine Xa hP g16.ok rfl rfl ?_;rw[H2.e];unfold g16;dsimp only;have h0:aj ([]++[ab.box [aN a.kind,iv a.side,iv a.card,iv a.id,iv a.other,iv a.n,x]]++[ab.box [aN b.kind,iv b.side,iv b.card,iv b.id,iv b.other,iv b.n,y]]) 0=.box [aN a.kind,iv a.side,iv a.card,iv a.id,iv a.other,iv a.n,x]:=rfl;have h1:aj ([]++[ab.box [aN a.kind,iv a.side,iv a.card,iv a.id,iv a.other,iv a.n,x]]++[ab.box [aN b.kind,iv b.side,iv b.card,iv b.id,iv b.other,iv b.n,y]]) 1=.box [aN b.kind,iv b.side,iv b.card,iv b.id,iv b.other,iv b.n,y]:=rfl;have kH:∀(e:Ev) {z:aa},z.cell=true→[aN e.kind,iv e.side,iv e.card,iv e.id,iv e.other,iv e.n,z].all aa.cell=true:=λe z hz=>by
  show (true&&(true&&(true&&(true&&(true&&(true&&(z.cell&&true)))))))=true;rw[hz];rfl
 exact Yd (XdX (kH a hx) []) (Xe _ _) (Yd (XdX (kH b hy) _) (Xe _ _) (ae (IP (λ_=>rfl) (λ_=>rfl) (λ_=>rfl) (λ_=>rfl) (λ_=>Ys ..) (IP (λ_=>rfl) (λ_=>rfl) (λ_=>rfl) (λ_=>rfl) (λ_=>Ys ..) (IP (λ_=>rfl) (λ_=>rfl) (λ_=>rfl) (λ_=>rfl) (λ_=>Ys ..) (IP (λ_=>rfl) (λ_=>rfl) (λ_=>rfl) (λ_=>rfl) (λ_=>Ys ..) (IP (λ_=>rfl) (λ_=>rfl) (λ_=>rfl) (λ_=>rfl) (λ_=>Ys ..) (Xdw (v2:=x) (v4:=y) (λ_=>rfl) (λ_=>rfl) (λ_=>rfl) (λ_=>rfl) (λ_ k hk=>h62 _ _ hk) rfl))))))))
theorem QcT(a:Ev):xr a a=true:=by simp[xr]
theorem c47{rows:List (List aa)}(hl:rows.length<=1000000000)(h:∀r∈rows,r.length=7∧ga r=true∧PC 16 [.agg r,.agg r] (.bool true)):PC 35 [.aU false false 7 rows,.aU false false 7 rows] (.bool true):=by
 refine Xa hP g35.ok rfl rfl ?_;rw[H2.e];unfold g35;dsimp only;refine Za (Zf ..) (Za (Zf ..) (Za (Z6 ..) ?_));rw[gm (show ¬((rows.length:Int)≠rows.length) by simp)];refine Ye (Xg (ι:=Nat) (λi vs _=>vs=[iv i]∧i<=rows.length) (λi=>rows.length-i) 0 ⟨rfl,by omega⟩ ?_);rintro i vs σ again ⟨rfl,hi⟩ bn;refine Za (Zf ..) (Za (ZS ..) (Ya (λb_=>?_) (λ_=>rfl)));have b_:i<rows.length:=by simpa using b_
 obtain⟨q1,q2,q3⟩:=h rows[i] (AT b_);have cH:=Zeq σ false false 7 rows .i64 i rows[i] (by simp[b_]);generalize rows[i]=r at cH q1 q2 q3;have hp:aK true 0 7 r=some (.agg r):=by
  match r,q1 with
  |[a,b,c,d,e,f,g],_=>rfl
 refine Xf cH (Zg _) (Xf (bB hp) (Zg _) (Xf cH (Zg _) (Xf (bB hp) (Zg _) ?_)));refine Yt q3 rfl g16.ok.plain (by simp[ga,aa.ro,q2]) (Zi rfl (Zw (Rx (by simp[qO])) ?_));refine ay ?_;rw[Qc (n:=i) (by omega)];exact bn (i+1) _ _ (by omega) ⟨rfl,by omega⟩
def Xx(s:St)(side:Int):Sd:=if side=0 then s.s0 else s.s1
theorem ZdC{s:St}{id:Int}(h:(aL s id).2.2=true):∃(k:Nat) (u:Th),(aL s id).2.1=k∧(Xx s (aL s id).1).af[k]?=some u∧u.id=id∧((aL s id).1=0∨(aL s id).1=1):=by
 unfold aL at h ⊢;cases q0:gB s.s0.af id with
 |some k=>obtain⟨u,hk,hi⟩:=YR q0;exact⟨k,u,rfl,hk,hi,.inl rfl⟩
 |none=>
  cases q1:gB s.s1.af id with
  |some k=>obtain⟨u,hk,hi⟩:=YR q1;exact⟨k,u,rfl,hk,hi,.inr rfl⟩
  |none=>rw[q0,q1]at h;cases h
structure CP (τ:List ab) (n:Nat) (t:St):Prop where
 box:aj τ (n+11)=.box (po t n)
 key:∀i x,(mq t)[i]?=some x→aj τ (n+i)=x
theorem CP.af{τ:List ab}{n:Nat}{t:St}(h:CP τ n t){side:Int}(hs:side=0∨side=1):aj τ (n+AB side)=.rows 4 ((Xx t side).af.map bg)∧(∀σ,Yk 2 8 [.ak (n+11) (0+7),iv side] σ=.ok (.ak (n+11) (yG side)) [] []) ∧
  aK false (yG side+6) 1 (po t n)=some (.sl (n+AB side) 0 (Xx t side).af.length false):=by
 rcases hs with rfl|rfl
 ·exact⟨h.key 4 _ rfl,λ_=>rfl,rfl⟩
 ·exact⟨h.key 9 _ rfl,λ_=>rfl,rfl⟩
theorem Gr.set{σ τ:List ab}{n k:Nat}{rows:List (List aa)}{v:aa}(h:Gr σ n rows k v τ){c:Nat}(hc:c<σ.length)(x:ab):Gr (σ.set c x) n rows k v (τ.set c x):=by
 obtain⟨h1,h2,h3⟩:=h;refine⟨by simpa using h1,λd hd=>?_,?_⟩
 ·have pj:d<σ.length:=by simpa using hd
  by_cases e:d=c
  ·grind [Zd]
  ·rw[Xc _ (by omega) e,Xc _ pj e];exact h2 d pj
 ·rcases h3 with h3|⟨q1,b,q2,q3,q4,q5⟩
  ·exact .inl h3
  ·exact .inr ⟨q1,b,by simpa using q2,q3,Zb q4 (by simp) (by omega),q5⟩
def mj(b:Bk)(s:St)(id:Int):Int×Int:=if (aL s id).2.2 then jL b (Xx s (aL s id).1).af (aL s id).2.1 else (0,0)
def nE(b:Bk)(s:St)(id:Int):aa:=.bp [iv (mj b s id).1,iv (mj b s id).2,.bool (aL s id).2.2]
theorem c54(b:Bk)(hf:a_ b=true)(bY:Yg b.ai)(s:St)(hs:bd 1000000000 s)(hm:aO (bz b).1 b s true=true)(id:Int):PC 273 [cC b,bZ s,iv id] (nE b s id):=by
 refine Xa hP g273.ok rfl rfl ?_;rw[H3.e];unfold g273;dsimp only;refine Yd (v:=.ak 0 0) (rd:=[]) (up:=[(0,.box (cy b))]) rfl rfl (Yd (v:=.ak 1 0) (rd:=[]) (up:=[(1,.box (aI s))]) rfl rfl (pQ b hf bY s hs (n0:=2) (n:=13) rfl rfl rfl rfl (λh=>by rw[hm]at h;cases h) (λ_=>?_)));refine Za rfl (Ye (Za (ld (row:=aI s) rfl rfl) (aY (c71 s hs id) g25.ok (Za rfl (Za rfl (Za rfl (Za rfl ?_)))))));rcases XcX s id with ⟨k,u,hu,hk⟩|⟨k,u,hu,hk⟩|hu
 ·have e:nE b s id=.bp [iv (jL b s.s0.af k).1,iv (jL b s.s0.af k).2,.bool true]:=by simp[nE,mj,hu,Xx]
  rw[e,hu];refine Ye (Zu (rd:=[0,2,3,4,5,6,7,8,9,10,11,12,13]) (c75 b s (.inl rfl) hs.s0.af (IB hm) k) rfl g49.ok.plain (.cons (aB.box (row:=BS s) rfl (by decide) (.cons (aB.box (row:=cy b) rfl (by decide) (bu.ro rfl)) ?_)) <| .cons (aB.ro rfl) <| .cons (aB.ro rfl) .nil) rfl ?_)
  ·exact SB.mk (s:=s) (RI.own rfl (by decide) rfl) (RI.own rfl (by decide) rfl) (RI.own rfl (by decide) rfl) (RI.own rfl (by decide) rfl) (RT.own rfl (by decide) rfl) (RI.own rfl (by decide) rfl) (RI.own rfl (by decide) rfl) (RI.own rfl (by decide) rfl) (RI.own rfl (by decide) rfl) (RT.own rfl (by decide) rfl) (RI.own rfl (by decide) rfl)
  exact Za rfl (Za rfl rfl)
 ·have e:nE b s id=.bp [iv (jL b s.s1.af k).1,iv (jL b s.s1.af k).2,.bool true]:=by simp[nE,mj,hu,Xx]
  rw[e,hu];refine Ye (Zu (rd:=[0,2,3,4,5,6,7,8,9,10,11,12,13]) (c75 b s (.inr rfl) hs.s1.af (Ih hm) k) rfl g49.ok.plain (.cons (aB.box (row:=BS s) rfl (by decide) (.cons (aB.box (row:=cy b) rfl (by decide) (bu.ro rfl)) ?_)) <| .cons (aB.ro rfl) <| .cons (aB.ro rfl) .nil) rfl ?_)
  ·exact SB.mk (s:=s) (RI.own rfl (by decide) rfl) (RI.own rfl (by decide) rfl) (RI.own rfl (by decide) rfl) (RI.own rfl (by decide) rfl) (RT.own rfl (by decide) rfl) (RI.own rfl (by decide) rfl) (RI.own rfl (by decide) rfl) (RI.own rfl (by decide) rfl) (RI.own rfl (by decide) rfl) (RT.own rfl (by decide) rfl) (RI.own rfl (by decide) rfl)
  exact Za rfl (Za rfl rfl)
 ·have e:nE b s id=.bp [iv 0,iv 0,.bool false]:=by simp[nE,mj,hu]
  rw[e,hu];exact Yh rfl
def Zm(s:St):Int:=((s.s0.az.length:Int)+s.s0.hand.length+s.s0.al.length+s.s0.af.length)+(s.s1.az.length+s.s1.hand.length+s.s1.al.length+s.s1.af.length)
theorem ZR{n:Nat}{c:Int}{l:List Int}{most:Int}(h:Qo n (c::l) most=true):Qo n l most=true∧0<=c∧c<n:=by
 rw[Xj]at h ⊢;obtain⟨h1,h2⟩:=h;simp only[IS]at h1;exact⟨⟨by omega,λx hx=>h2 x (zAn _ hx)⟩,h2 c (List.mem_cons_self ..)⟩
theorem Xr{n:Nat}{c:Int}{l:List Int}{most:Int}(h:Qo n l most=true)(hc:0<=c∧c<n)(hl:(l.length:Int)+1<=most):Qo n (l++[c]) most=true:=by
 grind [Xj]
theorem R4{l:List Th}{a:Int}:gB l a=none↔a∉l.map Th.id:=by
 simp[gB]
def MI(s:St)(a k:Int):Prop:=(aL s a).2.2=true∧(aL s a).1=k
theorem K9{s:St}{a:Int}:MI s a 0↔a∈s.s0.af.map Th.id:=by
 grind [MI,aL,gB]
theorem K_{s:St}{a:Int}:MI s a 1↔a∉s.s0.af.map Th.id∧a∈s.s1.af.map Th.id:=by
 unfold MI aL;have h:=R4 (l:=s.s0.af) (a:=a);have h1:=R4 (l:=s.s1.af) (a:=a)
 grind
theorem Gu{s t:St}(h:Pe s)(hm:0<=s.mover∧s.mover<=1)(e1:t.phase=s.phase)(e2:t.bV=s.bV)(e3:t.mover=s.mover)(hs:t.ao.Sublist s.ao)
 (k0:∀a∈t.ao,a∈s.s0.af.map Th.id→a∈t.s0.af.map Th.id)(k1:∀a∈t.ao,a∈s.s1.af.map Th.id→a∉s.s0.af.map Th.id→a∈t.s1.af.map Th.id∧a∉t.s0.af.map Th.id):Pe t:=by
 refine⟨λhp=>?_,λhp=>?_⟩
 ·have:=h.1 (by rw[←e1];exact hp);simp_all
 ·obtain⟨q1,q2,q3,q4⟩:=h.2 (by rw[←e1];exact hp);refine⟨by rw[e2];exact q1,zAY hs.length_le q2,q3.sublist hs,λa ha=>?_⟩;have hq:=q4 a (hs.subset ha);rw[e3];rcases (show s.mover=0∨s.mover=1 by omega)with e|e
  ·rw[e]at hq ⊢;exact K9.2 (k0 a ha (K9.1 hq))
  ·rw[e]at hq ⊢;obtain⟨r1,r2⟩:=K_.1 hq;obtain⟨t1,t2⟩:=k1 a ha r2 r1;exact K_.2 ⟨t2,t1⟩
theorem Zbf(s:St)(h:(aS s 0).2.2=0):(iF (s.s0.aV-1)=true∧aS s 0=({ s with s0:={ s.s0 with aV:=s.s0.aV-1 } },⟨3,0,-1,0,0,0,[]⟩,0)) ∨
  (∃c l,s.s0.az=c::l∧aS s 0=({ s with s0:={ s.s0 with az:=l,al:=s.s0.al++[c],told:=s.s0.told++[c] },s1:={ s.s1 with told:=s.s1.told++[c] } },⟨4,0,c,0,0,0,[]⟩,0))∨(∃c l,s.s0.az=c::l∧s.s0.hand.length<10∧aS s 0=({ s with s0:={ s.s0 with az:=l,hand:=s.s0.hand++[c],told:=s.s0.told++[c] } },⟨3,0,c,0,0,0,[]⟩,0)):=by
 cases hd:s.s0.az with
 |nil=>
  have e:aS s 0=if iF (s.s0.aV-1)then ({ s with s0:={ s.s0 with aV:=s.s0.aV-1 } },⟨3,0,-1,0,0,0,[]⟩,0)else (iz,jm,171):=by
   show (match s.s0.az with | []=>_|c::l=>_)=_;rw[hd];rfl
  grind
 |cons c l=>
  right;by_cases hh:10<=s.s0.hand.length
  ·left;refine⟨c,l,rfl,?_⟩;show (match s.s0.az with | []=>_|c::l=>_)=_;rw[hd];show (if 10<=s.s0.hand.length then _ else _)=_;rw[aJ hh];rfl
  ·right;refine⟨c,l,rfl,by omega,?_⟩;show (match s.s0.az with | []=>_|c::l=>_)=_;rw[hd];show (if 10<=s.s0.hand.length then _ else _)=_;rw[aE hh];rfl
theorem Xcm{b:Bk}{s:St}(hM:dz b s)(h:(aS s 0).2.2=0)(g0:s.s0.al.length<1000000)(t0:s.s0.told.length<1000000)(t1:s.s1.told.length<1000000):dz b (aS s 0).1∧Zm (aS s 0).1=Zm s:=by
 have S:=hM.s0;rcases Zbf s h with ⟨hw,e⟩|⟨c,l,hd,e⟩|⟨c,l,hd,hh,e⟩
 ·rw[e];refine⟨⟨hM.hd,⟨hw,S.aT,S.most,S.az,S.hand,S.al,S.told,S.af⟩,hM.s1,hM.un,hM.at_⟩,rfl⟩
 ·rw[e];have rj:=S.az;rw[hd]at rj;obtain⟨d1,d2⟩:=ZR rj;have hl:s.s0.az.length=l.length+1:=by rw[hd];rfl
  refine⟨⟨hM.hd,⟨S.aV,S.aT,S.most,d1,S.hand,Xr S.al d2 (by omega),Xr S.told d2 (by omega),S.af⟩,⟨hM.s1.aV,hM.s1.aT,hM.s1.most,hM.s1.az,hM.s1.hand,hM.s1.al,Xr hM.s1.told d2 (by omega),hM.s1.af⟩,hM.un,hM.at_⟩,by simp[Zm,hl];omega⟩
 ·rw[e];have rj:=S.az;rw[hd]at rj;obtain⟨d1,d2⟩:=ZR rj;have hl:s.s0.az.length=l.length+1:=by rw[hd];rfl
  refine⟨⟨hM.hd,⟨S.aV,S.aT,S.most,d1,Xr S.hand d2 (by omega),S.al,Xr S.told d2 (by omega),S.af⟩,hM.s1,hM.un,hM.at_⟩,by simp[Zm,hl];omega⟩
theorem Ybf(s:St)(h:(aS s 1).2.2=0):(iF (s.s1.aV-1)=true∧aS s 1=({ s with s1:={ s.s1 with aV:=s.s1.aV-1 } },⟨3,1,-1,0,0,0,[]⟩,0)) ∨
  (∃c l,s.s1.az=c::l∧aS s 1=({ s with s1:={ s.s1 with az:=l,al:=s.s1.al++[c],told:=s.s1.told++[c] },s0:={ s.s0 with told:=s.s0.told++[c] } },⟨4,1,c,0,0,0,[]⟩,0))∨(∃c l,s.s1.az=c::l∧s.s1.hand.length<10∧aS s 1=({ s with s1:={ s.s1 with az:=l,hand:=s.s1.hand++[c],told:=s.s1.told++[c] } },⟨3,1,c,0,0,0,[]⟩,0)):=by
 cases hd:s.s1.az with
 |nil=>
  have e:aS s 1=if iF (s.s1.aV-1)then ({ s with s1:={ s.s1 with aV:=s.s1.aV-1 } },⟨3,1,-1,0,0,0,[]⟩,0)else (iz,jm,171):=by
   show (match s.s1.az with | []=>_|c::l=>_)=_;rw[hd];rfl
  grind
 |cons c l=>
  right;by_cases hh:10<=s.s1.hand.length
  ·left;refine⟨c,l,rfl,?_⟩;show (match s.s1.az with | []=>_|c::l=>_)=_;rw[hd];show (if 10<=s.s1.hand.length then _ else _)=_;rw[aJ hh];rfl
  ·right;refine⟨c,l,rfl,by omega,?_⟩;show (match s.s1.az with | []=>_|c::l=>_)=_;rw[hd];show (if 10<=s.s1.hand.length then _ else _)=_;rw[aE hh];rfl
theorem Qcm{b:Bk}{s:St}(hM:dz b s)(h:(aS s 1).2.2=0)(g0:s.s1.al.length<1000000)(t0:s.s0.told.length<1000000)(t1:s.s1.told.length<1000000):dz b (aS s 1).1∧Zm (aS s 1).1=Zm s:=by
 have S:=hM.s1;rcases Ybf s h with ⟨hw,e⟩|⟨c,l,hd,e⟩|⟨c,l,hd,hh,e⟩
 ·rw[e];refine⟨⟨hM.hd,hM.s0,⟨hw,S.aT,S.most,S.az,S.hand,S.al,S.told,S.af⟩,hM.un,hM.at_⟩,rfl⟩
 ·rw[e];have rj:=S.az;rw[hd]at rj;obtain⟨d1,d2⟩:=ZR rj;have hl:s.s1.az.length=l.length+1:=by rw[hd];rfl
  refine⟨⟨hM.hd,⟨hM.s0.aV,hM.s0.aT,hM.s0.most,hM.s0.az,hM.s0.hand,hM.s0.al,Xr hM.s0.told d2 (by omega),hM.s0.af⟩,⟨S.aV,S.aT,S.most,d1,S.hand,Xr S.al d2 (by omega),Xr S.told d2 (by omega),S.af⟩,hM.un,hM.at_⟩,by simp[Zm,hl];omega⟩
 ·rw[e];have rj:=S.az;rw[hd]at rj;obtain⟨d1,d2⟩:=ZR rj;have hl:s.s1.az.length=l.length+1:=by rw[hd];rfl
  refine⟨⟨hM.hd,hM.s0,⟨S.aV,S.aT,S.most,d1,Xr S.hand d2 (by omega),S.al,Xr S.told d2 (by omega),S.af⟩,hM.un,hM.at_⟩,by simp[Zm,hl];omega⟩
theorem Ybt{b:Bk}{n:Int}{u:Th}(h:Qz b n u=true):Qz b (n+1) u=true:=by
 simp only[Qz,AI,fE]at h ⊢
 grind
theorem QdB{b:Bk}{n:Int}{u:Th}(h:Qz b n u=true):u.id<n:=by
 simp_all [Qz]
theorem YcL{b:Bk}{s:St}(h:Nd b s):s.next∉(s.s0.af++s.s1.af).map Th.id:=by
 intro hm;obtain⟨u,hu,e⟩:=zAt.1 hm;have:=QdB (h.1 u hu);omega
theorem Ydv{l:List Th}{k:Nat}{u v:Th}(h:l[k]?=some u)(e:v.id=u.id):(l.set k v).map Th.id=l.map Th.id:=by
 rw[zDc,e];have hk:k<l.length:=(gK h).1;have h2:(l.map Th.id)[k]?=some u.id:=by rw[zAX,h];rfl
 obtain⟨sr,h3⟩:=gK h2;rw[←h3,zDg]
theorem NR{l:List Th}{k:Nat}{u:Th}{a:Int}(h:l[k]?=some u)(ha:a∈l.map Th.id)(cO:a≠u.id):a∈(l.eraseIdx k).map Th.id:=by
 obtain⟨v,hv,rfl⟩:=zAt.1 ha;obtain⟨hk,hu⟩:=gK h;obtain⟨l1,w,l2,e1,e2,e3⟩:=ZcA l k hk;simp_all
theorem XcL{n:Int}(h0:0<=n)(h1:n<13835058055282163712)(h:iF (BY.wrap n)=true):0<=BY.wrap n:=by
 grind [IntKind.wrap,IntKind.bits,ZU]
theorem Zej(n:Int):BY.wrap n<9223372036854775808:=by
 grind [IntKind.wrap,IntKind.signed,IntKind.bits]
theorem Xc6(n:Int):0<=iV n∧iV n<=4000000:=by unfold iV;omega
theorem Xb3{b:Bk}{s:St}{c:Int}(hM:dz b s)(h:Z0 b s 0 c=false):dz b (ZB s 0 c)∧Zm (ZB s 0 c)=Zm s+1:=by
 simp only[Z0,zAv,sG]at h;obtain⟨⟨⟨⟨h1,h2⟩,h3⟩,h4⟩,h5⟩:=h;have h4:¬7<=(s.s0.af.length:Int):=h4;obtain⟨d1,d2,d3,d4,d5,d6,d7,d8,d9,d10,d11⟩:=hM.hd;have UF:=YcL hM.un;have S:=hM.s0;refine⟨⟨⟨d1,d2,d3,d4,d5,d6,d7,d8,d9,by show 1<=s.next+1;omega,by show s.next+1<=1000000;omega⟩,⟨S.aV,S.aT,S.most,S.az,S.hand,S.al,S.told,by show (s.s0.af++[_]).length<=7;simp;omega⟩,hM.s1,⟨?_,?_⟩,?_⟩,?_⟩
 ·intro u hu;show Qz b (s.next+1) u=true;have hu:u∈s.s0.af++s.s1.af∨u=(⟨s.next,c,0,true⟩:Th):=by
   have:u∈(s.s0.af++[(⟨s.next,c,0,true⟩:Th)])++s.s1.af:=hu
   grind
  rcases hu with hu|rfl
  ·exact Ybt (hM.un.1 u hu)
  ·have hc:c.toNat<b.ai.length:=by omega
   simp only[Qz,AI,fE]
   grind
 ·have e:((ZB s 0 c).s0.af++(ZB s 0 c).s1.af).map Th.id=s.s0.af.map Th.id++s.next::s.s1.af.map Th.id:=by
   show ((s.s0.af++[(⟨s.next,c,0,true⟩:Th)])++s.s1.af).map Th.id=_;simp
  rw[e,List.perm_middle.nodup_iff,zBs];rw[←zAe];exact⟨UF,hM.un.2⟩
 ·refine Gu hM.at_ ⟨d3,d4⟩ rfl rfl rfl (zBJ _) (λa _ ha=>?_) (λa _ ha hn=>⟨?_,?_⟩)
  ·show a∈(s.s0.af++[_]).map Th.id;simp_all
  ·exact ha
  ·show a∉(s.s0.af++[_]).map Th.id;grind
 ·show ((s.s0.az.length:Int)+s.s0.hand.length+s.s0.al.length+(s.s0.af++[(⟨s.next,c,0,true⟩:Th)]).length)+(s.s1.az.length+s.s1.hand.length+s.s1.al.length+s.s1.af.length)=_;simp[Zm];omega
theorem Qb3{b:Bk}{s:St}{c:Int}(hM:dz b s)(h:Z0 b s 1 c=false):dz b (ZB s 1 c)∧Zm (ZB s 1 c)=Zm s+1:=by
 simp only[Z0,zAv,sG]at h;obtain⟨⟨⟨⟨h1,h2⟩,h3⟩,h4⟩,h5⟩:=h;have h4:¬7<=(s.s1.af.length:Int):=h4;obtain⟨d1,d2,d3,d4,d5,d6,d7,d8,d9,d10,d11⟩:=hM.hd;have UF:=YcL hM.un;have S:=hM.s1;refine⟨⟨⟨d1,d2,d3,d4,d5,d6,d7,d8,d9,by show 1<=s.next+1;omega,by show s.next+1<=1000000;omega⟩,hM.s0,⟨S.aV,S.aT,S.most,S.az,S.hand,S.al,S.told,by show (s.s1.af++[_]).length<=7;simp;omega⟩,⟨?_,?_⟩,?_⟩,?_⟩
 ·intro u hu;show Qz b (s.next+1) u=true;have hu:u∈s.s0.af++s.s1.af∨u=(⟨s.next,c,0,true⟩:Th):=by
   have:u∈s.s0.af++(s.s1.af++[(⟨s.next,c,0,true⟩:Th)]):=hu
   grind
  rcases hu with hu|rfl
  ·exact Ybt (hM.un.1 u hu)
  ·have hc:c.toNat<b.ai.length:=by omega
   simp only[Qz,AI,fE]
   grind
 ·have e:((ZB s 1 c).s0.af++(ZB s 1 c).s1.af).map Th.id=(s.s0.af++s.s1.af).map Th.id++s.next::[]:=by
   show (s.s0.af++(s.s1.af++[(⟨s.next,c,0,true⟩:Th)])).map Th.id=_;simp
  rw[e,List.perm_middle.nodup_iff,zBs];rw[zBN];exact⟨UF,hM.un.2⟩
 ·refine Gu hM.at_ ⟨d3,d4⟩ rfl rfl rfl (zBJ _) (λa _ ha=>?_) (λa _ ha hn=>⟨?_,?_⟩)
  ·exact ha
  ·show a∈(s.s1.af++[_]).map Th.id;simp_all
  ·exact hn
 ·show ((s.s0.az.length:Int)+s.s0.hand.length+s.s0.al.length+s.s0.af.length)+(s.s1.az.length+s.s1.hand.length+s.s1.al.length+(s.s1.af++[(⟨s.next,c,0,true⟩:Th)]).length)=_;simp[Zm];omega
theorem Zbt{b:Bk}{n h:Int}{u:Th}(k:Qz b n u=true)(h0:0<=h)(h1:h<=1000000):Qz b n { u with harm:=h }=true:=by
 simp only[Qz,AI,fE]at k ⊢
 grind
theorem Wd{b:Bk}{n:Int}{u:Th}(k:Qz b n u=true):0<=u.harm∧u.harm<=1000000:=by
 simp_all [Qz]
theorem XcF{l:List Th}{k:Nat}{v u:Th}(h:u∈l.set k v):u∈l∨u=v:=List.mem_or_eq_of_mem_set h
theorem Yct{b:Bk}{s:St}(hM:dz b s){k:Nat}{u:Th}(hk:s.s0.af[k]?=some u){h:Int}(h0:0<=h)(h1:h<=1000000):dz b { s with s0:={ s.s0 with af:=s.s0.af.set k { u with harm:=h } } }∧Zm { s with s0:={ s.s0 with af:=s.s0.af.set k { u with harm:=h } } }=Zm s:=by
 have S:=hM.s0;have hu:u∈s.s0.af:=zAK hk;have hi:(s.s0.af.set k { u with harm:=h }).map Th.id=s.s0.af.map Th.id:=Ydv hk rfl;have N:ij b { s.s0 with af:=s.s0.af.set k { u with harm:=h } }:=⟨S.aV,S.aT,S.most,S.az,S.hand,S.al,S.told,by show (s.s0.af.set k _).length<=7;rw[zCf];exact S.af⟩;refine⟨⟨hM.hd,N,hM.s1,⟨λv hv=>?_,?_⟩,?_⟩,?_⟩
 ·have hv:v∈(s.s0.af.set k { u with harm:=h })++s.s1.af:=hv;rcases zAI.1 hv with hv|hv
  ·rcases XcF hv with hv|rfl;exact hM.un.1 v (zAl _ hv);exact Zbt (hM.un.1 u (zAl _ hu)) h0 h1
  ·exact hM.un.1 v (zAg _ hv)
 ·have e:((s.s0.af.set k { u with harm:=h })++s.s1.af).map Th.id=(s.s0.af++s.s1.af).map Th.id:=by rw[zAe,zAe,hi]
  show (((s.s0.af.set k { u with harm:=h })++s.s1.af).map Th.id).Nodup;rw[e];exact hM.un.2
 ·refine Gu hM.at_ ⟨hM.hd.2.2.1,hM.hd.2.2.2.1⟩ rfl rfl rfl (zBJ _) (λa _ ha=>?_) (λa _ ha hn=>⟨?_,?_⟩)
  ·show a∈(s.s0.af.set k _).map Th.id;rw[hi];exact ha
  ·exact ha
  ·show a∉(s.s0.af.set k _).map Th.id;rw[hi];exact hn
 ·simp[Zm]
theorem Zbk{b:Bk}{s:St}(hM:dz b s){n:Int}(hw:iF n=true):dz b { s with s0:={ s.s0 with aV:=n } }∧Zm { s with s0:={ s.s0 with aV:=n } }=Zm s:=by
 have S:=hM.s0;exact⟨⟨hM.hd,⟨hw,S.aT,S.most,S.az,S.hand,S.al,S.told,S.af⟩,hM.s1,hM.un,hM.at_⟩,rfl⟩
theorem Qci{b:Bk}{s:St}(hM:dz b s){k:Nat}{u:Th}(hk:s.s0.af[k]?=some u)(hg:s.s0.al.length<1000000) :
  dz b { s with ao:=bC u.id s.ao,s0:={ s.s0 with af:=s.s0.af.eraseIdx k,al:=s.s0.al++[u.card] } }∧Zm { s with ao:=bC u.id s.ao,s0:={ s.s0 with af:=s.s0.af.eraseIdx k,al:=s.s0.al++[u.card] } }=Zm s:=by
 have S:=hM.s0;have hu:u∈s.s0.af:=zAK hk;have mw:k<s.s0.af.length:=(gK hk).1;have oJ:=zCj s.s0.af k;have hlen:(s.s0.af.eraseIdx k).length=s.s0.af.length-1:=zCH mw;have hc:=NX (hM.un.1 u (zAl _ hu));have N:ij b { s.s0 with af:=s.s0.af.eraseIdx k,al:=s.s0.al++[u.card] }:=⟨S.aV,S.aT,S.most,S.az,S.hand,Xr S.al ⟨hc.1,by omega⟩ (by omega),S.told,by show (s.s0.af.eraseIdx k).length<=7;have:=S.af;omega⟩;refine⟨⟨hM.hd,N,hM.s1,⟨λv hv=>?_,?_⟩,?_⟩,?_⟩
 ·have hv:v∈(s.s0.af.eraseIdx k)++s.s1.af:=hv;rcases zAI.1 hv with hv|hv
  ·exact hM.un.1 v (zAl _ (oJ.subset hv))
  ·exact hM.un.1 v (zAg _ hv)
 ·refine hM.un.2.sublist (zDX _ ?_);exact oJ.append (zBJ _)
 ·refine Gu hM.at_ ⟨hM.hd.2.2.1,hM.hd.2.2.2.1⟩ rfl rfl rfl zDq (λa ha hm=>?_) (λa ha hm hn=>⟨?_,?_⟩)
  ·have ha:a∈bC u.id s.ao:=ha;simp only[bC,List.mem_filter]at ha;exact NR hk hm (by simpa using ha.2)
  ·exact hm
  ·intro hq;exact hn ((oJ.map Th.id).subset hq)
 ·have:0<s.s0.af.length:=by omega
  simp only[Zm,hlen,By,zBa];omega
theorem Xct{b:Bk}{s:St}(hM:dz b s){k:Nat}{u:Th}(hk:s.s1.af[k]?=some u){h:Int}(h0:0<=h)(h1:h<=1000000):dz b { s with s1:={ s.s1 with af:=s.s1.af.set k { u with harm:=h } } }∧Zm { s with s1:={ s.s1 with af:=s.s1.af.set k { u with harm:=h } } }=Zm s:=by
 have S:=hM.s1;have hu:u∈s.s1.af:=zAK hk;have hi:(s.s1.af.set k { u with harm:=h }).map Th.id=s.s1.af.map Th.id:=Ydv hk rfl;have N:ij b { s.s1 with af:=s.s1.af.set k { u with harm:=h } }:=⟨S.aV,S.aT,S.most,S.az,S.hand,S.al,S.told,by show (s.s1.af.set k _).length<=7;rw[zCf];exact S.af⟩;refine⟨⟨hM.hd,hM.s0,N,⟨λv hv=>?_,?_⟩,?_⟩,?_⟩
 ·have hv:v∈s.s0.af++(s.s1.af.set k { u with harm:=h }):=hv;rcases zAI.1 hv with hv|hv
  ·exact hM.un.1 v (zAl _ hv)
  ·rcases XcF hv with hv|rfl;exact hM.un.1 v (zAg _ hv);exact Zbt (hM.un.1 u (zAg _ hu)) h0 h1
 ·have e:(s.s0.af++(s.s1.af.set k { u with harm:=h })).map Th.id=(s.s0.af++s.s1.af).map Th.id:=by rw[zAe,zAe,hi]
  show ((s.s0.af++(s.s1.af.set k { u with harm:=h })).map Th.id).Nodup;rw[e];exact hM.un.2
 ·refine Gu hM.at_ ⟨hM.hd.2.2.1,hM.hd.2.2.2.1⟩ rfl rfl rfl (zBJ _) (λa _ ha=>?_) (λa _ ha hn=>⟨?_,?_⟩)
  ·exact ha
  ·show a∈(s.s1.af.set k _).map Th.id;rw[hi];exact ha
  ·exact hn
 ·simp[Zm]
theorem Ybk{b:Bk}{s:St}(hM:dz b s){n:Int}(hw:iF n=true):dz b { s with s1:={ s.s1 with aV:=n } }∧Zm { s with s1:={ s.s1 with aV:=n } }=Zm s:=by
 have S:=hM.s1;exact⟨⟨hM.hd,hM.s0,⟨hw,S.aT,S.most,S.az,S.hand,S.al,S.told,S.af⟩,hM.un,hM.at_⟩,rfl⟩
theorem Zcj{b:Bk}{s:St}(hM:dz b s){k:Nat}{u:Th}(hk:s.s1.af[k]?=some u)(hg:s.s1.al.length<1000000) :
  dz b { s with ao:=bC u.id s.ao,s1:={ s.s1 with af:=s.s1.af.eraseIdx k,al:=s.s1.al++[u.card] } }∧Zm { s with ao:=bC u.id s.ao,s1:={ s.s1 with af:=s.s1.af.eraseIdx k,al:=s.s1.al++[u.card] } }=Zm s:=by
 have S:=hM.s1;have hu:u∈s.s1.af:=zAK hk;have mw:k<s.s1.af.length:=(gK hk).1;have oJ:=zCj s.s1.af k;have hlen:(s.s1.af.eraseIdx k).length=s.s1.af.length-1:=zCH mw;have hc:=NX (hM.un.1 u (zAg _ hu));have N:ij b { s.s1 with af:=s.s1.af.eraseIdx k,al:=s.s1.al++[u.card] }:=⟨S.aV,S.aT,S.most,S.az,S.hand,Xr S.al ⟨hc.1,by omega⟩ (by omega),S.told,by show (s.s1.af.eraseIdx k).length<=7;have:=S.af;omega⟩;refine⟨⟨hM.hd,hM.s0,N,⟨λv hv=>?_,?_⟩,?_⟩,?_⟩
 ·have hv:v∈s.s0.af++(s.s1.af.eraseIdx k):=hv;rcases zAI.1 hv with hv|hv
  ·exact hM.un.1 v (zAl _ hv)
  ·exact hM.un.1 v (zAg _ (oJ.subset hv))
 ·refine hM.un.2.sublist (zDX _ ?_);exact(zBJ _).append oJ
 ·refine Gu hM.at_ ⟨hM.hd.2.2.1,hM.hd.2.2.2.1⟩ rfl rfl rfl zDq (λa ha hm=>?_) (λa ha hm hn=>⟨?_,?_⟩)
  ·exact hm
  ·have ha:a∈bC u.id s.ao:=ha;simp only[bC,List.mem_filter]at ha;exact NR hk hm (by simpa using ha.2)
  ·exact hn
 ·have:0<s.s1.af.length:=by omega
  simp only[Zm,hlen,By,zBa];omega
theorem YbM{b:Bk}{s:St}(id:Int)(hM:dz b s)(g0:s.s0.al.length<1000000)(g1:s.s1.al.length<1000000) :
  dz b (Qm s id).1∧Zm (Qm s id).1=Zm s∧(Qm s id).1.s0.al.length<=s.s0.al.length+1∧(Qm s id).1.s1.al.length<=s.s1.al.length+1:=by
 unfold Qm;cases q0:gB s.s0.af id with
 |some k=>
  obtain⟨u,hk,e⟩:=YR q0;simp only[hk,zAo];subst e;obtain⟨h1,h2⟩:=Qci hM hk g0;exact⟨h1,h2,by simp,by simp⟩
 |none=>
  cases q1:gB s.s1.af id with
  |some k=>
   obtain⟨u,hk,e⟩:=YR q1;simp only[hk,zAo];subst e;obtain⟨h1,h2⟩:=Zcj hM hk g1;exact⟨h1,h2,by simp,by simp⟩
  |none=>exact⟨hM,rfl,by simp,by simp⟩
theorem YaZ{b:Bk}:∀(ids:List Int) {s:St},dz b s→s.s0.al.length+ids.length<=1000000→s.s1.al.length+ids.length<=1000000→dz b (Yl ids s).1∧Zm (Yl ids s).1=Zm s
 |[],s,hM,_,_=>⟨hM,rfl⟩
 |id::ids,s,hM,g0,g1=>by
  simp only[IS]at g0 g1;obtain⟨h1,h2,h3,h4⟩:=YbM id hM (by omega) (by omega);obtain⟨k1,k2⟩:=YaZ ids h1 (by omega) (by omega);exact⟨k1,k2.trans h2⟩
theorem MV:∀(ids:List Int) (s:St),ids.Nodup→(∀a∈ids,a∈s.s0.af.map Th.id∨a∈s.s1.af.map Th.id)→(Yl ids s).2.length=ids.length
 |[],_,_,_=>rfl
 |id::ids,s,hn,di=>by
  have jJ:=zBs.1 hn;have cO:∀a∈ids,a≠id:=λa ha e=>jJ.1 (e▸ha);have key:(Qm s id).2.length=1∧∀a∈ids,a∈(Qm s id).1.s0.af.map Th.id∨a∈(Qm s id).1.s1.af.map Th.id:=by
   unfold Qm;cases q0:gB s.s0.af id with
   |some k=>
    obtain⟨u,hk,e⟩:=YR q0;simp only[hk,zAo];refine⟨rfl,λa ha=>?_⟩
    grind [NR]
   |none=>
    cases q1:gB s.s1.af id with
    |some k=>
     obtain⟨u,hk,e⟩:=YR q1;simp only[hk,zAo];refine⟨rfl,λa ha=>?_⟩
     grind [NR]
    |none=>
     grind [R4]
  have ih:=MV ids (Qm s id).1 jJ.2 key.2;simp only[Yl,By,IS,key.1,ih];omega
theorem P3(b:Bk)(all:List Th):∀(l:List Th) (i:Int),(QJ b all l i).Sublist (l.map Th.id)
 |[],_=>zBJ _
 |u::l,i=>by
  have:=P3 b all l (i+1);unfold QJ;rw[zAN];split
  ·exact this.cons_cons _
  ·exact this.cons _
theorem ZF{b:Bk}{s:St}(hM:dz b s):(aH b s).Nodup∧(∀a∈aH b s,a∈s.s0.af.map Th.id∨a∈s.s1.af.map Th.id)∧(aH b s).length<=14:=by
 have h0:=P3 b s.s0.af s.s0.af 0;have h1:=P3 b s.s1.af s.s1.af 0;have hn:=hM.un.2;rw[zAe]at hn;have l0:=h0.length_le;have l1:=h1.length_le;rw[zAH]at l0 l1;have u0:=hM.s0.af;have u1:=hM.s1.af;have k:∀a,a∈Q0 b s.s0∨a∈Q0 b s.s1→a∈s.s0.af.map Th.id∨a∈s.s1.af.map Th.id:=by
  rintro a (h|h)
  ·exact .inl (h0.subset h)
  ·exact .inr (h1.subset h)
 unfold aH;by_cases hm:s.mover=0
 ·rw[aJ hm];exact⟨hn.sublist (h0.append h1),λa ha=>k a (zAI.1 ha),by rw[By];show (QJ b s.s0.af s.s0.af 0).length+(QJ b s.s1.af s.s1.af 0).length<=14;omega⟩
 ·rw[aE hm];exact⟨(List.perm_append_comm.nodup_iff.1 hn).sublist (h1.append h0),λa ha=>k a (zAI.1 ha).symm,by rw[By];show (QJ b s.s1.af s.s1.af 0).length+(QJ b s.s0.af s.s0.af 0).length<=14;omega⟩
theorem Wg{b:Bk}{s:St}{kd id sd:Int}{fP:Int→Int×Int}{fU:Th→Int×Int}(hM:dz b s)(hP:∀l,0<=(fP l).2)(hU:∀u,0<=u.harm→u.harm<=1000000→0<=(fU u).2∧(iF (fU u).1=true→0<=(fU u).1))(h0:sd=0∨sd=1)(h:(fY kd fP fU s id sd).2.2=0) :
  dz b (fY kd fP fU s id sd).1∧Zm (fY kd fP fU s id sd).1=Zm s∧0<=(fY kd fP fU s id sd).2.1.n:=by
 have z:∀(x:Int),x≠0→(iz,jm,x).2.2=0→False:=λx hx h=>hx h;unfold fY at h ⊢;by_cases gP:id=0
 ·rw[aJ gP]at h ⊢;unfold ni at h ⊢;by_cases hw:iF (fP (s.side sd).aV).1=true
  ·rw[aJ hw];rcases h0 with rfl|rfl
   ·exact⟨(Zbk hM hw).1,(Zbk hM hw).2,hP _⟩
   ·exact⟨(Ybk hM hw).1,(Ybk hM hw).2,hP _⟩
  simp_all
 rw[aE gP]at h ⊢;by_cases oC:id<0
 ·simp_all
 rw[aE oC]at h ⊢;cases q0:gB s.s0.af id with
 |some k=>
  obtain⟨u,hk,_⟩:=YR q0;rw[q0]at h;simp only[hk,zAo]at h ⊢;have hh:=Wd (hM.un.1 u (zAl _ (zAK hk)));obtain⟨k1,k2⟩:=hU u hh.1 hh.2;unfold jH at h ⊢;by_cases hw:iF (fU u).1=true
  ·rw[aJ hw];have:=Yct hM hk (k2 hw) (ZU.1 hw).2;exact⟨this.1,this.2,k1⟩
  simp_all
 |none=>
  rw[q0]at h;cases q1:gB s.s1.af id with
  |none=>simp_all
  |some k=>
   obtain⟨u,hk,_⟩:=YR q1;rw[q1]at h;simp only[hk,zAo]at h ⊢;have hh:=Wd (hM.un.1 u (zAg _ (zAK hk)));obtain⟨k1,k2⟩:=hU u hh.1 hh.2;unfold jH at h ⊢;by_cases hw:iF (fU u).1=true
   ·rw[aJ hw];have:=Xct hM hk (k2 hw) (ZU.1 hw).2;exact⟨this.1,this.2,k1⟩
   simp_all
theorem ZcR{b:Bk}{s:St}{id sd n:Int}(hM:dz b s)(h0:sd=0∨sd=1)(h:(jv b s id sd n).2.2=0):dz b (jv b s id sd n).1∧Zm (jv b s id sd n).1=Zm s∧0<=(jv b s id sd n).2.1.n:=by
 refine Wg hM (λl=>(Xc6 n).1) (λu h1 h2=>?_) h0 h;have hh:0<=oK b u (iV n)∧oK b u (iV n)<9223372036854775808:=by
  unfold oK;have:=Zej (iV n-YY b u.card);omega
 grind [XcL]
theorem XcR{b:Bk}{s:St}{id sd n:Int}(hM:dz b s)(h0:sd=0∨sd=1)(h:(jA s id sd n).2.2=0):dz b (jA s id sd n).1∧Zm (jA s id sd n).1=Zm s∧0<=(jA s id sd n).2.1.n:=by
 have hc:=Xc6 n;refine Wg hM (λl=>hc.1) (λu h1 h2=>?_) h0 h
 grind [XcL]
theorem w69(x:aa)(τ:List ab)(K:KT)(h:K (.func (.func 175) [x] []) τ):g174.u VV [x] τ K:=by
 rw[H1.e];unfold g174;dsimp only;exact Za rfl h
theorem Tg(m:List aa)(aV n:Int):PC 175 [.aq m 0,.fj,iv aV,iv n] (.bp [iv (BY.wrap (aV+n)),iv n]):=by
 refine Xa hP g175.ok rfl rfl ?_;rw[H4.e];unfold g175;dsimp only;exact ay rfl
theorem Ti(b:Bk)(m:List aa)(u:Th)(aV n:Int):PC 175 [.aq (.aq (cy b) 0::m) 0,.aq (bg u) 0,iv aV,iv n] (.bp [iv (BY.wrap (u.harm-min n u.harm)),iv (min n u.harm)]):=by
 refine Xa hP g175.ok rfl rfl ?_;rw[H4.e];unfold g175;dsimp only;exact ax rfl
theorem c26(b:Bk)(hf:a_ b=true)(bY:Yg b.ai)(s:St)(hs:bd 2000000 s)(hm:aO (bz b).1 b s true=true)(id sd n:Int)(h0:sd=0∨sd=1):PC 124 [cC b,bZ s,iv id,iv sd,iv n] (eA (jA s id sd n)):=
 cT hf bY hs hm (show GQ 124 5 (gT 6 174) from g124.ok) g174.ok w69 g175.ok.plain id sd n h0 (λm aV=>Tg m aV _) (λm u aV _ _=>Ti b m u aV _)
def uu(s:St):Int:=s.ao.length+(s.s0.az.length+s.s0.hand.length+s.s0.al.length+s.s0.af.length+s.s0.told.length)+(s.s1.az.length+s.s1.hand.length+s.s1.al.length+s.s1.af.length+s.s1.told.length)
theorem Tb(s:St)(hs:bd 2000000 s):PC 6 [bZ s] (.bool (decide (2000<uu s))):=by
 have a0:=hs.ao;obtain⟨d0,h0,g0,u0,t0⟩:=hs.s0;obtain⟨d1,h1,g1,u1,t1⟩:=hs.s1;have w1:BY.wrap (0+1)=1:=by decide
 have w2:BY.wrap (1+1)=2:=by decide
 refine Xa hP g6.ok rfl rfl ?_;rw[H1.e];unfold g6;dsimp only;refine Yd rfl rfl (Za rfl (Za rfl (Za (v:=iv s.ao.length) (rd:=[]) (by simp[Zf]) ?_)));refine QK 3 (Zl ?_);refine Za rfl (Yh ?_);refine Za rfl (Za rfl (Za rfl (Yd rfl rfl (Yd rfl rfl ?_))));refine Za rfl (Za rfl (Za (v:=iv s.s0.az.length) (rd:=[]) (by simp[Zf]) ?_));refine Za rfl (Za rfl (Za (v:=iv s.s0.hand.length) (rd:=[]) (by simp[Zf]) (Za (Qj ..) ?_)));rw[br (n:=(s.s0.az.length:Int)+(s.s0.hand.length:Int)) (by omega) (by omega)];refine Za rfl (Za rfl (Za (v:=iv s.s0.al.length) (rd:=[]) (by simp[Zf]) (Za (Qj ..) ?_)));rw[br (n:=(s.s0.az.length:Int)+(s.s0.hand.length:Int)+(s.s0.al.length:Int)) (by omega) (by omega)];refine Za rfl (Za rfl (Za (v:=iv s.s0.af.length) (rd:=[]) (by simp[Zf]) (Za (Qj ..) ?_)));rw[br (n:=(s.s0.az.length:Int)+(s.s0.hand.length:Int)+(s.s0.al.length:Int)+(s.s0.af.length:Int)) (by omega) (by omega)];refine Za rfl (Za rfl (Za (v:=iv s.s0.told.length) (rd:=[]) (by simp[Zf]) (Za (Qj ..) ?_)));rw[br (n:=(s.s0.az.length:Int)+(s.s0.hand.length:Int)+(s.s0.al.length:Int)+(s.s0.af.length:Int)+(s.s0.told.length:Int)) (by omega) (by omega)];refine Za (Qj ..) (Za rfl ?_);rw[w1,br (n:=(s.ao.length:Int)+((s.s0.az.length:Int)+(s.s0.hand.length:Int)+(s.s0.al.length:Int)+(s.s0.af.length:Int)+(s.s0.told.length:Int))) (by omega) (by omega)];refine Zl (Za rfl (Yh ?_));refine Za rfl (Za rfl (Za rfl (Yd rfl rfl (Yd rfl rfl ?_))));refine Za rfl (Za rfl (Za (v:=iv s.s1.az.length) (rd:=[]) (by simp[Zf]) ?_));refine Za rfl (Za rfl (Za (v:=iv s.s1.hand.length) (rd:=[]) (by simp[Zf]) (Za (Qj ..) ?_)));rw[br (n:=(s.s1.az.length:Int)+(s.s1.hand.length:Int)) (by omega) (by omega)];refine Za rfl (Za rfl (Za (v:=iv s.s1.al.length) (rd:=[]) (by simp[Zf]) (Za (Qj ..) ?_)));rw[br (n:=(s.s1.az.length:Int)+(s.s1.hand.length:Int)+(s.s1.al.length:Int)) (by omega) (by omega)];refine Za rfl (Za rfl (Za (v:=iv s.s1.af.length) (rd:=[]) (by simp[Zf]) (Za (Qj ..) ?_)));rw[br (n:=(s.s1.az.length:Int)+(s.s1.hand.length:Int)+(s.s1.al.length:Int)+(s.s1.af.length:Int)) (by omega) (by omega)];refine Za rfl (Za rfl (Za (v:=iv s.s1.told.length) (rd:=[]) (by simp[Zf]) (Za (Qj ..) ?_)));rw[br (n:=(s.s1.az.length:Int)+(s.s1.hand.length:Int)+(s.s1.al.length:Int)+(s.s1.af.length:Int)+(s.s1.told.length:Int)) (by omega) (by omega)];refine Za (Qj ..) (Za rfl ?_);rw[w2,br (n:=(s.ao.length:Int)+((s.s0.az.length:Int)+(s.s0.hand.length:Int)+(s.s0.al.length:Int)+(s.s0.af.length:Int)+(s.s0.told.length:Int))+((s.s1.az.length:Int)+(s.s1.hand.length:Int)+(s.s1.al.length:Int)+(s.s1.af.length:Int)+(s.s1.told.length:Int))) (by omega) (by omega)];exact Zl (ay rfl)
theorem dz.le{b:Bk}{s:St}(h:dz b s):bd 1000000 s:=by
 have l:∀ {x:Sd},ij b x→lO 1000000 x:=λ{x} S=>by
  have h1:=(Xj.1 S.az).1;have h2:=(Xj.1 S.hand).1;have h3:=(Xj.1 S.al).1;have h4:=(Xj.1 S.told).1;have h5:=S.af;exact⟨by omega,by omega,by omega,by omega,by omega⟩
 refine⟨?_,l h.s0,l h.s1⟩;by_cases hp:s.phase=1
 ·have:=(h.at_.2 hp).2.1;omega
 ·rw[h.at_.1 hp];simp
section
variable {b:Bk} (hf:a_ b=true) (bY:Yg b.ai) {s:St} (hs:bd 2000000 s) (hm:aO (bz b).1 b s true=true)
include hf bY hs hm
end
end Go.Ah.Tz
end
section
namespace Go.Ah
def mJ(D:List Deferred)(a:Act):Act:={ a with defers:=a.defers++D }
section
variable {P:Program}
theorem Cy(D:List Deferred)(a:Act)(d:Option Nat)(v:Value):(mJ D a).put d v=mJ D (a.put d v):=by
 cases d<;>rfl
theorem PE(D:List Deferred)(a:Act):(mJ D a).eval=a.eval:=by
 funext x;cases x<;>rfl
theorem SG{ops:Array Oper}{Q Q':Exit→Act→World→Prop}(D:List Deferred)(l2:List Nat)(hn:∀a w,Q .normal a w→wpOps P ops Q' l2 (mJ D a) w)(hq:∀e a w,e≠.normal→Q e a w→Q' e (mJ D a) w) :
  ∀(l:List Nat) (a:Act) (w:World),wpOps P ops Q l a w→wpOps P ops Q' (l++l2) (mJ D a) w
 |[],a,w,h=>hn _ _ h
 |i::rest,a,w,h=>by
  have oF:LetsOut Q→LetsOut Q':=λ⟨a,w,q⟩=>⟨_,w,hq _ _ _ (by simp) q⟩;have ih:=SG D l2 hn hq rest;simp only[zAL,wpOps]at h ⊢;cases ho:ops[i]? with
  |none=>simp only[ho]at h ⊢;exact ih _ _ h
  |some o=>
   simp only[ho]at h ⊢;have ht:(mJ D a).tmps=a.tmps:=rfl;rw[ht];split
   ·rename_i hw;rw[aJ hw]at h;rcases h with h|⟨h1,h2⟩
    ·left;unfold zEA at h ⊢;rw[PE];generalize (execOp a.eval o).run P w=r at h ⊢;cases r with
     |ok nx w'=>
      cases nx with
      |value v=>simp only[zCz]at h ⊢;rw[Cy];exact ih _ _ h
      |skip=>simp only[zCz]at h ⊢;rw[Cy];exact ih _ _ h
      |defer d=>
       simp only[zCz]at h ⊢;rw[show ({ mJ D a with defers:=d::(mJ D a).defers }:Act)=mJ D { a with defers:=d::a.defers } from rfl,Cy];exact ih _ _ h
      |enter f args=>
       simp only[zCz]at h ⊢;refine zDN h (λe xW k=>?_);cases e with
       |returned v=>simp only at k ⊢;rw[Cy];exact ih _ _ k
       |panicked c=>exact hq _ _ _ (by simp) k
       |outgrown=>exact oF k
      |row row args=>
       simp only[zCz]at h ⊢;refine Rows.mono h (λv xW k=>?_);rw[Cy];exact ih _ _ k
      |_=>exact h.elim
     |halt hh w'=>
      cases hh with
      |panic v=>exact hq _ _ _ (by simp) h
      |_=>exact h.elim
    ·right;refine⟨?_,oF h2⟩;unfold Oper.asks at h1 ⊢;rw[PE];exact h1
   ·rename_i hw;rw[aE hw]at h;rw[Cy];exact ih _ _ h
end
section
variable {P:Program} {GL:ar}
theorem MJ{n:Nat}{c1 c2:Code}{m1:dd}(hc:cD P GL n c1 m1){w0:World}{L:Ln}{g:Gm}{ρ:Frame}{σ:List ab}{a:Act}{w:World}(r:bx GL w0 L g (hp σ) w)(d:cR n g ρ a){Q1:eD}{Qw:Exit→Act→World→Prop}(h:iR P GL n m1 ρ σ Q1)
 (hn:∀g' ρ' σ' a' w',g.Le g'→bx GL w0 L g' (hp σ') w'→cR n g' ρ' a'→Q1 .normal ρ' σ'→c2.wp P Qw a' w')(hx:∀i ρ σ,¬Q1 (.exit i) ρ σ)
 (hr:∀g' ρ' σ' a' w',g.Le g'→bx GL w0 L g' (hp σ') w'→cR n g' ρ' a'→Q1 .ret ρ' σ'→Qw .ret a' w'):(Code.seq c1 c2).wp P Qw a w:=by
 refine wp_seq (wp_mono (h c1 hc w0 L g a w r d) (λe a' w' hl=>?_));cases e with
 |normal=>obtain⟨g',ρ',σ',k1,k2,k3,k4⟩:=hl;exact hn g' ρ' σ' a' w' k1 k2 k3 k4
 |ret=>obtain⟨g',ρ',σ',k1,k2,k3,k4⟩:=hl;exact hr g' ρ' σ' a' w' k1 k2 k3 k4
 |exit id=>obtain⟨g',ρ',σ',k1,k2,k3,k4⟩:=hl;exact(hx _ _ _ k4).elim
 |_=>exact hl.elim
end
end Go.Ah
end
section
namespace Go.Ah.Tz
open Go.Proofs.Tryz (prog)
set_option maxRecDepth 100000
def ui{α:Type}(A:aF α)(x0 x1 x2 x3:aa)(σ:List ab)(K R:List aa→List ab→α):α:=
 A.wr (tL [x2] σ) σ λFp σ=>
 A.wr (Qs [.dp] [] σ) σ λxS σ=>
 A.wr (Qs [(.int .i64 0)] [] σ) σ λxT σ=>
 A.rd (Xl [x1] σ) λLU=>
 A.rd (Qe true 23 [LU] σ) λxI=>
 A.wr (Qs [(.int .i64 0),(.int .i64 0),(.int .i8 0),(.bool false),(.int .i8 0),.an,(.int .i64 0),(.int .i64 0),(.int .i64 0),(.int .i64 0),.an,.an,.an,.an,.an,(.int .i64 0),(.int .i64 0),(.int .i64 0),.an,.an,.an,.an,.an] [] σ) σ λr_ σ=>
 A.wr (Yj 23 [r_,xI] σ) σ λ_ σ=>
 A.rd (Xb 2 [r_] σ) λxL=>
 A.rd (Qe false 1 [xL] σ) λL'=>
 A.rd (Ym .eql false [L',(.int .i8 1)] σ) λsa=>
 A.gr sa true (λk=>A.rd (Xb 5 [r_] σ) k) λMc=>
 A.gr sa true (λk=>A.rd (Qe false 1 [Mc] σ) k) λDR=>
 A.gr sa true (λk=>A.rd (Qn [DR] σ) k) λDT=>
 A.gr sa true (λk=>A.rd (Ym .eql false [DT,(.int .i64 0)] σ) k) λDU=>
 A.rd (Zo [sa,DU,(.bool false)] σ) λDW=>
 cI (λk14=>
 A.test DW (
 A.rd (Xb 2 [r_] σ) λtm=>
 A.wr (Yj 1 [tm,(.int .i8 0)] σ) σ λ_ σ=>
 k14 [] σ) (
 k14 [] σ)) (λv15 σ=>
 A.pu (Xl [x0] σ) λtq=>
 A.dr (Qe true 2 [tq] σ) σ λD8 l19 σ=>
 A.dr (Qe true 23 [r_] σ) σ λD' l21 σ=>
 A.eS (.call 43) [D8,D'] σ λEa l23 σ=>
 A.pu (Ym .neq false [Ea,(.int .i64 0)] σ) λkD=>
 A.gr kD false (λk=>A.pu (qM [x1] σ) k) λEh=>
 A.gr kD false (λk=>A.pu (Xl [Eh] σ) k) λEk=>
 A.gr kD false (λk=>A.pu (Xb 2 [Ek] σ) k) λEo=>
 A.gl kD false (λk=>A.dr (Qe false 1 [Eo] σ) σ k) σ λEs l29 σ=>
 A.gr kD false (λk=>A.pu (Ym .eql false [Es,(.int .i8 1)] σ) k) λEw=>
 A.gr kD false (λk=>A.pu (qM [Ew] σ) k) λmO=>
 A.gr mO true (λk=>A.pu (qM [x1] σ) k) λEA=>
 A.gr mO true (λk=>A.pu (Xl [EA] σ) k) λEB=>
 A.gr mO true (λk=>A.pu (Xb 3 [EB] σ) k) λEE=>
 A.gl mO true (λk=>A.dr (Qe false 1 [EE] σ) σ k) σ λEH l36 σ=>
 A.gr mO true (λk=>A.pu (tH .not [EH] σ) k) λEJ=>
 A.gr kD false (λk=>A.pu (Zo [mO,EJ,(.bool false)] σ) k) λEL=>
 A.pu (Zo [kD,(.bool true),EL] σ) λEO=>
 A.gd (Zj [[],[0],[0,1],[],[0,1,2,3],[0,1,2,3,4],[0,1,2,3,4,5],[0,1,2,3,4,5,6],[0,1,2,3,4,5,6,7],[0,1,2,3,4,5,6,7,8],[0,1,2,3,4,5,6,7,8,9],[0,1,2,3,4,5,6,7,8,9,10],[0,1,2,3,4,5,6,7,8,9,10,11],[0,1,2,3,4,5,6,7,8,9,10,11,12],[0,1,2,3,4,5,6,7,8,9,10,11,12,13],[0,1,2,3,4,5,6,7,8,9,10,11,12,13,14],[0,1,2,3,4,5,6,7,8,9,10,11,12,13,14,15],[0,1,2,3,4,5,6,7,8,9,10,11,12,13,14,15,16],[0,1,2,3,4,5,6,7,8,9,10,11,12,13,14,15,16,17],[0,1,2,3,4,5,6,7,8,9,10,11,12,13,14,15,16,17,18],[0,1,2,3,4,5,6,7,8,9,10,11,12,13,14,15,16,17,18,19]] [([],[]),([],[]),l19,l21,l23,([],[]),([],[]),([],[]),([],[]),([],[]),l29,([],[]),([],[]),([],[]),([],[]),([],[]),l36,([],[]),([],[]),([],[]),([],[])]) <|
 A.test EO (
 A.wr (Yj 1 [xS,.dp] σ) σ λ_ σ=>
 A.wr (Yj 1 [xT,(.int .i64 170)] σ) σ λ_ σ=>
 R [xS,xT] σ) (
 A.rd (Xb 0 [Fp] σ) λEP=>
 A.rd (Qe false 1 [EP] σ) λEU=>
 A.rd (Ym .lss false [EU,(.int .i64 0)] σ) λqt=>
 A.gr qt false (λk=>A.rd (Xb 0 [Fp] σ) k) λE0=>
 A.gr qt false (λk=>A.rd (Qe false 1 [E0] σ) k) λE3=>
 A.gr qt false (λk=>A.rd (Ym .gtr false [E3,(.int .i64 1)] σ) k) λE5=>
 A.rd (Zo [qt,(.bool true),E5] σ) λE7=>
 A.test E7 (
 A.wr (Yj 1 [xS,.dp] σ) σ λ_ σ=>
 A.wr (Yj 1 [xT,(.int .i64 2)] σ) σ λ_ σ=>
 R [xS,xT] σ) (
 K [x0,x1,x3,Fp,xS,xT] σ)))
def k1:Code→Code
 |.seq a _=>a
 |c=>c
def k2:Code→Code
 |.seq _ b=>b
 |c=>c
def Lb:Code→Array Oper
 |.region _ ops _=>ops
 |_=>#[]
def b81(P:Program):Code:=match P.funcs[132]? with
 |some f=>f.body.getD .skip
 |none=>.skip
def Is(P:Program):Code:=k1 (b81 P)
def HY(P:Program):Code:=k1 (k2 (b81 P))
def HD(P:Program):Code:=k1 (k2 (k2 (b81 P)))
def IU(P:Program):Code:=k1 (k2 (k2 (k2 (b81 P))))
def sJ(P:Program):Array Oper:=Lb (k1 (k2 (k2 (k2 (k2 (b81 P))))))
def pO(P:Program):Array Oper:=Lb (k1 (k2 (k2 (k2 (k2 (k2 (b81 P)))))))
theorem Zek:Go.Proofs.Tryz.f132.body=some (.seq (Is prog) (.seq (HY prog) (.seq (HD prog) (.seq (IU prog) (.seq (.region 8 (sJ prog) false) (.seq (.region 9 (pO prog) false) .ret)))))):=by kernel_rfl
def mh(P:Program)(c:Code):dd:=(Qy P aG 62 c).getD .skip
theorem Oh{c:Code}(h:(Qy prog aG 62 c).isSome=true):cD prog aG 62 c (mh prog c):=by
 unfold mh;cases e:Qy prog aG 62 c with
 |none=>rw[e]at h;cases h
 |some m=>exact Xbc e
theorem Jd:cD prog aG 62 (Is prog) (mh prog (Is prog)):=Oh (by kernel_rfl)
theorem Je:cD prog aG 62 (HY prog) (mh prog (HY prog)):=Oh (by kernel_rfl)
theorem Jf:cD prog aG 62 (HD prog) (mh prog (HD prog)):=Oh (by kernel_rfl)
theorem Jg:cD prog aG 62 (IU prog) (mh prog (IU prog)):=Oh (by kernel_rfl)
def Oq(P:Program):bK:=(fW (mh P (Is P)) []).1
def N6(P:Program):bK:=(fW (mh P (HY P)) []).1
def NG(P:Program):bK:=(fW (mh P (HD P)) [some []]).1
def M9(P:Program):bK:=(fW (mh P (IU P)) [none,none,none]).1
theorem Yel:(Oq prog).ok=true:=by kernel_rfl
theorem Xel:(N6 prog).ok=true:=by kernel_rfl
theorem Qel:(NG prog).ok=true:=by kernel_rfl
theorem Zem:(M9 prog).ok=true:=by kernel_rfl
theorem XdQ(x0 x1 x2 x3:aa)(α:Type)(A:aF α)(σ:List ab)(K R:List aa→List ab→α) :
  dn A (Oq prog) (eO [x0,x1,x2,x3]) σ (λρ σ=>dn A (N6 prog) ρ σ (λρ σ=>dn A (NG prog) ρ σ (λρ σ=>dn A (M9 prog) ρ σ (λρ σ=>K (iB ρ [0,1,3,6,8,9]) σ)
   (λ_ _ _=>A.stop) (λρ σ=>R (iB ρ [8,9]) σ)) (λ_ _ _=>A.stop) (λρ σ=>R (iB ρ [8,9]) σ)) (λ_ _ _=>A.stop) (λρ σ=>R (iB ρ [8,9]) σ)) (λ_ _ _=>A.stop) (λρ σ=>R (iB ρ [8,9]) σ)
  = ui A x0 x1 x2 x3 σ K R:=by kernel_rfl
attribute [local irreducible] aF.rd aF.pu aF.wr aF.dr aF.gr aF.gw aF.gl aF.gd aF.opt cI W
set_option maxHeartbeats 8000000
theorem Xbl{e:Int}{b:Bk}{s:St}(h:aO e b s true=true)(hp:s.phase=1):s.bV=true:=by
 simp only[aO,AI]at h;obtain⟨_,_,_,_,_,_,_,_,_,_,_,_,_,h⟩:=h;rw[aE (by simp[hp])]at h;simp only[AI]at h;exact h.2.1
theorem Xb8{e:Int}{b:Bk}{s:St}(h:aO e b s true=true)(hp:s.phase=1)(ha:s.ao.length=0):aO e b { s with phase:=0 } false=true:=by
 simp only[aO,AI]at h ⊢;obtain⟨a1,a2,a3,a4,a5,a6,a7,a8,a9,b1,b2,b3,b4,h⟩:=h;refine⟨a1,a2,a3,a4,a5,by simp,by simp,a8,a9,?_,b2,b3,b4,?_⟩
 ·rw[hp]at b1;exact b1
 ·rw[aJ (by simp)];simp[ha]
theorem RY{e:Int}{b:Bk}{s:St}(h:aO e b s true=true)(hp:s.phase=1→s.ao.length≠0):aO e b s false=true:=by
 simp only[aO,AI]at h ⊢;obtain⟨a1,a2,a3,a4,a5,a6,a7,a8,a9,b1,b2,b3,b4,h⟩:=h;refine⟨a1,a2,a3,a4,a5,a6,a7,a8,a9,b1,b2,b3,b4,?_⟩;split at h
 ·rename_i q;rw[aJ q];exact h
 ·rename_i q;rw[aE q];simp only[AI]at h ⊢;exact⟨by simp[hp (by simpa using q)],h.2⟩
theorem XbG(b:Bk)(hf:a_ b=true)(bY:Yg b.ai)(s:St)(hs:bd 1000000000 s)(hm:aO (bz b).1 b s true=true)(sd tg:Int)(h0:0<=sd)(h1:sd<=1)(v:aa){K R:mC}
 (hK:∀z,K [.aq (cy b) 0,.aq (aI s) 0,v,.ak 0 0,.ak 1 0,.ak 2 0] [.box [iv sd,iv tg],.box [.dp],.box [iv 0],.box z]) :
  ui VV (.aq (cy b) 0) (.aq (aI s) 0) (.agg [iv sd,iv tg]) (v) [] K R:=by
 unfold ui;refine ay ?_;refine Su (v1:=.ak 3 5) (v2:=aP s.ao) (v3:=iv s.ao.length) (d:=((s.ao.length:Int)==0)) (q3:=[]) rfl (ld (row:=aI s) rfl rfl) (by simp[aP,Qn]) rfl ?_;refine Qg λk' ek=>?_;have ny:∀t:St,aO (bz b).1 b t false=true→bd 1000000000 t→k' [] [.box [iv sd,iv tg],.box [.dp],.box [iv 0],.box (aI t)]:=by
  intro t ht KU;have zk:=c55 b hf bY t KU;rw[ht]at zk;subst ek;refine ay ?_;refine Y9 zk g43.ok ?_;refine ay ?_;refine YcK ?_;refine ay ?_;rcases cA (s.phase==1)with h|h
  ·rw[h];refine ay ?_;refine YcK ?_;refine ay ?_;rw[Xbl hm (by simpa using h)];refine ay ?_;rw[show decide (sd<0)=false from gm (by omega)];refine Qa (Za rfl (Qa (Za (ld (row:=[iv sd,iv tg]) (v:=iv sd) rfl rfl) (Qa (Za (v:=.bool (decide (sd>1))) rfl ?_)))));rw[show decide (sd>1)=false from gm (by omega)];exact Za rfl (Ye (hK _))
  ·rw[h];refine ay ?_;refine XdU rfl ?_;refine ay ?_;rw[show decide (sd<0)=false from gm (by omega)];refine Qa (Za rfl (Qa (Za (ld (row:=[iv sd,iv tg]) (v:=iv sd) rfl rfl) (Qa (Za (v:=.bool (decide (sd>1))) rfl ?_)))));rw[show decide (sd>1)=false from gm (by omega)];exact Za rfl (Ye (hK _))
 rcases cA ((s.phase==1)&&((s.ao.length:Int)==0))with hq|hq
 ·rw[hq];simp only[AI,beq_iff_eq]at hq;exact ay (ny { s with phase:=0 } (Xb8 hm hq.1 (by omega)) ⟨hs.ao,hs.s0,hs.s1⟩)
 ·rw[hq];exact Ye (ny s (RY hm (λhp e=>by simp[hp,e]at hq)) hs)
end Go.Ah.Tz
end
section
namespace Go.Ah.Tz
open Go.Proofs.Tryz (prog)
set_option maxRecDepth 100000
set_option maxHeartbeats 4000000
theorem zZ(p q:Value)(w:World):CallsD prog 179 #[p,q] .returning w λe u' w'=>e=.returned (.tuple #[])∧u'=.returning∧w'=w:=by
 refine callsD_of_wpS Go.Proofs.Tryz.func179 rfl λc₀ cs hu=>?_;apply wpS_seq;apply wpS_region;simp[wpOpsS,go_sem,recoverD,hu,Go.Proofs.Tryz.ntmps179,Exit.thenS];refine wpS_cond (t:=false) (by simp[Act.eval,zDb,Array.replicate]) ?_;simp only[zAS,if_false];refine wpS_of_wp (wp_skip ?_);cases c₀;simp_all [bodyPostS,results,zDb,Go.Proofs.Tryz.results179]
def km(l:Program→Array Oper)(i:Nat)(P:Program):Oper:=((l P)[i]?).getD default
theorem LD:(sJ prog).size=2:=by kernel_rfl
theorem LF:(pO prog).size=9:=by kernel_rfl
theorem Nb:(sJ prog)[0]?=some (km sJ 0 prog)∧(km sJ 0 prog).op=.makeFunc (.func 179) #[] #[.tmp 8,.tmp 9]∧(km sJ 0 prog).dst=some 54∧(km sJ 0 prog).guard=none:=⟨by kernel_rfl,by kernel_rfl,by kernel_rfl,by kernel_rfl⟩
theorem Ou:(sJ prog)[1]?=some (km sJ 1 prog)∧(km sJ 1 prog).op=.defer ⟨.value (.tmp 54),#[],#[]⟩∧(km sJ 1 prog).dst=none∧(km sJ 1 prog).guard=none:=⟨by kernel_rfl,by kernel_rfl,by kernel_rfl,by kernel_rfl⟩
theorem N7:(pO prog)[6]?=some (km pO 6 prog)∧(∃ts,(km pO 6 prog).op=.call ⟨.invoke (.tmp 55) "baize/value.ask",#[.tmp 60],ts⟩)∧(km pO 6 prog).dst=some 61∧(km pO 6 prog).guard=none:=⟨by kernel_rfl,⟨match (km pO 6 prog).op with | .call c=>c.argTypes|_=>#[],by kernel_rfl⟩,by kernel_rfl,by kernel_rfl⟩
theorem CF(v:Value)(args:Array Value)(w:World):(callMethod (.iface 209 v) "baize/value.ask" args).run prog w=.ok (.enter 260 (#[v]++args)) w:=by kernel_rfl
theorem CH(v:Value)(args:Array Value)(w:World):(callMethod (.iface 213 v) "baize/value.ask" args).run prog w=.ok (.enter 279 (#[v]++args)) w:=by kernel_rfl
def Hg(P:Program):List aM:=(mapM' (HG P aG 62 (pO P).toList) ((pO P).toList.take 6)).getD []
def Hh(P:Program):List aM:=(mapM' (HG P aG 62 (pO P).toList) ((pO P).toList.drop 7)).getD []
theorem Zdn:(Hg prog).length=6:=by kernel_rfl
theorem Ydn:(Hh prog).length=2:=by kernel_rfl
theorem Yb5{α:Type}{o:Option (List α)}{n:Nat}(h:(o.getD []).length=n+1):o=some (o.getD []):=by
 cases o with
 |none=>cases h
 |some a=>rfl
theorem Xev(j:Nat)(m:aM)(e:(Hg prog)[j]?=some m):∃o,(pO prog)[0+j]?=some o∧gf prog aG 62 (pO prog) o m:=by
 obtain⟨h1,h2⟩:=Nr (Yb5 (n:=5) Zdn);obtain⟨o,k1,k2⟩:=h2 j m e;refine⟨o,?_,Ry k2⟩;rw[List.getElem?_take]at k1;split at k1
 ·simpa using k1
 ·cases k1
theorem Qev(j:Nat)(m:aM)(e:(Hh prog)[j]?=some m):∃o,(pO prog)[7+j]?=some o∧gf prog aG 62 (pO prog) o m:=by
 obtain⟨h1,h2⟩:=Nr (Yb5 (n:=1) Ydn);obtain⟨o,k1,k2⟩:=h2 j m e;refine⟨o,?_,Ry k2⟩;rw[List.getElem?_drop]at k1;simpa using k1
theorem d9a(x0 x1 x3 t6 t8 t9 f:aa)(α:Type)(A:aF α)(σ:List ab)(K:List aa→List ab→α) :
  js A (Hg prog) [(54,f),(0,x0),(1,x1),(3,x3),(6,t6),(8,t8),(9,t9)] σ (λρ σ=>K (iB ρ [55,60,8,9]) σ) =
  A.rd (Qe true 2 [t6] σ) λt58=>A.rd (QM [.fj,.fj,.int .i64 0,.int .i64 0] [(0,1),(1,1),(2,2)] [x0,x1,t58] σ) λt59=>A.wr (tL [t59] σ) σ λt60 σ=>K [x3,t60,t8,t9] σ:=by kernel_rfl
theorem d9b(t55 t60 t8 t9 y:aa)(α:Type)(A:aF α)(σ:List ab)(K:List aa→List ab→α) :
  js A (Hh prog) [(61,y),(55,t55),(60,t60),(8,t8),(9,t9)] σ (λρ σ=>K (iB ρ [8,9]) σ) =
  A.wr (Yj 1 [t8,y] σ) σ λ_ σ=>A.wr (Yj 1 [t9,.int .i64 0] σ) σ λ_ σ=>K [t8,t9] σ:=by kernel_rfl
theorem r81:lL (sF prog) Go.Proofs.Tryz.f132.results.toList [.c 8 false 1,.c 9 false 1]:=NY (f:=Rk prog) Xbz (by kernel_rfl)
theorem n81:Go.Proofs.Tryz.f132.ntmps=62:=by kernel_rfl
theorem R1{P:Program}{ops:Array Oper}{Q:Exit→Act→World→Prop}{i:Nat}{rest:List Nat}{a:Act}{w:World}{o:Oper}(ho:ops[i]?=some o)(hg:o.guard=none)(h:o.wp P a w (wpOps P ops Q rest) Q):wpOps P ops Q (i::rest) a w:=by
 simp_all [wpOps,Region.wanted]
def B2(K R:Frame→List ab→Prop):eD
 |.normal,ρ,σ=>K ρ σ
 |.ret,ρ,σ=>R ρ σ
 |.exit _,_,_=>False
theorem piece{n:Nat}(m:bK)(hm:m.ok=true){ρ:Frame}{σ:List ab}{K R:Frame→List ab→Prop}(h:dn VV m ρ σ K (λ_ _ _=>VV.stop) R):iR prog aG n m.er ρ σ (B2 K R):=
 YX hP (y0 prog aG) m (Q:=B2 K R) hm (λ_ _ _ h=>h) (λ_ _ _ _ h=>h) (λ_ _ _ h=>h) h
theorem Jc(bk st:List aa)(sd tg:Int)(ty:TypeId)(fn:FuncId)(m_:List aa)(j:Nat)(y:aa)(hyf:y.flat=true)(hyr:y.ro=true)(hyc:cellsOf y=some [y])
 (aat:∀(v:Value) (args:Array Value) (w:World),(callMethod (.iface ty v) "baize/value.ask" args).run prog w=.ok (.enter fn (#[v]++args)) w)
 (hw:ui VV (.aq bk 0) (.aq st 0) (.agg [iv sd,iv tg]) (.iface ty (.agg [.aq m_ j])) [] (λvs σ=>vs=[.aq bk 0,.aq st 0,.iface ty (.agg [.aq m_ j]),.ak 0 0,.ak 1 0,.ak 2 0]∧∃z,σ=[.box [iv sd,iv tg],.box [.dp],.box [iv 0],.box z]) (λ_ _=>False))
 (h289:PC fn [.agg [.aq m_ j],.aq [.aq bk 0,.aq st 0,iv sd,iv tg] 0] y) :
  PC 132 [.aq bk 0,.aq st 0,.agg [iv sd,iv tg],.iface ty (.agg [.aq m_ j])] (.bp [y,iv 0]):=by
 intro w M vs hM hg hx;have r0:=bx.start (GL:=aG) w M hM hg;have hh:hp []=oQ:=by funext b;simp[hp,oQ]
 rw[←hh]at r0;have d0:=X3 hx (n:=62) (by simp);refine calls_of_wp_defers Go.Proofs.Tryz.func132 Zek ?_;rw[n81];rw[←XdQ]at hw;have e0:(Oq prog).er=mh prog (Is prog):=ZP _ _;have e1:(N6 prog).er=mh prog (HY prog):=ZP _ _;have e2:(NG prog).er=mh prog (HD prog):=ZP _ _;have e3:(M9 prog).er=mh prog (IU prog):=ZP _ _;refine MJ (e0▸Jd) r0 d0 (piece (Oq prog) Yel hw) (λg1 ρ1 σ1 a1 w1 l1 r1 d1 O5=>?_) (λ_ _ _ h=>h) (λ_ _ _ _ _ _ _ _ h=>zDJ h);refine MJ (e1▸Je) r1 d1 (piece (N6 prog) Xel O5) (λg2 ρ2 σ2 a2 w2 l2 r2 d2 hw2=>?_) (λ_ _ _ h=>h) (λ_ _ _ _ _ _ _ _ h=>zDJ h);refine MJ (e2▸Jf) r2 d2 (piece (NG prog) Qel hw2) (λg9993 ρ3 σ3 a3 w3 l3 r3 d3 hw3=>?_) (λ_ _ _ h=>h) (λ_ _ _ _ _ _ _ _ h=>zDJ h);refine MJ (e3▸Jg) r3 d3 (piece (M9 prog) Zem hw3) (λg9994 ρ4 σ4 a4 w4 l4 r4 d4 hw4=>?_) (λ_ _ _ h=>h) (λ_ _ _ _ _ _ _ _ h=>zDJ h);obtain⟨hv,z,hσ⟩:=hw4;subst hσ;simp only[iB,zCL,and_true]at hv;obtain⟨q0,q1,q3,q6,q8,q9⟩:=hv;have d5:cR 62 g9994 [(0,.aq bk 0),(1,.aq st 0),(3,.iface ty (.agg [.aq m_ j])),(6,.ak 0 0),(8,.ak 1 0),(9,.ak 2 0)] a4:=d4.dY (Gw.le ⟨q0,q1,q3,q6,q8,q9,trivial⟩);clear d4;have le4:=((l1.trans l2).trans l3).trans l4;have k8:g9994.den (.ak 1 0) (a4.tmps.getD 8 undef):=d5.slot 8;have k9:g9994.den (.ak 2 0) (a4.tmps.getD 9 undef):=d5.slot 9;generalize hp8:a4.tmps.getD 8 undef=p8 at k8;generalize hp9:a4.tmps.getD 9 undef=p9 at k9;refine wp_seq (wp_region ?_);rw[LD,show zAC 2=[0,1] from rfl];refine R1 Nb.1 Nb.2.2.2 ?_;unfold zEA;have hmf:∀(fn:Fn) (first cap:Array Value) (w:World),(Instr.makeFunc fn first cap).run prog w=.ok (.func fn first cap) w:=λ_ _ _ _=>rfl;have VF:(execOp a4.eval (km sJ 0 prog)).run prog w4=.ok (.value (.func (.func 179) #[] #[p8,p9])) w4:=by
  simp_all [execOp,Act.eval,Nb]
 rw[VF,Oper.upon_value,Nb.2.2.1];have T3:g9994.den (.func (.func 179) [] [.ak 1 0,.ak 2 0]) (.func (.func 179) #[] #[p8,p9]):=by
  refine .func _ _ _ _ _ _ rfl rfl (by simp) (λi x u e1 e2=>?_)
  match i with
  |0=>simp at e1 e2;subst e1;subst e2;exact k8
  |1=>simp at e1 e2;subst e1;subst e2;exact k9
  |i+2=>simp at e1
 have d6:=d5.put (d:=54) (by decide) T3;generalize TV:a4.put (some 54) (.func (.func 179) #[] #[p8,p9])=a5 at d6 ⊢;have h54:a5.tmps.getD 54 undef=.func (.func 179) #[] #[p8,p9]:=by
  rw[←TV];have eL:=d5.size;simp[zDb,Array.getD,eL]
 refine R1 Ou.1 Ou.2.2.2 ?_;unfold zEA;have cm:(execOp a5.eval (km sJ 1 prog)).run prog w4=.ok (.defer { target:=.fn (.func 179) #[p8,p9],args:=#[] }) w4:=by
  grind [execOp,resolve,Act.eval,Deferred.ofValue,Ou,zAA]
 rw[cm,Oper.upon_defer,Ou.2.2.1];have Un:({ a5 with defers:={ target:=.fn (.func 179) #[p8,p9],args:=#[] }::a5.defers }:Act).put none undef=mJ [{ target:=.fn (.func 179) #[p8,p9],args:=#[] }] a5:=by
  simp[zDb,mJ,d6.defers]
 rw[Un];show wpOps prog (sJ prog) _ [] _ w4;simp only[wpOps];refine wp_seq (wp_region ?_);rw[LF,show zAC 9=zBG 0 6++(6::zBG 7 2) from rfl];have Vd:js VV (Hg prog) [(54,.func (.func 179) [] [.ak 1 0,.ak 2 0]),(0,.aq bk 0),(1,.aq st 0),(3,.iface ty (.agg [.aq m_ j])),(6,.ak 0 0),(8,.ak 1 0),(9,.ak 2 0)] [.box [iv sd,iv tg],.box [.dp],.box [iv 0],.box z]
   (λρ σ=>iB ρ [55,60,8,9]=[.iface ty (.agg [.aq m_ j]),.ak 4 0,.ak 1 0,.ak 2 0]∧σ=[.box [iv sd,iv tg],.box [.dp],.box [iv 0],.box z,.box [.aq bk 0,.aq st 0,iv sd,iv tg]]):=by
  have:=d9a (.aq bk 0) (.aq st 0) (.iface ty (.agg [.aq m_ j])) (.ak 0 0) (.ak 1 0) (.ak 2 0) (.func (.func 179) [] [.ak 1 0,.ak 2 0]) Prop VV [.box [iv sd,iv tg],.box [.dp],.box [iv 0],.box z]
   (λvs σ=>vs=[.iface ty (.agg [.aq m_ j]),.ak 4 0,.ak 1 0,.ak 2 0]∧σ=[.box [iv sd,iv tg],.box [.dp],.box [iv 0],.box z,.box [.aq bk 0,.aq st 0,iv sd,iv tg]])
  rw[this];exact Za (ld (row:=[iv sd,iv tg]) rfl rfl) (Za rfl (Yd rfl rfl ⟨rfl,rfl⟩))
 have Ve:=YQ (y0 prog aG) (fl:=false) (lg:=[]) (λe=>by cases e) Vd;have hlen:zBG 0 6=zBG 0 (Hg prog).length:=by rw[Zdn]
 rw[hlen];refine SG (P:=prog) (Q:=λe a w'=>e=.normal∧yK aG w ⟨[],M⟩ 62 g9994 (λρ σ _=>iB ρ [55,60,8,9]=[.iface ty (.agg [.aq m_ j]),.ak 4 0,.ak 1 0,.ak 2 0]∧σ=[.box [iv sd,iv tg],.box [.dp],.box [iv 0],.box z,.box [.aq bk 0,.aq st 0,iv sd,iv tg]]) a w') _ _ (λa6 w6 hq=>?_) (λe a w cO hq=>(cO hq.1).elim) _ a5 w4
  (MR _ _ (Hg prog) 0 _ _ [] g9994 a5 w4 Xev Ve r4 d6 (λa' w' hl=>⟨rfl,?_⟩))
 ·obtain⟨_,g9995,ρ5,σ5,lg5,l5,r5,d5',hv5,U4⟩:=hq;subst U4;simp only[iB,zCL,and_true]at hv5;obtain⟨q55,q60,q8',q9'⟩:=hv5;have d7:cR 62 g9995 [(55,.iface ty (.agg [.aq m_ j])),(60,.ak 4 0),(8,.ak 1 0),(9,.ak 2 0)] a6:=d5'.dY (Gw.le ⟨q55,q60,q8',q9',trivial⟩);refine R1 N7.1 N7.2.2.2 ?_;unfold zEA;rw[PE];have k55:=d7.slot 55;have k60:=d7.slot 60;simp only[bL]at k55 k60;obtain⟨ts,hY⟩:=N7.2.1;generalize UK:a6.tmps.getD 55 undef=p55 at k55;generalize UL:a6.tmps.getD 60 undef=p60 at k60;have U_:g9995.den (.iface ty (.agg [.aq m_ j])) p55:=k55;have U':g9995.den (.ak 4 0) p60:=k60;cases U_ with
  |iface _ _ _ vv KY=>
  have e60:a6.eval (.tmp 60)=p60:=UL;have VG:(execOp a6.eval (km pO 6 prog)).run prog w6=.ok (.enter fn #[vv,p60]) w6:=by
   have e55:a6.eval (.tmp 55)=.iface ty vv:=UK;simp only[execOp,hY,resolve,e55,Sem.run_bind,zAA,Result.andThen_ok,invoke];simp_all
  rw[VG,Oper.upon_enter];have sS:Zy [.box [iv sd,iv tg],.box [.dp],.box [iv 0],.box z,.box [.aq bk 0,.aq st 0,iv sd,iv tg]] 1000 [.agg [.aq m_ j],.ak 4 0]=some ([.agg [.aq m_ j],.aq [.aq bk 0,.aq st 0,iv sd,iv tg] 0],[4]):=rfl;have ac:=h289.qk (Q2 _ _ _ _ sS _ (λ_ q=>q)) hyf;refine zDN (ac w ⟨[],M⟩ g9995 _ w6 [vv,p60] r5 ⟨KY,U',trivial⟩ (λ_ _=>rfl) (λ_ h=>by cases h)) ?_;rintro e w7 ⟨u,rfl,g9996,l6,r6,hu⟩;show wpOps prog (pO prog) _ (zBG 7 2) ((mJ _ a6).put (km pO 6 prog).dst u) w7;rw[N7.2.2.1,Cy];have d8:=(d7.mono l6).put (d:=61) (by decide) hu;have Vf:js VV (Hh prog) [(61,y),(55,.iface ty (.agg [.aq m_ j])),(60,.ak 4 0),(8,.ak 1 0),(9,.ak 2 0)] [.box [iv sd,iv tg],.box [.dp],.box [iv 0],.box z,.box [.aq bk 0,.aq st 0,iv sd,iv tg]]
    (λρ σ=>iB ρ [8,9]=[.ak 1 0,.ak 2 0]∧σ=[.box [iv sd,iv tg],.box [y],.box [iv 0],.box z,.box [.aq bk 0,.aq st 0,iv sd,iv tg]]):=by
   have:=d9b (.iface ty (.agg [.aq m_ j])) (.ak 4 0) (.ak 1 0) (.ak 2 0) y Prop VV [.box [iv sd,iv tg],.box [.dp],.box [iv 0],.box z,.box [.aq bk 0,.aq st 0,iv sd,iv tg]]
    (λvs σ=>vs=[.ak 1 0,.ak 2 0]∧σ=[.box [iv sd,iv tg],.box [y],.box [iv 0],.box z,.box [.aq bk 0,.aq st 0,iv sd,iv tg]])
   rw[this];exact Yd (cX (row:=[.dp]) rfl hyc rfl rfl) rfl (Yd (v:=.aQ) (up:=[(2,.box [iv 0])]) (rd:=[]) rfl rfl ⟨rfl,rfl⟩)
  have Vg:=YQ (y0 prog aG) (fl:=false) (lg:=[]) (λe=>by cases e) Vf;rw[show zBG 7 2=zBG 7 (Hh prog).length++[] by rw[Ydn];rfl];refine SG (P:=prog) (Q:=λe a w'=>e=.normal∧yK aG w ⟨[],M⟩ 62 g9996 (λρ σ _=>iB ρ [8,9]=[.ak 1 0,.ak 2 0]∧σ=[.box [iv sd,iv tg],.box [y],.box [iv 0],.box z,.box [.aq bk 0,.aq st 0,iv sd,iv tg]]) a w') _ _ (λa8 w8 hq=>?_) (λe a w cO hq=>(cO hq.1).elim) _ _ w7
   (MR _ _ (Hh prog) 7 _ _ [] g9996 _ w7 Qev Vg r6 d8 (λa' w' hl=>⟨rfl,?_⟩))
  ·obtain⟨_,g9997,ρ7,σ7,lg7,l7,r7,d9,hv7,U5⟩:=hq;subst U5;simp only[iB,zCL,and_true]at hv7;simp only[wpOps];refine wp_ret ?_;show Leaves prog Go.Proofs.Tryz.f132 a8.tmps _ (a8.defers++[{ target:=.fn (.func 179) #[p8,p9],args:=#[] }]) .returning w8;rw[d9.defers];refine leaves_cons (f:=179) (args:=#[p8,p9]) (by simp) (by rfl) ((zZ p8 p9 w8).mono ?_);rintro e u' w9 ⟨rfl,rfl,rfl⟩;have oH:iE [.c 8 false 1,.c 9 false 1] ρ7 [.box [iv sd,iv tg],.box [y],.box [iv 0],.box z,.box [.aq bk 0,.aq st 0,iv sd,iv tg]]=some (.bp [y,iv 0]):=by
    simp_all [iE,oT,rY,pL]
   obtain⟨uo,OS,OU⟩:=GN (P:=prog) r7 d9 r81 oH;refine⟨uo,OS,uo,rfl,r7.keeps,g9997.M,?_,r7.aX,λb o e=>?_,Den.ro OU (by simp[aa.ro,ga,hyr]) _⟩
   ·exact(le4.trans (l5.trans (l6.trans l7))).m
   ·rcases r7.src b o e with q|q|q<;>grind
  ·obtain⟨g',ρ',σ',jF,k1,k2,k3,k4,_⟩:=hl;exact⟨g',ρ',σ',jF,k1,k2,k3,k4⟩
 ·obtain⟨g',ρ',σ',jF,k1,k2,k3,k4,_⟩:=hl;exact⟨g',ρ',σ',jF,k1,k2,k3,k4⟩
theorem c81(b:Bk)(hf:a_ b=true)(bY:Yg b.ai)(s:St)(hs:bd 1000000000 s)(hm:aO (bz b).1 b s true=true)(sd tg:Int)(h0:0<=sd)(h1:sd<=1)(m_:List aa)(j:Nat)(n:Int)
 (h289:PC 260 [.agg [.aq m_ j],.aq [.aq (cy b) 0,.aq (aI s) 0,iv sd,iv tg] 0] (.iface 3 (iv n))) :
  PC 132 [.aq (cy b) 0,.aq (aI s) 0,.agg [iv sd,iv tg],.iface 209 (.agg [.aq m_ j])] (.bp [.iface 3 (iv n),iv 0]):=
 Jc (cy b) (aI s) sd tg 209 260 m_ j (.iface 3 (iv n)) rfl rfl rfl CF (XbG b hf bY s hs hm sd tg h0 h1 (.iface 209 (.agg [.aq m_ j])) λz=>⟨rfl,z,rfl⟩) h289
theorem Tn(b:Bk)(hf:a_ b=true)(bY:Yg b.ai)(s:St)(hs:bd 1000000000 s)(hm:aO (bz b).1 b s true=true)(sd tg:Int)(h0:0<=sd)(h1:sd<=1)(m_:List aa)(j:Nat)(q:Bool)
 (h289:PC 279 [.agg [.aq m_ j],.aq [.aq (cy b) 0,.aq (aI s) 0,iv sd,iv tg] 0] (.iface 4 (.bool q))) :
  PC 132 [.aq (cy b) 0,.aq (aI s) 0,.agg [iv sd,iv tg],.iface 213 (.agg [.aq m_ j])] (.bp [.iface 4 (.bool q),iv 0]):=
 Jc (cy b) (aI s) sd tg 213 279 m_ j (.iface 4 (.bool q)) rfl rfl rfl CH (XbG b hf bY s hs hm sd tg h0 h1 (.iface 213 (.agg [.aq m_ j])) λz=>⟨rfl,z,rfl⟩) h289
attribute [local irreducible] aF.rd aF.pu aF.wr aF.dr aF.gr aF.gw aF.gl aF.gd aF.opt cI W
def pc(n:Int):Int:=min (max n (-1000000)) 1000000
theorem c290(n:Int):PC 261 [iv n] (iv (pc n)):=by
 refine Xa hP g261.ok rfl rfl ?_;rw[H1.e];unfold g261;dsimp only;exact ay rfl
@[reducible] def asR(b:Bk)(s:St)(sd tg:Int):List aa:=[.aq (cy b) 0,.aq (aI s) 0,iv sd,iv tg]
@[reducible] def qP(b:Bk)(s:St)(sd tg:Int):aa:=.aq (asR b s sd tg) 0
def bG(sd who:Int):Int:=if who=1 then 1-sd else sd
theorem c295(b:Bk)(s:St)(sd tg who:Int)(h0:0<=sd)(h1:sd<=1):PC 266 [qP b s sd tg,aN who] (.aq (aI s) (bif bG sd who==0 then 7 else 15)):=by
 have hs:sd=0∨sd=1:=by omega
 refine Xa hP g266.ok rfl rfl ?_;rw[H2.e];unfold g266;dsimp only;refine Za (Ys ..) (Ya (λh=>?_) (λh=>?_))
 ·have h:who=1:=by simpa using h
  subst h;rcases hs with rfl|rfl
  ·refine ay ?_;rfl
  ·refine ay ?_;rfl
 ·have h:who≠1:=by simpa using h
  rcases hs with rfl|rfl
  ·refine ay ?_;simp[bG,h]
  ·refine ay ?_;simp[bG,h]
def iN(s:St)(k:Int):Sd:=if k=0 then s.s0 else s.s1
theorem Ib{sd who:Int}(h0:0<=sd)(h1:sd<=1):bG sd who=0∨bG sd who=1:=by unfold bG;split<;>omega
theorem c293(row:List aa)(j:Nat)(x:Nm)(hx:na row j x):PC 264 [.aq row j] (iv x.n):=by
 refine Xa hP g264.ok rfl rfl ?_;rw[H1.e];unfold g264;dsimp only;exact Za rfl (Za rfl (Za (bB hx.h1) rfl))
theorem c294(b:Bk)(s:St)(sd tg:Int)(h0:0<=sd)(h1:sd<=1)(row:List aa)(j:Nat)(x:Nm)(hx:na row j x):PC 265 [.aq row j,.aq [qP b s sd tg] 0] (iv (iN s (bG sd x.who)).aV):=by
 refine Xa hP g265.ok rfl rfl ?_;rw[H2.e];unfold g265;dsimp only;refine ay (Xf (bB hx.h2) rfl (Y9 (c295 b s sd tg x.who h0 h1) g266.ok ?_));rcases Ib (who:=x.who) h0 h1 with h|h
 ·rw[h];exact ay rfl
 ·rw[h];exact ay rfl
theorem c296(b:Bk)(s:St)(sd tg:Int)(h0:0<=sd)(h1:sd<=1)(row:List aa)(j:Nat)(x:Nm)(hx:na row j x):PC 267 [.aq row j,.aq [qP b s sd tg] 0] (iv (iN s (bG sd x.who)).hand.length):=by
 refine Xa hP g267.ok rfl rfl ?_;rw[H2.e];unfold g267;dsimp only;refine ay (Xf (bB hx.h2) rfl (Y9 (c295 b s sd tg x.who h0 h1) g266.ok ?_));rcases Ib (who:=x.who) h0 h1 with h|h
 ·rw[h];refine Zi rfl (Zi rfl (Xf (v:=aP s.s0.hand) (bB (row:=aI s) rfl) rfl (Zi (v:=iv s.s0.hand.length) (by simp[Qn]) (Zw (by kernel_rfl) rfl))))
 ·rw[h];refine Zi rfl (Zi rfl (Xf (v:=aP s.s1.hand) (bB (row:=aI s) rfl) rfl (Zi (v:=iv s.s1.hand.length) (by simp[Qn]) (Zw (by kernel_rfl) rfl))))
theorem c297(b:Bk)(s:St)(sd tg:Int)(h0:0<=sd)(h1:sd<=1)(row:List aa)(j:Nat)(x:Nm)(hx:na row j x):PC 268 [.aq row j,.aq [qP b s sd tg] 0] (iv (iN s (bG sd x.who)).az.length):=by
 refine Xa hP g268.ok rfl rfl ?_;rw[H2.e];unfold g268;dsimp only;refine ay (Xf (bB hx.h2) rfl (Y9 (c295 b s sd tg x.who h0 h1) g266.ok ?_));rcases Ib (who:=x.who) h0 h1 with h|h
 ·rw[h];refine Zi rfl (Zi rfl (Xf (v:=aP s.s0.az) (bB (row:=aI s) rfl) rfl (Zi (v:=iv s.s0.az.length) (by simp[Qn]) (Zw (by kernel_rfl) rfl))))
 ·rw[h];refine Zi rfl (Zi rfl (Xf (v:=aP s.s1.az) (bB (row:=aI s) rfl) rfl (Zi (v:=iv s.s1.az.length) (by simp[Qn]) (Zw (by kernel_rfl) rfl))))
theorem c298(b:Bk)(s:St)(sd tg:Int)(h0:0<=sd)(h1:sd<=1)(row:List aa)(j:Nat)(x:Nm)(hx:na row j x):PC 269 [.aq row j,.aq [qP b s sd tg] 0] (iv (iN s (bG sd x.who)).af.length):=by
 refine Xa hP g269.ok rfl rfl ?_;rw[H2.e];unfold g269;dsimp only;refine ay (Xf (bB hx.h2) rfl (Y9 (c295 b s sd tg x.who h0 h1) g266.ok ?_));rcases Ib (who:=x.who) h0 h1 with h|h
 ·rw[h];refine Zi rfl (Zi rfl (Xf (v:=gU s.s0.af) (bB (row:=aI s) rfl) rfl (Zi (v:=iv s.s0.af.length) (by simp[Qn]) (Zw (by kernel_rfl) rfl))))
 ·rw[h];refine Zi rfl (Zi rfl (Xf (v:=gU s.s1.af) (bB (row:=aI s) rfl) rfl (Zi (v:=iv s.s1.af.length) (by simp[Qn]) (Zw (by kernel_rfl) rfl))))
theorem c299(b:Bk)(s:St)(sd tg:Int)(h0:0<=sd)(h1:sd<=1)(y:aa):PC 270 [y,.aq [qP b s sd tg] 0] (iv (iN s sd).aT):=by
 refine Xa hP g270.ok rfl rfl ?_;rw[H2.e];unfold g270;dsimp only;refine ay (aY (c295 b s sd tg 0 h0 h1) g266.ok ?_);have hs:sd=0∨sd=1:=by omega
 rcases hs with rfl|rfl
 ·exact ay rfl
 ·exact ay rfl
def tD(b:Bk)(d:Sd):Int:=match d.az with
 |[]=>0
 |c::_=>match b.ai[c.toNat]? with
  |some k=>k.cost
  |none=>0
theorem c300(b:Bk)(s:St)(sd tg:Int)(h0:0<=sd)(h1:sd<=1)(hd:∀c∈(iN s sd).az,0<=c∧c.toNat<b.ai.length)(y:aa):PC 271 [y,.aq [qP b s sd tg] 0] (iv (tD b (iN s sd))):=by
 refine Xa hP g271.ok rfl rfl ?_;rw[H2.e];unfold g271;dsimp only;refine ay ?_;refine aY (c295 b s sd tg 0 h0 h1) g266.ok ?_;have go:∀(j:Nat),aK false (j+3) 1 (aI s)=some (aP (iN s sd).az)→∀t:aa,t=.aq (aI s) j →
   VV.rd (Xl [t] []) λVZ=>
   VV.rd (Xb 3 [VZ] []) λV1=>
   VV.rd (Qe false 1 [V1] []) λMk=>
   VV.rd (Qn [Mk] []) λLS=>
   VV.rd (Ym .gtr false [LS,(.int .i64 0)] []) λLZ=>
   VV.test LZ (
   VV.rd (Qe false 1 [.aq [qP b s sd tg] 0] []) λL4=>
   VV.rd (Xl [L4] []) λL8=>
   VV.rd (Xb 0 [L8] []) λMa=>
   VV.rd (Qe false 1 [Ma] []) λDN=>
   VV.rd (Xl [DN] []) λDP=>
   VV.rd (Xb 0 [DP] []) λDQ=>
   VV.rd (Qe false 1 [DQ] []) λDS=>
   VV.rd (Qh 1 [Mk,(.int .i64 0)] []) λDV=>
   VV.rd (Qe false 1 [DV] []) λDX=>
   VV.rd (Qh 12 [DS,DX] []) λtm=>
   VV.rd (Xb 2 [tm] []) λD0=>
   VV.rd (Qe false 1 [D0] []) λD3=>
   D3=iv (tD b (iN s sd))) (
   (aa.int .i64 0)=iv (tD b (iN s sd))):=by
  rintro j hj t rfl;refine Za rfl (Za rfl (Za (bB hj) (Za (v:=iv (iN s sd).az.length) (rd:=[]) (by simp[Qn]) (Za rfl ?_))));cases rj:(iN s sd).az with
  |nil=>refine Ya (λh=>by simp at h) (λ_=>?_);simp[tD,rj]
  |cons c l=>
   obtain⟨q1,q2⟩:=hd c (by rw[rj];simp);refine Ya (λ_=>?_) (λh=>by simp at h);refine ay ?_;refine Za (sH _ cL _ _ _ b.ai _ c q1 q2) ?_;refine ax ?_;simp[tD,rj,q2]
 have hs:sd=0∨sd=1:=by omega
 rcases hs with rfl|rfl
 ·exact go 7 rfl _ rfl
 ·exact go 15 rfl _ rfl
def R'(b:Bk)(s:St)(sd tg op n who:Int):Int:=
 if op=0 then n else if op=1 then (iN s (bG sd who)).aV else if op=2 then (iN s (bG sd who)).hand.length else if op=3 then (iN s (bG sd who)).az.length
 else if op=4 then (iN s (bG sd who)).af.length else if op=5 then (iN s sd).aT else if op=6 then tD b (iN s sd)else (mj b s tg).1
def vK(op y z:Int):Int:=if op=8 then y+z else if op=9 then y-z else if op=10 then y*z else if op=11 then min y z else max y z
def tN(op:Int):List Int→Int
 |y::z::_=>vK op y z
 |_=>0
mutual
def dO (b:Bk) (s:St) (sd tg:Int):Nm→Int
 |.mk op n who kids=>pc (if op<8 then R' b s sd tg op n who else tN op (kh b s sd tg kids))
def kh (b:Bk) (s:St) (sd tg:Int):List Nm→List Int
 |[]=>[]
 |x::l=>dO b s sd tg x::kh b s sd tg l
end
theorem Rn(b:Bk)(s:St)(sd tg:Int)(x:Nm):dO b s sd tg x=pc (if x.op<8 then R' b s sd tg x.op x.n x.who else tN x.op (kh b s sd tg x.kids)):=by cases x;rfl
theorem Xek(n:Int):-1000000<=pc n∧pc n<=1000000:=by unfold pc;omega
theorem GH(b:Bk)(s:St)(sd tg:Int)(x:Nm):-1000000<=dO b s sd tg x∧dO b s sd tg x<=1000000:=by rw[Rn];exact Xek _
theorem c302(y z:Int)(hy:-1000000<=y∧y<=1000000)(hz:-1000000<=z∧z<=1000000):PC 274 [iv y,iv z] (iv (y+z)):=by
 refine Xa hP g274.ok rfl rfl ?_;rw[H2.e];unfold g274;dsimp only;refine Za rfl ?_;rw[br (by omega) (by omega)]
theorem c303(y z:Int)(hy:-1000000<=y∧y<=1000000)(hz:-1000000<=z∧z<=1000000):PC 275 [iv y,iv z] (iv (y-z)):=by
 refine Xa hP g275.ok rfl rfl ?_;rw[H2.e];unfold g275;dsimp only;refine Za rfl ?_;rw[br (by omega) (by omega)]
theorem Xd0{y z:Int}(hy:-1000000<=y∧y<=1000000)(hz:-1000000<=z∧z<=1000000):-1000000000000<=y*z∧y*z<=1000000000000:=by
 have h1:(y*z).natAbs<=1000000*1000000:=by rw[Int.natAbs_mul];exact Nat.mul_le_mul (by omega) (by omega)
 omega
theorem c304(y z:Int)(hy:-1000000<=y∧y<=1000000)(hz:-1000000<=z∧z<=1000000):PC 276 [iv y,iv z] (iv (y*z)):=by
 refine Xa hP g276.ok rfl rfl ?_;rw[H2.e];unfold g276;dsimp only;refine Za rfl ?_;have:=Xd0 hy hz;rw[br (by omega) (by omega)]
theorem c305(y z:Int):PC 277 [iv y,iv z] (iv (min y z)):=by
 refine Xa hP g277.ok rfl rfl ?_;rw[H2.e];unfold g277;dsimp only;exact Za (Z1 ..) rfl
theorem c306(y z:Int):PC 278 [iv y,iv z] (iv (max y z)):=by
 refine Xa hP g278.ok rfl rfl ?_;rw[H2.e];unfold g278;dsimp only;exact Za (vA ..) rfl
theorem c301(b:Bk)(hf:a_ b=true)(bY:Yg b.ai)(s:St)(hs:bd 1000000000 s)(hm:aO (bz b).1 b s true=true)(sd tg:Int)(y:aa):PC 272 [y,.aq [qP b s sd tg] 0] (iv (mj b s tg).1):=by
 refine Xa hP g272.ok rfl rfl ?_;rw[H2.e];unfold g272;dsimp only;refine ay (Y9 (c54 b hf bY s hs hm tg) g273.ok ?_);exact ay rfl
@[reducible] def sO(b:Bk)(s:St)(sd tg:Int):aa:=.aq [qP b s sd tg] 0
@[reducible] def clA(b:Bk)(s:St)(sd tg:Int):aa:=.agg [.func (.func 264) [] [],.func (.func 265) [] [sO b s sd tg],.func (.func 267) [] [sO b s sd tg],.func (.func 268) [] [sO b s sd tg],.func (.func 269) [] [sO b s sd tg],.func (.func 270) [] [sO b s sd tg],.func (.func 271) [] [sO b s sd tg],.func (.func 272) [] [sO b s sd tg]]
theorem c291(b:Bk)(s:St)(sd tg:Int):PC 262 [qP b s sd tg] (clA b s sd tg):=by
 refine PH hP g262.ok rfl ⟨.agg [.func (.func 264) [] [],.func (.func 265) [] [.ak 0 0],.func (.func 267) [] [.ak 0 0],.func (.func 268) [] [.ak 0 0],.func (.func 269) [] [.ak 0 0],.func (.func 270) [] [.ak 0 0],.func (.func 271) [] [.ak 0 0],.func (.func 272) [] [.ak 0 0]],
  [.box [qP b s sd tg],.box [.func (.func 264) [] [],.func (.func 265) [] [.ak 0 0],.func (.func 267) [] [.ak 0 0],.func (.func 268) [] [.ak 0 0],.func (.func 269) [] [.ak 0 0],.func (.func 270) [] [.ak 0 0],.func (.func 271) [] [.ak 0 0],.func (.func 272) [] [.ak 0 0]]],rfl,?_⟩
 rw[H1.e];unfold g262;dsimp only;refine ay ?_;exact⟨rfl,rfl⟩
@[reducible] def clB:aa:=.agg [.func (.func 274) [] [],.func (.func 275) [] [],.func (.func 276) [] [],.func (.func 277) [] [],.func (.func 278) [] []]
theorem c292:PC 263 [] clB:=by
 refine Xa hP g263.ok rfl rfl ?_;unfold g263;dsimp only[H0.u];exact ay rfl
set_option maxHeartbeats 8000000
theorem py(b:Bk)(hf:a_ b=true)(bY:Yg b.ai)(s:St)(hs:bd 1000000000 s)(hm:aO (bz b).1 b s true=true)(sd tg:Int)(h0:0<=sd)(h1:sd<=1)(hd:∀c∈(iN s sd).az,0<=c∧c.toNat<b.ai.length)(t:Bool) :
  ∀(k:Nat) (x:Nm) (row:List aa) (j:Nat),na row j x→SizeOf.sizeOf x<=k→cW x=true→eP t x=true→PC 260 [.agg [.aq row j],qP b s sd tg] (.iface 3 (iv (dO b s sd tg x)))
 |0,x,_,_,_,h,_,_=>by cases x;simp at h
 |k+1,x,row,j,hx,hk,jD,bQ=>by
  have mW:=bQ;rw[NB]at mW;simp only[AI]at mW;obtain⟨k1,k2,k3⟩:=mW;simp only[iM,AI,fE]at k1;obtain⟨ka,kb,kc⟩:=k1;refine Xa hP g260.ok rfl rfl ?_;rw[H2.e];unfold g260;dsimp only;refine ay (Za (bB hx.h0) ?_);refine ay (Ya (λh=>?_) (λh=>?_))
  ·have h:x.op<8:=by simpa using h
   have hv:dO b s sd tg x=pc (R' b s sd tg x.op x.n x.who):=by rw[Rn,aJ h]
   rw[hv];refine Y9 (c291 b s sd tg) g262.ok (ay (Xf (bB hx.h0) rfl ?_));have hY:x.op=0∨x.op=1∨x.op=2∨x.op=3∨x.op=4∨x.op=5∨x.op=6∨x.op=7:=by omega
   rcases hY with e|e|e|e|e|e|e|e<;>rw[e]
   ·refine ay (Yt (c293 row j x hx) rfl g264.ok.plain rfl (Y9 (c290 _) g261.ok ?_));exact ay rfl
   ·refine ay (Yt (c294 b s sd tg h0 h1 row j x hx) rfl g265.ok.plain rfl (Y9 (c290 _) g261.ok ?_));exact ay rfl
   ·refine ay (Yt (c296 b s sd tg h0 h1 row j x hx) rfl g267.ok.plain rfl (Y9 (c290 _) g261.ok ?_));exact ay rfl
   ·refine ay (Yt (c297 b s sd tg h0 h1 row j x hx) rfl g268.ok.plain rfl (Y9 (c290 _) g261.ok ?_));exact ay rfl
   ·refine ay (Yt (c298 b s sd tg h0 h1 row j x hx) rfl g269.ok.plain rfl (Y9 (c290 _) g261.ok ?_));exact ay rfl
   ·refine ay (Yt (c299 b s sd tg h0 h1 _) rfl g270.ok.plain rfl (Y9 (c290 _) g261.ok ?_));exact ay rfl
   ·refine ay (Yt (c300 b s sd tg h0 h1 hd _) rfl g271.ok.plain rfl (Y9 (c290 _) g261.ok ?_));exact ay rfl
   ·refine ay (Yt (c301 b hf bY s hs hm sd tg _) rfl g272.ok.plain rfl (Y9 (c290 _) g261.ok ?_));exact ay rfl
  ·have h:¬x.op<8:=by simpa using h
   have hl:x.kids.length=2:=by rw[kc];simp[xl];omega
   have G7:x.kids[0]∈x.kids:=AT (by omega);have Ux:x.kids[1]∈x.kids:=AT (by omega);have hks:∀y∈x.kids,eP t y=true:=by
    have:∀l:List Nm,cx t l=true→∀y∈l,eP t y=true:=by
     intro l
     induction l with
     |nil=>intro _ y hy;simp at hy
     |cons a l ih=>
      intro hh y hy;simp only[cx,AI]at hh;simp only[zAR]at hy;rcases hy with rfl|hy
      ·exact hh.1
      ·exact ih hh.2 y hy
    exact this _ k2
   have hv:dO b s sd tg x=pc (vK x.op (dO b s sd tg x.kids[0]) (dO b s sd tg x.kids[1])):=by
    rw[Rn,aE h];have Ko:x.kids=[x.kids[0],x.kids[1]]:=by
     apply List.ext_getElem (by simp[hl]);intro i h1 h2;have:i=0∨i=1:=by simp at h2;omega
     rcases this with rfl|rfl<;>rfl
    conv=>lhs;rw[Ko]
    simp[kh,tN]
   rw[hv];have r0:=py b hf bY s hs hm sd tg h0 h1 hd t k x.kids[0] (c8 x.kids[0]) 0 (qm _) (by have:=AK G7;omega) (XY jD G7) (hks _ G7);have r1:=py b hf bY s hs hm sd tg h0 h1 hd t k x.kids[1] (c8 x.kids[1]) 0 (qm _) (by have:=AK Ux;omega) (XY jD Ux) (hks _ Ux);have b0:=GH b s sd tg x.kids[0];have b1:=GH b s sd tg x.kids[1];refine ay (Za (bB hx.h3) (Za (Xm _ c8 _ _ _ x.kids _ 0 (by omega)) (Za rfl (aY r0 g260.ok ?_))));refine ay (Za (bB hx.h3) (Za (Xm _ c8 _ _ _ x.kids _ 1 (by omega)) (Za rfl (aY r1 g260.ok (Za rfl ?_)))));refine Y9 c292 g263.ok (ay (Xf (bB hx.h0) rfl ?_));have hY:x.op=8∨x.op=9∨x.op=10∨x.op=11∨x.op=12:=by omega
   rcases hY with e|e|e|e|e<;>rw[e]
   ·refine Zi rfl (Zi rfl (Yt (c302 _ _ b0 b1) rfl g274.ok.plain rfl (Y9 (c290 _) g261.ok ?_)));exact ay rfl
   ·refine Zi rfl (Zi rfl (Yt (c303 _ _ b0 b1) rfl g275.ok.plain rfl (Y9 (c290 _) g261.ok ?_)));exact ay rfl
   ·refine Zi rfl (Zi rfl (Yt (c304 _ _ b0 b1) rfl g276.ok.plain rfl (Y9 (c290 _) g261.ok ?_)));exact ay rfl
   ·refine Zi rfl (Zi rfl (Yt (c305 _ _) rfl g277.ok.plain rfl (Y9 (c290 _) g261.ok ?_)));exact ay rfl
   ·refine Zi rfl (Zi rfl (Yt (c306 _ _) rfl g278.ok.plain rfl (Y9 (c290 _) g261.ok ?_)));exact ay rfl
theorem c125(cs:List Cd)(hf:ZG cs=true)(l:List Ef)(hl:bE l=true):PC 180 [iH cs,gY l] (.bool (bD cs true 1 l)):=by
 simp only[ZG,AI,fE]at hf;obtain⟨f0,f1⟩:=hf;rw[cZ]at f0;refine Xa hP g180.ok rfl rfl ?_;rw[H2.e];unfold g180;dsimp only;refine ay ?_;refine Xg (ι:=Nat) (λi vs σ=>∃m,vs=[iv i]∧aj σ 0=.map (jl m)∧0<σ.length∧i<=cs.length∧gX m (cs.take i)) (λi=>cs.length-i) 0 ⟨[],rfl,rfl,by simp,by omega,λt=>by simp[cu,kT]⟩ ?_;rintro i vs σ again ⟨m,rfl,hm,ji,hi,hu⟩ bn;refine Za rfl (Ya (λh=>?_) (λh=>?_))
 ·have pZ:i<cs.length:=by simpa using h
  have cH:=λ(s:List ab)=>Xm s cL false false 12 cs .i64 i pZ;have k_:cs.take (i+1)=cs.take i++[cs[i]]:=Yw cs i pZ;generalize cs[i]=c at cH k_;refine Qg λk10 ry=>?_;have kk:∀m' σ',gX m' (cs.take i++[c])→aj σ' 0=.map (jl m')→0<σ'.length→k10 [] σ':=by
   intro m' σ' q1 q3 q4;rw[ry];refine Za (Qj ..) ?_;rw[Qc (n:=i) (by omega)];exact bn (i+1) _ _ (by omega) ⟨m',rfl,q3,q4,by omega,by rw[k_];exact q1⟩
  clear ry bn;refine Za (cH _) (Za (bB (pR _)) (Qu (row:=cL c) (row':=cL c) rfl rfl rfl ?_));have dI:=Yc σ (ab.box (cL c));have nA:aj (σ++[ab.box (cL c)]) 0=.map (jl m):=Qb _ hm;have lX:0<(σ++[ab.box (cL c)]).length:=by simp
  generalize σ++[ab.box (cL c)]=base at dI nA lX ⊢;generalize σ.length=b at dI ⊢;refine Za rfl (Za (ld dI rfl) (Za (Ydh nA _) ?_));refine ay (Ya (λh=>?_) (λh=>?_))
  ·have h:(cu c.name m).isSome=false:=by simpa using h
   refine Za rfl (Za (ld dI rfl) (Za rfl (Za (ld dI rfl) (Yd (Gi nA _ _) (Ze _ lX) ?_))));exact kk _ _ (hu.new h) (Zd _ lX) (by simpa using lX)
  ·have h:(cu c.name m).isSome=true:=by simpa using h
   exact kk _ _ (hu.fQ h) nA lX
 have h:i=cs.length:=by simp at h;omega
 subst h;rw[zAr]at hu;refine Za rfl (Yd (v:=.ak σ.length 0) (rd:=[]) (up:=[(σ.length,.box [.map 0,.bool true])]) rfl (Xe _ _) ?_);have hB:=Yc σ (ab.box [.map 0,.bool true]);have nA:aj (σ++[ab.box [.map 0,.bool true]]) 0=.map (jl m):=Qb _ hm;refine Zu (rd:=[0,σ.length]) (c157 m cs hu.af true l 1 hl (by omega)) rfl g169.ok.plain (.cons (aB.box (ZQ hB) (by simp) (.cons (aB.map (Ia nA) (by simp) (PO (N4 m))) (bu.ro rfl))) (bu.ro rfl)) rfl ?_;rfl
def Tp:Cn:=.mk 0 0 [] [] []
def kU(x:Nm):Ef:=.mk 3 0 x [] Tp [] []
def IM(x:Nm):Cd:=⟨[80,114,111,98,101],false,0,0,0,0,0,0,[kU x],[],[],0⟩
@[reducible] def rh(x:Nm):List aa:=[aN 3,aN 0,aN x.op,iv x.n,aN x.who,.aU false false 4 (x.kids.map c8),.str [],aN 0,aN 0,.str [],.an,.an,.an,.an]
theorem YdN{h0:Hp}{rd:List Nat}(x:Nm):bu h0 rd (rh x) (bj (kU x)):=by
 rw[Zr];exact .cons (aB.ro rfl) <| .cons (aB.ro rfl) <| .cons (aB.ro rfl) <| .cons (aB.ro rfl) <| .cons (aB.ro rfl) <| .cons (aB.ro rfl) <| .cons (aB.ro rfl) <| .cons (aB.ro rfl) <| .cons (aB.ro rfl) <| .cons (aB.ro rfl) <|
  .cons (aB.nl 4) <| .cons (aB.nl 5) <| .cons (aB.nl 14) <| .cons (aB.nl 14) .nil
theorem Ydk{h0:Hp}{rd:List Nat}(x:Nm){b:Nat}(hb:h0 b=some (.rows 14 [rh x]))(di:b∈rd):aB h0 rd (.sl b 0 1 true) (gY [kU x]):=by
 refine aB.dY (y:=.aU true false 14 [bj (kU x)]) (aB.sl hb di (by simp) rfl (λi row row' e1 e2=>?_)) (λM u d=>d.gS)
 match i with
 |0=>simp at e1 e2;subst e1;subst e2;exact YdN x
 |i+1=>simp at e2
theorem YcD{x:Nm}(h:cW x=true):bE [kU x]=true:=by
 simp[bE,kU,yg,dS,h,cG,Tp,cZ,y_,Cs,BL]
theorem c82(b:Bk)(hf:a_ b=true)(x:Nm)(hx:cW x=true)(bQ:eP true x=true)(hw:mi x<=200):PC 133 [.aq (c8 x) 0,.fj,.aq (cy b) 0] (.bool true):=by
 have gu:ZG b.ai=true:=by
  simp only[a_,AI]at hf;exact hf.1
 have hlen:((qI x).length:Int)=mi x:=by have:=It x;omega
 have JR:(pz (IM x)).length=1+(qI x).length:=by simp[pz,IM,bw,kU,iA,cq];omega
 have hW:o7 (IM x)=1+mi x:=by rw[IL,JR];omega
 have Ut:bD b.ai true 1 [kU x]=true:=by
  simp[bD,bU,ye,kU,Ef.op,Ef.c,Ef.bP,Ef.bS,Ef.n,Ef.name,Ef.who,cq,bQ,fe,Tp,iJ,pF,Cn.op,Cn.who,Cn.name,Cn.aC,Cn.kids]
 have O5:decide (o7 (IM x)-1>200)=false:=gm (by omega);have h124:=c124 (IM x) (YcD hx) rfl rfl (by rw[JR];omega);have h125:=c125 b.ai gu [kU x] (YcD hx);rw[Ut]at h125;rw[QA];refine Xa hP g133.ok rfl rfl ?_;rw[H3.e];unfold g133;dsimp only;refine Za rfl (Yd (v:=.ak 0 0) rfl rfl (Yd (v:=.aQ) (rd:=[]) (up:=[(0,.box [aN 3,aN 0,aN 0,iv 0,aN 0,.an,.str [],aN 0,aN 0,.str [],.an,.an,.an,.an])]) rfl rfl (Za rfl (Gb (Yh (Za rfl (Za (bB rfl) (Za rfl ?_))))))));refine Yd (v:=.aQ) (rd:=[]) (up:=[(0,.box (rh x))]) rfl rfl (Za (ld (row:=rh x) rfl rfl) (Yd (v:=.sl 1 0 1 true) (rd:=[]) (up:=[(1,.rows 14 [rh x])]) rfl rfl (Za rfl (Yd (v:=.ak 2 0) rfl rfl ?_))));refine Yd (v:=.aQ) (rd:=[]) (up:=[(2,.box [.str [80,114,111,98,101],.bool false,iv 0,iv 0,iv 0,iv 0,iv 0,iv 0,.sl 1 0 1 true,.an,.an,iv 0])]) rfl rfl (Za (ld (row:=[.str [80,114,111,98,101],.bool false,iv 0,iv 0,iv 0,iv 0,iv 0,iv 0,.sl 1 0 1 true,.an,.an,iv 0]) rfl rfl) (Zu (rd:=[1]) h124 rfl g168.ok.plain (.cons (aB.agg ?_) .nil) rfl ?_))
 ·exact .cons (aB.ro rfl) <| .cons (aB.ro rfl) <| .cons (aB.ro rfl) <| .cons (aB.ro rfl) <| .cons (aB.ro rfl) <| .cons (aB.ro rfl) <| .cons (aB.ro rfl) <| .cons (aB.ro rfl) <| .cons (Ydk x rfl (by simp)) <|
   .cons (aB.nl 14) <| .cons (aB.nl 14) <| .cons (aB.ro rfl) .nil
 refine Za (Cv ..) ?_;rw[br (by omega) (by omega)];refine ay ?_;rw[O5];refine ay ?_;exact Gc (rd:=[1]) h125 rfl g180.ok.plain (.cons (aB.ro rfl) (.cons (Ydk x rfl (by simp)) .nil)) rfl (Zw (by kernel_rfl) rfl)
theorem Yb8{e:Int}{b:Bk}{s:St}(h:aO e b s false=true):aO e b s true=true:=by
 simp only[aO,AI]at h ⊢;obtain⟨a1,a2,a3,a4,a5,a6,a7,a8,a9,b1,b2,b3,b4,h⟩:=h;refine⟨a1,a2,a3,a4,a5,a6,a7,a8,a9,b1,b2,b3,b4,?_⟩;split at h
 ·rename_i q;rw[aJ q];exact h
 ·rename_i q;rw[aE q];simp only[AI]at h ⊢;exact⟨by simp,h.2⟩
def DH:Nm:=.mk 0 0 0 []
theorem kG:Zh prog 132=true:=by kernel_rfl
theorem c31(b:Bk)(hf:a_ b=true)(bY:Yg b.ai)(s:St)(hs:bd 1000000000 s)(hm:aO (bz b).1 b s true=true)(sd tg:Int)(h0:0<=sd)(h1:sd<=1)(hd:∀c∈(iN s sd).az,0<=c∧c.toNat<b.ai.length)
 (x:Nm)(hx:cW x=true)(bQ:eP true x=true)(hw:mi x<=200):PC 90 [cC b,bZ s,.agg [iv sd,iv tg],.agg (c8 x)] (.bp [iv (dO b s sd tg x),iv 0]):=by
 have hz:=py b hf bY s hs hm sd tg h0 h1 hd true _ DH (c8 DH) 0 (qm _) (IT _) rfl rfl;have h289:=py b hf bY s hs hm sd tg h0 h1 hd true _ x (c8 x) 0 (qm _) (IT _) hx bQ;have a0:=c81 b hf bY s hs hm sd tg h0 h1 _ _ _ hz;have a1:=c81 b hf bY s hs hm sd tg h0 h1 _ _ _ h289;have h82:=c82 b hf x hx bQ hw;refine Xa hP g90.ok rfl rfl ?_;rw[H4.e];unfold g90;dsimp only;refine ay ?_;refine Yd (v:=.ak 3 0) (rd:=[]) (up:=[(3,.box (c8 x))]) (by rw[QA];rfl) rfl ?_;refine ay ?_;have B0:∀ {σ:List ab} {rd:List Nat},aj σ 0=.box (cy b)→0∈rd→aB (hp σ) rd (.ak 0 0) (.aq (cy b) 0):=λh di=>aB.box (ZQ h) di (bu.ro rfl);have B1:∀ {σ:List ab} {rd:List Nat},aj σ 1=.box (aI s)→1∈rd→aB (hp σ) rd (.ak 1 0) (.aq (aI s) 0):=λh di=>aB.box (ZQ h) di (bu.ro rfl);have B3:∀ {σ:List ab} {rd:List Nat},aj σ 3=.box (c8 x)→3∈rd→aB (hp σ) rd (.ak 3 0) (.aq (c8 x) 0):=λh di=>aB.box (ZQ h) di (bu.ro (by have:=mM x;simpa[ga,aa.ro]using this));refine Zu (rd:=[0,1,4]) a0 rfl kG (.cons (B0 rfl (by simp)) <| .cons (B1 rfl (by simp)) <| .cons (aB.ro rfl) <| .cons (aB.iface (aB.agg (.cons (aB.box (row:=[aN 0,iv 0,aN 0,.an]) rfl (by simp) ?_) .nil))) .nil) rfl ?_
 ·exact .cons (aB.ro rfl) <| .cons (aB.ro rfl) <| .cons (aB.ro rfl) <| .cons (aB.nl 4) .nil
 refine ay ?_;refine Zu (rd:=[0,3]) h82 rfl g133.ok.plain (.cons (B3 rfl (by simp)) <| .cons (aB.ro rfl) <| .cons (B0 rfl (by simp)) .nil) rfl ?_;refine ay ?_;refine Zu (rd:=[0,1,3]) a1 rfl kG (.cons (B0 rfl (by simp)) <| .cons (B1 rfl (by simp)) <| .cons (aB.ro rfl) <| .cons (aB.iface (aB.agg (.cons (B3 rfl (by simp)) .nil))) .nil) rfl ?_;refine ay ?_;exact rfl
@[reducible] def dt(b:Bk)(s:St)(sd tg:Int)(lv:aa)(fu:Int)(mv:aa):List aa:=cy b++(aI s++[iv sd,iv tg,lv,iv fu,mv])
@[reducible] def cV(e:Ev)(cv:aa):List aa:=[aN e.kind,iv e.side,iv e.card,iv e.id,iv e.other,iv e.n,cv]
def vx(cv:aa)(l:List Int):Prop:=cv=aP l∨(cv=.an∧l=[])
inductive eU:List (List aa)→List Ev→Prop
 |nil:eU [] []
 |snoc (rows:List (List aa)) (l:List Ev) (e:Ev) (cv:aa):eU rows l→vx cv e.ai→eU (rows++[cV e cv]) (l++[e])
theorem eU.len{rows:List (List aa)}{l:List Ev}(h:eU rows l):rows.length=l.length:=by
 induction h with
 |nil=>rfl
 |snoc _ _ _ _ _ _ ih=>simp[ih]
def LV(rb:Nat)(l:List Ev)(lv:aa)(σ:List ab):Prop:=(l=[]∧lv=.an)∨(l≠[]∧∃c rows,c≠rb∧lv=.sl c 0 l.length false∧aj σ c=.rows 7 rows∧eU rows l)
structure Fr (rb:Nat) (lv cB:aa) (σ σ':List ab):Prop where
 len:σ.length<=σ'.length
 bT:∀k,k<σ.length→k≠rb→(∀n,lv≠.sl k 0 n false)→aj σ' k=aj σ k
 new:∀k n,cB=.sl k 0 n false→σ.length<=k∨∃m,lv=.sl k 0 m false
theorem Fr.trans{rb:Nat}{a b c:aa}{σ τ υ:List ab}(h:Fr rb a b σ τ)(q:Fr rb b c τ υ):Fr rb a c σ υ:=by
 refine⟨zAY h.len q.len,λk hk hr hn=>?_,λk n e=>?_⟩
 ·rw[q.bT k (zAJ hk h.len) hr (λn e=>?_),h.bT k hk hr hn];rcases h.new k n e with h1|⟨m,h1⟩
  ·omega
  ·exact hn m h1
 ·rcases q.new k n e with h1|⟨m,h1⟩
  ·exact .inl (zAY h.len h1)
  ·exact h.new k m h1
theorem Fr.app{rb:Nat}{lv:aa}{σ:List ab}(l:List ab)(BF:∀k n,lv=.sl k 0 n false→k<σ.length):Fr rb lv lv σ (σ++l):=
 ⟨by simp,λk hk _ _=>Yf l hk,λk n h=>.inr ⟨n,h⟩⟩
theorem Fr.set{rb:Nat}(lv:aa){σ:List ab}(x:ab):Fr rb lv lv σ (σ.set rb x):=
 ⟨by simp,λk hk hr _=>Xc x hk hr,λk n h=>.inr ⟨n,h⟩⟩
theorem LV.lt{rb:Nat}{l:List Ev}{lv:aa}{σ:List ab}(h:LV rb l lv σ){k n:Nat}(e:lv=.sl k 0 n false):k<σ.length:=by
 rcases h with ⟨_,h⟩|⟨_,c,rows,_,h,hc,_⟩
 ·rw[h]at e;cases e
 ·rw[h]at e;cases e;exact Yb hc
theorem LV.fQ{rb:Nat}{l:List Ev}{lv:aa}{σ σ':List ab}(h:LV rb l lv σ)(hk:∀k,k<σ.length→k≠rb→aj σ' k=aj σ k):LV rb l lv σ':=by
 rcases h with h|⟨h0,c,rows,h1,h2,hc,h3⟩
 ·exact .inl h
 ·exact .inr ⟨h0,c,rows,h1,h2,by rw[hk c (Yb hc) h1];exact hc,h3⟩
theorem Qeo(n by_:Nat){σ:List ab}{c:Nat}{row:List aa}(hc:aj σ c=.rows n [row])(hr:row.all aa.cell=true)(bM:194*by_<=2 ^ 48) :
  Qf n by_ [.an,.sl c 0 1 true] σ=.ok (.sl σ.length 0 1 false) [c] [(σ.length,.rows n [row])]:=by
 have h1:Xk n σ (.sl c 0 1 true)=some ([row],[c]):=by
  simp only[Xk,hc];simp[cut];rfl
 show XD n by_ σ [] [] (.sl c 0 1 true)=_;unfold XD;simp only[h1,XR hr];simp;rw[show zAP (194*by_) 281474976710656=true from sh (by simpa using bM)];rfl
theorem M_{e:Ev}{cv:aa}{l:List Int}(nu:vx cv l)(σ:List ab):Yp 7 1 [.int .i8 0,.int .i64 0,.int .i64 0,.int .i64 0,.int .i64 0,.int .i64 0,.an] [(0,7)] [.agg (cV e cv)] σ=.ok (.sl σ.length 0 1 true) [] [(σ.length,.rows 7 [cV e cv])]:=by
 rcases nu with rfl|⟨rfl,_⟩<;>rfl
theorem WW{e:Ev}{cv:aa}{l:List Int}(nu:vx cv l)(σ:List ab):tL [.agg (cV e cv)] σ=.ok (.ak σ.length 0) [] [(σ.length,.box (cV e cv))]:=by
 rcases nu with rfl|⟨rfl,_⟩<;>rfl
theorem vh{σ:List ab}{rb:Nat}{b:Bk}{s:St}{sd tg fu:Int}{mv lv:aa}{l:List Ev}(hr:aj σ rb=.box (dt b s sd tg lv fu mv))(hl:LV rb l lv σ)(hn:l.length<=1000000000)(e:Ev)(cv:aa)(nu:vx cv e.ai){K:KT}
 (hK:∀σ' cB,Fr rb lv cB σ σ'→aj σ' rb=.box (dt b s sd tg cB fu mv)→LV rb (l++[e]) cB σ'→K (.bp []) σ'):g126.u VV [.ak rb 0,.agg (cV e cv)] σ K:=by
 have uV:=Yb hr;have kH:(cV e cv).all aa.cell=true:=by rcases nu with rfl|⟨rfl,_⟩<;>rfl
 rw[H2.e];unfold g126;dsimp only;generalize hX:cV e cv=X at *;have r1:=Qb [.box (cV e cv)] hr;have r2:=Qb [.rows 7 [cV e cv]] r1;have f1:=Yc σ (.box (cV e cv));have f2:=Yc (σ++[.box (cV e cv)]) (.rows 7 [cV e cv]);subst hX;refine Yd (WW (e:=e) nu _) (Xe σ _) (Zi rfl (Zi rfl (Xf (ld r1 rfl) (Zg _) (Xf (ld f1 (show aK true 0 7 (cV e cv)=some (.agg (cV e cv)) from rfl)) (Zg _) (Xf (M_ (e:=e) nu _) (Xe _ _) ?_)))));have oM:(σ++[ab.box (cV e cv)]).length=σ.length+1:=by simp
 have j8:(σ++[ab.box (cV e cv)]++[ab.rows 7 [cV e cv]]).length=σ.length+2:=by simp
 rcases hl with ⟨rfl,rfl⟩|⟨h0,c,rows,pf,rfl,hc,hR⟩
 ·refine Xf (Qeo 7 72 f2 kH (by decide)) (Xe _ _) (Zi rfl (Zi rfl ?_));have r3:=Qb [.rows 7 [cV e cv]] r2;have oD:=Yb r3;refine Xf (cX r3 rfl rfl rfl) (Ze _ oD) (Zw (by have cO:rb≠σ.length+1:=(by omega);simp[Zj,Xn,Zn,Qv,cf,dZ,zAC,zAc,cO,cO.symm]) ?_);refine hK _ (.sl (σ++[ab.box (cV e cv)]++[ab.rows 7 [cV e cv]]).length 0 1 false) ⟨by simp,λk hk gC _=>?_,λk n h=>.inl ?_⟩ ?_ (.inr ⟨by simp,(σ++[ab.box (cV e cv)]++[ab.rows 7 [cV e cv]]).length,[]++[cV e cv],by rw[j8];omega,rfl,?_,eU.snoc [] [] e cv .nil nu⟩)
  ·rw[Xc _ (by simp;omega) gC,Yf _ (by simp;omega),Yf _ (by simp;omega),Yf _ hk]
  ·cases h;rw[j8];omega
  ·exact Zq (zAb oD)
  ·have:=Yc (σ++[ab.box (cV e cv)]++[ab.rows 7 [cV e cv]]) (.rows 7 [cV e cv]);rw[Xc _ (by simp) (by rw[j8];omega),this];rfl
 ·have uL:=Yb hc;have c2:=Qb [.rows 7 [cV e cv]] (Qb [.box (cV e cv)] hc (by simp));have tV:c<(σ++[ab.box (cV e cv)]++[ab.rows 7 [cV e cv]]).length:=by rw[j8];omega
  refine Xf (QP 7 72 (rs:=rows) c2 f2 hR.len kH (by omega)) (XI _ _ tV) (Zi rfl (Zi rfl ?_));have r3:=Qb [.rows 7 (rows++[cV e cv])] (Zb (x:=.dead) r2 (by simp) pf);have oD:=Yb r3;refine Xf (cX r3 rfl rfl rfl) (Ze _ oD) (Zw (by have cO:rb≠σ.length+1:=(by omega);simp[Zj,Xn,Zn,Qv,cf,dZ,zAC,zAc,cO,cO.symm]) ?_);refine hK _ (.sl (σ++[ab.box (cV e cv)]++[ab.rows 7 [cV e cv]]).length 0 (l.length+1) false) ⟨by simp;omega,λk hk gC zL=>?_,λk n h=>.inl ?_⟩ ?_ (.inr ⟨by simp,(σ++[ab.box (cV e cv)]++[ab.rows 7 [cV e cv]]).length,rows++[cV e cv],by rw[j8];omega,by simp,?_,eU.snoc rows l e cv hR nu⟩)
  ·have Dh:k≠c:=λe=>zL l.length (by rw[e]);rw[Xc _ (by simp;omega) gC,Yf _ (by simp;omega),Xc _ (by simp;omega) Dh,Yf _ (by simp;omega),Yf _ hk]
  ·cases h;rw[j8];omega
  ·exact Zq (zAb oD)
  ·have:=Yc ((σ++[ab.box (cV e cv)]++[ab.rows 7 [cV e cv]]).set c .dead) (ab.rows 7 (rows++[cV e cv]));simp only[zCf]at this;rw[Xc _ (by simp) (by rw[j8];omega),this]
theorem Xd2{σ:List ab}{rb:Nat}{b:Bk}{s:St}{sd tg fu:Int}{mv lv:aa}(hr:aj σ rb=.box (dt b s sd tg lv fu mv))(h01:sd=0∨sd=1)(who:Int){K:KT}(hK:K (iv (bG sd who)) σ):g127.u VV [.ak rb 0,aN who] σ K:=by
 rw[H2.e];unfold g127;dsimp only;refine Za (Ys ..) (Ya (λh=>?_) (λh=>?_))
 ·have h:who=1:=by simpa using h
  refine Za rfl (Za rfl (Za rfl (Za (ld hr rfl) (Za (Cv ..) ?_))));rw[zAZ _ (by omega)];unfold bG at hK;rwa [aJ h]at hK
 ·have h:who≠1:=by simpa using h
  refine Za rfl (Za rfl (Za rfl (Za (ld hr rfl) ?_)));unfold bG at hK;rwa [aE h]at hK
section
variable {P:Program} {GL:ar}
theorem Ra{f:FuncId}{xs:List aa}{v y:aa}{bs:List ab}(h:de P GL f xs v bs)(hy:∃rd,aB (hp bs) rd v y):dK P GL f xs y:=by
 obtain⟨rd,hR⟩:=hy;intro w M vs hM hg hx;refine(h w M vs hM hg hx).mono ?_;rintro e w' ⟨u,he,g',hle,r,hd⟩
 let M2:Nat→Option Obj:=λb=>if b<w.heap.size then g'.M b else w'.heap[b]?
 have sj:yI g' (hp bs) w' M2:=by
  refine⟨λb o e=>?_,λb blk cb o e1 e2 e3 e4 e5=>?_⟩
  ·show (if b<w.heap.size then g'.M b else w'.heap[b]?)=some o;split
   ·exact e
   ·exact r.aX b o e
  ·obtain⟨_,di,_⟩:=r.own b blk cb e1 e2 e3 e4
   grind
 have sm:=hR GL w ⟨[],M⟩ g' (hp bs) w' M2 r sj (λ_ _=>rfl) u hd;refine⟨u,he,r.keeps,M2,λb o e=>sj.1 b o (hle b o e),λb o e=>?_,λb o e=>?_,sm⟩
 ·have e':(if b<w.heap.size then g'.M b else w'.heap[b]?)=some o:=e;split at e'
  ·exact r.aX b o e'
  ·exact e'
 ·have e':(if b<w.heap.size then g'.M b else w'.heap[b]?)=some o:=e;split at e'
  ·rcases r.src b o e' with q|q|q<;>simp_all
  ·exact .inr (by omega)
end
@[reducible] def Bh(l:List Int):aa:=.aU true false 1 (l.map aR)
theorem Yep(nn:Bool)(rows:List (List aa))(h:rows≠[])(σ:List ab):QG 1 [.aU false nn 1 rows,.int .i64 rows.length,.int .i64 rows.length] σ=.ok (.aU true nn 1 rows) [] []:=by
 cases rows with
 |nil=>exact(h rfl).elim
 |cons r rs=>
  have hb:zAP (r::rs).length (r::rs).length=true:=sh (IT _);have hc:cut 0 (r::rs).length (r::rs)=r::rs:=by unfold cut;simp
  show (bif IN 1 1&&(IN (r::rs).length (r::rs).length&&zAP (r::rs).length (r::rs).length)then aA.ok (.aU true nn 1 (cut 0 (r::rs).length (r::rs))) [] []else .stop)=_;simp only[hb,hc,zBf];rfl
theorem c405(l:List Int):PC 128 [aP l] (Bh l):=by
 refine Qi hP g128.ok rfl ?_;rw[H1.e];unfold g128;dsimp only;refine Za rfl (Za rfl ?_);cases l with
 |nil=>
  refine Za (v:=.cS) rfl ⟨[],aB.dY (aB.ro rfl) (λM u d=>?_)⟩;cases d with
  |cS _ a=>exact .aU _ _ _ _ [] a 0 0 0 (λ_ _=>undef) (λ_=>rfl) (λh=>by cases h) (λh=>(h rfl).elim) (λ_=>rfl) (by simp) (by simp) (by simp) (by simp)
 |cons x l=>exact Za (Yep false ((x::l).map aR) (by simp) _) ⟨[],aB.ro rfl⟩
theorem px(l:List Int)(hl:l.length<=1000000000):PC 44 [aP l] (aP l):=
 Ra (c96 l hl) ⟨[0],RI.own (b:=0) rfl (by simp) rfl⟩
theorem ZcT(l:List Int):yO (l.map aR)=true:=by
 induction l<;>simp_all [yO,aR]
theorem ML(l m:List Int){y:aa}{rd:List Nat}{σ:List ab}(hy:Xk 1 σ y=some (m.map aR,rd))(hl:l.length+m.length<=1000000000):Qf 1 8 [Bh l,y] σ=.ok (aP (l++m)) rd []:=by
 show (match Xk 1 σ y with
   |some (ys,rd)=>bif IN 1 1&&(yO (l.map aR++ys)&&zAP ((2*((l.map aR).length+ys.length)+192)*8) (2 ^ 48))then aA.ok (.aU false false 1 (l.map aR++ys)) rd []else .stop
   | none=>.stop)=_
 rw[hy];simp only;rw[←zAe,ZcT,show zAP ((2*((l.map aR).length+(m.map aR).length)+192)*8) (2 ^ 48)=true from sh (by simp only[zAH];omega)];rfl
def iP(m:List Int)(s:St)(i:Int):St:=s.put i { s.side i with told:=(s.side i).told++m }
def dh(s:St)(m:List Int)(is:List Int):St:=is.foldl (iP m) s
theorem YcX(s:St)(m is:List Int)(i:Nat)(h:i<is.length):dh s m (is.take (i+1))=iP m (dh s m (is.take i)) is[i]:=by
 grind [dh,List.take_succ_eq_append_getElem]
def TB(N:Nat)(s:St):Prop:=s.s0.told.length<=N∧s.s1.told.length<=N
theorem TB.tell{N:Nat}{s:St}(h:TB N s)(m:List Int){i:Int}(hi:i=0∨i=1):TB (N+m.length) (iP m s i):=by
 obtain⟨h1,h2⟩:=h;rcases hi with rfl|rfl
 ·refine⟨?_,?_⟩<;>simp[iP,St.put,St.side]<;>omega
 ·refine⟨?_,?_⟩<;>simp[iP,St.put,St.side]<;>omega
theorem Yef{σ:List ab}{rb:Nat}{x:ab}(h:aj σ rb=x)(hx:x≠.dead):σ.set rb x=σ:=by
 have hl:=Yb h hx;have:=Xw h hx
 grind [zDg]
theorem GC{σ:List ab}{rb:Nat}{b:Bk}{s:St}{sd tg fu:Int}{mv lv:aa}(hr:aj σ rb=.box (dt b s sd tg lv fu mv))(m:List Int)(y:aa)(rd:List Nat)(hy:∀x:ab,Xk 1 (σ.set rb x) y=some (m.map aR,rd))
 (is:List Int)(k:Nat)(hk:aj σ k=.rows 1 (is.map aR))(gC:k≠rb)(h01:∀i∈is,i=0∨i=1)(N:Nat)(hT:TB N s)(hN:N+is.length*m.length+m.length<=1000000000)(his:is.length<=1000000000){K:KT}
 (hK:K (.bp []) (σ.set rb (.box (dt b (dh s m is) sd tg lv fu mv)))):g129.u VV [.ak rb 0,y,.sl k 0 is.length true] σ K:=by
 have uV:=Yb hr;have mw:=Yb hk;rw[H3.e];unfold g129;dsimp only;refine Za rfl (Xg (ι:=Nat) (λi vs τ=>vs=[iv i]∧i<=is.length∧TB (N+i*m.length) (dh s m (is.take i))∧τ=σ.set rb (.box (dt b (dh s m (is.take i)) sd tg lv fu mv))) (λi=>is.length-i) 0 ⟨rfl,by omega,by simpa[dh]using hT,?_⟩ ?_)
 ·simp_all [dh,Yef]
 rintro i vs τ again ⟨rfl,hi,hT,rfl⟩ bn;refine Za rfl (YS (λh=>?_) (λh=>?_))
 ·have Kr:=Zb (x:=.box (dt b (dh s m (is.take i)) sd tg lv fu mv)) hk (by simp) gC.symm;have hg:(is.map aR)[i]?=some [iv is[i]]:=by simp[h,aR]
  refine Za (sE _ k 0 is.length true 1 (is.map aR) .i64 i h Kr) (Za (z7 Kr (by rw[No];exact hg) rfl) (Za rfl (Za rfl (Za rfl ?_))));have zS:aj (σ.set rb (.box (dt b (dh s m (is.take i)) sd tg lv fu mv))) rb=.box (dt b (dh s m (is.take i)) sd tg lv fu mv):=Zq (by simp[uV]);have hlen:rb<(σ.set rb (.box (dt b (dh s m (is.take i)) sd tg lv fu mv))).length:=by simpa using uV
  have hmul:i*m.length<=is.length*m.length:=Nat.mul_le_mul_right _ hi;have hd:=h01 is[i] (AT h);have rA:dh s m (is.take (i+1))=iP m (dh s m (is.take i)) is[i]:=YcX s m is i h;have hT':TB (N+(i+1)*m.length) (dh s m (is.take (i+1))):=by
   rw[rA];have:=hT.tell m hd
   grind
  generalize dh s m (is.take i)=t at *;generalize is[i]=d at *;have CZ:∀l:List Int,l.length<=N+i*m.length→l.length+m.length<=1000000000:=λl hl=>by omega
  rcases hd with rfl|rfl
  ·refine Za rfl (Za rfl (Za rfl (Za (ld zS rfl) (aY (c405 t.s0.told) g128.ok ?_))));refine Yd (ML t.s0.told m (hy _) (CZ _ hT.1)) rfl (Za rfl (Yd (cX zS rfl rfl rfl) (Ze _ hlen) (Za (Qj ..) ?_)));rw[Qc (n:=i) (by omega),zDA];exact bn (i+1) _ _ (by omega) ⟨rfl,by omega,hT',by rw[rA];rfl⟩
  ·refine Za rfl (Za rfl (Za rfl (Za (ld zS rfl) (aY (c405 t.s1.told) g128.ok ?_))));refine Yd (ML t.s1.told m (hy _) (CZ _ hT.2)) rfl (Za rfl (Yd (cX zS rfl rfl rfl) (Ze _ hlen) (Za (Qj ..) ?_)));rw[Qc (n:=i) (by omega),zDA];exact bn (i+1) _ _ (by omega) ⟨rfl,by omega,hT',by rw[rA];rfl⟩
 grind
def Dn(rb:Nat)(b:Bk)(sd tg fu:Int)(l:List Ev)(lv:aa)(σ:List ab)(r:Int×St×List Ev)(v:aa)(σ':List ab):Prop:=
 ∃cB lA,Fr rb lv cB σ σ'∧aj σ' rb=.box (dt b r.2.1 sd tg cB fu lA)∧v=iv r.1∧LV rb (l++r.2.2) cB σ'
def eh(s:St)(sd n:Int):Int×St×List Ev:=
 if n<0 then (0,s,[])else if 1000000<(s.side sd).aT+n then (171,s,[])else (0,s.put sd { s.side sd with aT:=(s.side sd).aT+n },[⟨7,sd,0,0,0,n,[]⟩])
theorem Qes{σ:List ab}{rb:Nat}{b:Bk}{s:St}{sd tg fu:Int}{mv lv:aa}{l:List Ev}(hr:aj σ rb=.box (dt b s sd tg lv fu mv))(hl:LV rb l lv σ)(hn:l.length<=1000000000)(h01:sd=0∨sd=1)
 (hm:0<=(s.side sd).aT∧(s.side sd).aT<=1000000)(x:Ef)(n:Int)(hb:n<=1000000){K:KT}(hK:∀v σ',Dn rb b sd tg fu l lv σ (eh s sd n) v σ'→K v σ'):g84.u VV [.ak rb 0,.agg (bj x),iv n] σ K:=by
 have uV:=Yb hr;have f0:Fr rb lv lv σ (σ++[ab.box (bj x)]):=Fr.app _ (λk n e=>hl.lt e);have r1:=Qb [ab.box (bj x)] hr;have jy:rb<(σ++[ab.box (bj x)]).length:=by simp;omega
 have l1:LV rb l lv (σ++[ab.box (bj x)]):=hl.fQ (λk hk _=>Yf _ hk);rw[H3.e];unfold g84;dsimp only;refine Yd (XM _ _) (Xe σ _) (Za rfl (Za rfl (Za rfl (Za (ld r1 rfl) (Za rfl (Za rfl (Za rfl ?_)))))));rcases h01 with rfl|rfl
 ·have hm:0<=s.s0.aT∧s.s0.aT<=1000000:=hm;refine Za rfl (Za rfl (Ya (λh=>?_) (λh=>?_)))
  ·have h:n<0:=by simpa using h
   exact hK _ _ ⟨lv,mv,f0,by rw[eh,aJ h];exact r1,by rw[eh,aJ h],by rw[eh,aJ h];simpa using l1⟩
  have h:¬n<0:=by simpa using h
  refine Za rfl (Za rfl (Za (ld r1 rfl) (Za (Qj ..) (Za rfl ?_))));rw[zAZ _ (by omega)];refine Ya (λh2=>?_) (λh2=>?_)
  ·have h2:1000000<s.s0.aT+n:=by simpa using h2
   have e:eh s 0 n=(171,s,[]):=by rw[eh,aE h];exact aJ h2
   exact hK _ _ ⟨lv,mv,f0,by rw[e];exact r1,by rw[e],by rw[e];simpa using l1⟩
  have h2:¬1000000<s.s0.aT+n:=by simpa using h2
  have e:eh s 0 n=(0,s.put 0 { s.side 0 with aT:=s.s0.aT+n },[⟨7,0,0,0,0,n,[]⟩]):=by rw[eh,aE h];exact aE h2
  refine Za rfl (Za rfl (Za (ld r1 rfl) (Za (Qj ..) (Za rfl (Za rfl ?_)))));rw[zAZ _ (by omega)];refine Yd (cX r1 rfl rfl rfl) (Ze _ jy) ?_;have r2:aj ((σ++[ab.box (bj x)]).set rb (.box (dt b (s.put 0 { s.side 0 with aT:=s.s0.aT+n }) 0 tg lv fu mv))) rb=.box (dt b (s.put 0 { s.side 0 with aT:=s.s0.aT+n }) 0 tg lv fu mv):=Zq (zAb jy);refine Za rfl (Za rfl (Za rfl (Za (ld r2 rfl) (Za (v:=.agg (cV ⟨7,0,0,0,0,n,[]⟩ .an)) rfl ?_))));refine Qd hP (f:=126) rfl g126.ok rfl (vh r2 (l1.fQ (λk hk gC=>Xc _ hk gC)) hn _ _ (.inr ⟨rfl,rfl⟩) (λσ' cB q1 q2 q3=>hK _ _ ⟨cB,mv,(f0.trans (Fr.set lv _)).trans q1,by rw[e];exact q2,by rw[e],by rw[e];exact q3⟩))
 ·have hm:0<=s.s1.aT∧s.s1.aT<=1000000:=hm;refine Za rfl (Za rfl (Ya (λh=>?_) (λh=>?_)))
  ·have h:n<0:=by simpa using h
   exact hK _ _ ⟨lv,mv,f0,by rw[eh,aJ h];exact r1,by rw[eh,aJ h],by rw[eh,aJ h];simpa using l1⟩
  have h:¬n<0:=by simpa using h
  refine Za rfl (Za rfl (Za (ld r1 rfl) (Za (Qj ..) (Za rfl ?_))));rw[zAZ _ (by omega)];refine Ya (λh2=>?_) (λh2=>?_)
  ·have h2:1000000<s.s1.aT+n:=by simpa using h2
   have e:eh s 1 n=(171,s,[]):=by rw[eh,aE h];exact aJ h2
   exact hK _ _ ⟨lv,mv,f0,by rw[e];exact r1,by rw[e],by rw[e];simpa using l1⟩
  have h2:¬1000000<s.s1.aT+n:=by simpa using h2
  have e:eh s 1 n=(0,s.put 1 { s.side 1 with aT:=s.s1.aT+n },[⟨7,1,0,0,0,n,[]⟩]):=by rw[eh,aE h];exact aE h2
  refine Za rfl (Za rfl (Za (ld r1 rfl) (Za (Qj ..) (Za rfl (Za rfl ?_)))));rw[zAZ _ (by omega)];refine Yd (cX r1 rfl rfl rfl) (Ze _ jy) ?_;have r2:aj ((σ++[ab.box (bj x)]).set rb (.box (dt b (s.put 1 { s.side 1 with aT:=s.s1.aT+n }) 1 tg lv fu mv))) rb=.box (dt b (s.put 1 { s.side 1 with aT:=s.s1.aT+n }) 1 tg lv fu mv):=Zq (zAb jy);refine Za rfl (Za rfl (Za rfl (Za (ld r2 rfl) (Za (v:=.agg (cV ⟨7,1,0,0,0,n,[]⟩ .an)) rfl ?_))));refine Qd hP (f:=126) rfl g126.ok rfl (vh r2 (l1.fQ (λk hk gC=>Xc _ hk gC)) hn _ _ (.inr ⟨rfl,rfl⟩) (λσ' cB q1 q2 q3=>hK _ _ ⟨cB,mv,(f0.trans (Fr.set lv _)).trans q1,by rw[e];exact q2,by rw[e],by rw[e];exact q3⟩))
theorem PT(l:List Int)(j:Nat)(h:j<=l.length)(σ:List ab):ZJ 1 [aP l,iv j] σ=.ok (aP (l.take j)) [] []:=by
 have h1:zAP j (l.map aR).length=true:=sh (by simpa using h);have h2:cut 0 j (l.map aR)=(l.take j).map aR:=by unfold cut;rw[List.drop_zero,List.map_take]
 show (bif IN 1 1&&zAP j (l.map aR).length then aA.ok (.aU false false 1 (cut 0 j (l.map aR))) [] []else .stop)=_;rw[h1,h2];rfl
theorem W0(x:Int)(l:List Int)(σ:List ab):Xy 1 [aP (x::l),iv 1] σ=.ok (aP l) [] []:=by
 have h1:zAP 1 ((x::l).map aR).length=true:=sh (by simp);have h2:cut 1 ((x::l).map aR).length ((x::l).map aR)=l.map aR:=by unfold cut;rw[zAr];rfl
 show (bif IN 1 1&&zAP 1 ((x::l).map aR).length then aA.ok (.aU false false 1 (cut 1 ((x::l).map aR).length ((x::l).map aR))) [] []else .stop)=_;rw[h1,h2];rfl
def gy(s:St)(sd n:Int):Int×St×List Ev:=
 match (s.side sd).az.take (min (max n 0) (s.side sd).az.length).toNat with
 |[]=>(0,s,[])
 |c::cs=>(0,dh s (c::cs) [sd],[⟨9,sd,0,0,0,0,c::cs⟩])
theorem Qeu{σ:List ab}{rb:Nat}{b:Bk}{s:St}{sd tg fu:Int}{mv lv:aa}{l:List Ev}(hr:aj σ rb=.box (dt b s sd tg lv fu mv))(hl:LV rb l lv σ)(hn:l.length<=1000000000)(h01:sd=0∨sd=1)
 (hT:TB 100000000 s)(hd:(s.side sd).az.length<=100000000)(x:Ef)(n:Int){K:KT}(hK:∀v σ',Dn rb b sd tg fu l lv σ (gy s sd n) v σ'→K v σ'):g86.u VV [.ak rb 0,.agg (bj x),iv n] σ K:=by
 have uV:=Yb hr;have f0:Fr rb lv lv σ (σ++[ab.box (bj x)]):=Fr.app _ (λk n e=>hl.lt e);have r1:=Qb [ab.box (bj x)] hr;have l1:LV rb l lv (σ++[ab.box (bj x)]):=hl.fQ (λk hk _=>Yf _ hk);have hF:∀cs,(s.side sd).az.take (min (max n 0) (s.side sd).az.length).toNat=cs→gy s sd n=match cs with | []=>(0,s,[])|c::cs=>(0,dh s (c::cs) [sd],[⟨9,sd,0,0,0,0,c::cs⟩]):=by
  intro cs h;rw[gy,h]
 obtain⟨j,hj,t_⟩:∃j:Nat,min (max n 0) ((s.side sd).az.length:Int)=j∧j<=(s.side sd).az.length:=⟨(min (max n 0) ((s.side sd).az.length:Int)).toNat,by omega,by omega⟩;rw[hj,Int.toNat_natCast]at hF;rw[H3.e];unfold g86;dsimp only;refine Yd (XM _ _) (Xe σ _) (Za rfl (Za rfl (Za rfl (Za (ld r1 rfl) (Za rfl (Za rfl (Za rfl ?_)))))));rcases h01 with rfl|rfl
 ·refine Za rfl (Za rfl (Za (ld r1 rfl) (Za (vA ..) (Za rfl (Za (Z1 ..) ?_)))));have t_:j<=s.s0.az.length:=t_;have hd:s.s0.az.length<=100000000:=hd;rw[show min (max n 0) ((s.s0.az.map aR).length:Int)=j from by rw[zAH];exact hj];refine Za (PT _ j t_ _) (aY (px _ (by rw[zAq];omega)) g44.ok (Za rfl (Za (o_ ..) ?_)));have hle:(s.s0.az.take j).length<=100000000:=by rw[zAq];omega
  have hF:=hF (s.s0.az.take j) rfl;generalize s.s0.az.take j=cs at *;refine Ya (λh=>?_) (λh=>?_)
  ·obtain⟨c,cs,rfl⟩:∃c Bm,cs=c::Bm:=by
    cases cs with
    |nil=>simp at h
    |cons c cs=>exact⟨c,cs,rfl⟩
   have hF:gy s 0 n=(0,dh s (c::cs) [0],[⟨9,0,0,0,0,0,c::cs⟩]):=hF;refine Yd (v:=.sl (σ++[ab.box (bj x)]).length 0 1 true) (rd:=[]) (up:=[((σ++[ab.box (bj x)]).length,.rows 1 [[iv 0]])]) rfl (Xe _ _) ?_;have jy:rb<(σ++[ab.box (bj x)]).length:=by simp;omega
   have r2:=Qb [.rows 1 [[iv 0]]] r1;have f1:Fr rb lv lv (σ++[ab.box (bj x)]) (σ++[ab.box (bj x)]++[.rows 1 [[iv 0]]]):=Fr.app _ (λk n e=>l1.lt e);have l2:LV rb l lv (σ++[ab.box (bj x)]++[.rows 1 [[iv 0]]]):=l1.fQ (λk hk _=>Yf _ hk);refine Qd hP (f:=129) rfl g129.ok rfl (GC r2 (c::cs) (aP (c::cs)) [] (λ_=>rfl) [0] _ (Yc _ _) (by omega) (by simp) 100000000 hT (by simp at hle ⊢;omega) (by simp) (Za (v:=.agg (cV ⟨9,0,0,0,0,0,c::cs⟩ (aP (c::cs)))) rfl (Qd hP (f:=126) rfl g126.ok rfl (vh (Zq (zAb (by simp;omega))) (l2.fQ (λk hk gC=>Xc _ hk gC)) hn _ _ (.inl rfl) (λσ' cB q1 q2 q3=>?_)))));exact(hK _ _ ⟨cB,mv,((f0.trans f1).trans (Fr.set lv _)).trans q1,by rw[hF];exact q2,by rw[hF],by rw[hF];exact q3⟩)
  ·have:cs=[]:=by
    cases cs with
    |nil=>rfl
    |cons c cs=>simp at h
   subst this;have hF:gy s 0 n=(0,s,[]):=hF;exact hK _ _ ⟨lv,mv,f0,by rw[hF];exact r1,by rw[hF],by rw[hF];simpa using l1⟩
 ·refine Za rfl (Za rfl (Za (ld r1 rfl) (Za (vA ..) (Za rfl (Za (Z1 ..) ?_)))));have t_:j<=s.s1.az.length:=t_;have hd:s.s1.az.length<=100000000:=hd;rw[show min (max n 0) ((s.s1.az.map aR).length:Int)=j from by rw[zAH];exact hj];refine Za (PT _ j t_ _) (aY (px _ (by rw[zAq];omega)) g44.ok (Za rfl (Za (o_ ..) ?_)));have hle:(s.s1.az.take j).length<=100000000:=by rw[zAq];omega
  have hF:=hF (s.s1.az.take j) rfl;generalize s.s1.az.take j=cs at *;refine Ya (λh=>?_) (λh=>?_)
  ·obtain⟨c,cs,rfl⟩:∃c Bm,cs=c::Bm:=by
    cases cs with
    |nil=>simp at h
    |cons c cs=>exact⟨c,cs,rfl⟩
   have hF:gy s 1 n=(0,dh s (c::cs) [1],[⟨9,1,0,0,0,0,c::cs⟩]):=hF;refine Yd (v:=.sl (σ++[ab.box (bj x)]).length 0 1 true) (rd:=[]) (up:=[((σ++[ab.box (bj x)]).length,.rows 1 [[iv 1]])]) rfl (Xe _ _) ?_;have jy:rb<(σ++[ab.box (bj x)]).length:=by simp;omega
   have r2:=Qb [.rows 1 [[iv 1]]] r1;have f1:Fr rb lv lv (σ++[ab.box (bj x)]) (σ++[ab.box (bj x)]++[.rows 1 [[iv 1]]]):=Fr.app _ (λk n e=>l1.lt e);have l2:LV rb l lv (σ++[ab.box (bj x)]++[.rows 1 [[iv 1]]]):=l1.fQ (λk hk _=>Yf _ hk);refine Qd hP (f:=129) rfl g129.ok rfl (GC r2 (c::cs) (aP (c::cs)) [] (λ_=>rfl) [1] _ (Yc _ _) (by omega) (by simp) 100000000 hT (by simp at hle ⊢;omega) (by simp) (Za (v:=.agg (cV ⟨9,1,0,0,0,0,c::cs⟩ (aP (c::cs)))) rfl (Qd hP (f:=126) rfl g126.ok rfl (vh (Zq (zAb (by simp;omega))) (l2.fQ (λk hk gC=>Xc _ hk gC)) hn _ _ (.inl rfl) (λσ' cB q1 q2 q3=>?_)))));exact(hK _ _ ⟨cB,mv,((f0.trans f1).trans (Fr.set lv _)).trans q1,by rw[hF];exact q2,by rw[hF],by rw[hF];exact q3⟩)
  ·have:cs=[]:=by
    cases cs with
    |nil=>rfl
    |cons c cs=>simp at h
   subst this;have hF:gy s 1 n=(0,s,[]):=hF;exact hK _ _ ⟨lv,mv,f0,by rw[hF];exact r1,by rw[hF],by rw[hF];simpa using l1⟩
theorem Gn{sd:Int}(h:sd=0∨sd=1)(w:Int):bG sd w=0∨bG sd w=1:=by
 unfold bG;split<;>omega
theorem Ag{σ:List ab}{k:Nat}{c:Int}(h:aj σ k=.rows 1 [[iv c]]):Xk 1 σ (.sl k 0 1 true)=some ([c].map aR,[k]):=by
 simp only[Xk,h];simp[cut];rfl
def mn(s:St)(i:Int):Int×St×List Ev:=(0,dh s (s.side i).hand [0,1],[⟨10,i,0,0,0,0,(s.side i).hand⟩])
theorem Xey{σ:List ab}{rb:Nat}{b:Bk}{s:St}{sd tg fu:Int}{mv lv:aa}{l:List Ev}(hr:aj σ rb=.box (dt b s sd tg lv fu mv))(hl:LV rb l lv σ)(hn:l.length<=1000000000)(h01:sd=0∨sd=1)
 (hT:TB 100000000 s)(zE:s.s0.hand.length<=100000000)(BB:s.s1.hand.length<=100000000)(x:Ef)(n:Int){K:KT}(hK:∀v σ',Dn rb b sd tg fu l lv σ (mn s (bG sd x.who)) v σ'→K v σ'):g87.u VV [.ak rb 0,.agg (bj x),iv n] σ K:=by
 have uV:=Yb hr;have f0:Fr rb lv lv σ (σ++[ab.box (bj x)]):=Fr.app _ (λk n e=>hl.lt e);have r1:=Qb [ab.box (bj x)] hr;have l1:LV rb l lv (σ++[ab.box (bj x)]):=hl.fQ (λk hk _=>Yf _ hk);rw[H3.e];unfold g87;dsimp only;refine Yd (XM _ _) (Xe σ _) (Za rfl (Za (ld (Yc _ _) (n_ x)) ?_));refine Qd hP (f:=127) rfl g127.ok rfl (Xd2 r1 h01 _ ?_);have hw:=Gn h01 x.who;generalize bG sd x.who=i at *;refine ay ?_;have jy:rb<(σ++[ab.box (bj x)]).length:=by simp;omega
 have f1:Fr rb lv lv (σ++[ab.box (bj x)]) (σ++[ab.box (bj x)]++[.rows 1 [[iv 0],[iv 1]]]):=Fr.app _ (λk n e=>l1.lt e);have l2:LV rb l lv (σ++[ab.box (bj x)]++[.rows 1 [[iv 0],[iv 1]]]):=l1.fQ (λk hk _=>Yf _ hk);have r2:=Qb [.rows 1 [[iv 0],[iv 1]]] r1;rcases hw with rfl|rfl
 ·refine Za rfl (Za rfl (Za (ld r1 rfl) (aY (px s.s0.hand (by omega)) g44.ok ?_)));refine Yd (v:=.sl (σ++[ab.box (bj x)]).length 0 2 true) (rd:=[]) (up:=[((σ++[ab.box (bj x)]).length,.rows 1 [[iv 0],[iv 1]])]) rfl (Xe _ _) (Qd hP (f:=129) rfl g129.ok rfl (GC r2 s.s0.hand (aP s.s0.hand) [] (λ_=>rfl) [0,1] _ (Yc _ _) (by omega) (by simp) 100000000 hT (by simp;omega) (by simp) (Za (v:=.agg (cV ⟨10,0,0,0,0,0,s.s0.hand⟩ (aP s.s0.hand))) rfl (Qd hP (f:=126) rfl g126.ok rfl (vh (Zq (zAb (by simp;omega))) (l2.fQ (λk hk gC=>Xc _ hk gC)) hn _ _ (.inl rfl) (λσ' cB q1 q2 q3=>?_))))));exact hK _ _ ⟨cB,mv,((f0.trans f1).trans (Fr.set lv _)).trans q1,q2,rfl,q3⟩
 ·refine Za rfl (Za rfl (Za (ld r1 rfl) (aY (px s.s1.hand (by omega)) g44.ok ?_)));refine Yd (v:=.sl (σ++[ab.box (bj x)]).length 0 2 true) (rd:=[]) (up:=[((σ++[ab.box (bj x)]).length,.rows 1 [[iv 0],[iv 1]])]) rfl (Xe _ _) (Qd hP (f:=129) rfl g129.ok rfl (GC r2 s.s1.hand (aP s.s1.hand) [] (λ_=>rfl) [0,1] _ (Yc _ _) (by omega) (by simp) 100000000 hT (by simp;omega) (by simp) (Za (v:=.agg (cV ⟨10,1,0,0,0,0,s.s1.hand⟩ (aP s.s1.hand))) rfl (Qd hP (f:=126) rfl g126.ok rfl (vh (Zq (zAb (by simp;omega))) (l2.fQ (λk hk gC=>Xc _ hk gC)) hn _ _ (.inl rfl) (λσ' cB q1 q2 q3=>?_))))));exact hK _ _ ⟨cB,mv,((f0.trans f1).trans (Fr.set lv _)).trans q1,q2,rfl,q3⟩
def cU(s:St)(i:Int):Int×St×List Ev:=
 match (s.side i).hand with
 |[]=>(0,s,[])
 |c::h=>(0,dh (s.put i { s.side i with hand:=h,al:=(s.side i).al++[c] }) [c] [0,1],[⟨8,i,c,0,0,0,[]⟩])
theorem Yeo{σ:List ab}{rb:Nat}{b:Bk}{s:St}{sd tg fu:Int}{mv lv:aa}{l:List Ev}(hr:aj σ rb=.box (dt b s sd tg lv fu mv))(hl:LV rb l lv σ)(hn:l.length<=1000000000)(h01:sd=0∨sd=1)
 (hT:TB 100000000 s)(zE:s.s0.hand.length<=100000000∧s.s0.al.length<=100000000)(BB:s.s1.hand.length<=100000000∧s.s1.al.length<=100000000)(x:Ef)(n:Int){K:KT}(hK:∀v σ',Dn rb b sd tg fu l lv σ (cU s (bG sd x.who)) v σ'→K v σ'):g85.u VV [.ak rb 0,.agg (bj x),iv n] σ K:=by
 have uV:=Yb hr;have f0:Fr rb lv lv σ (σ++[ab.box (bj x)]):=Fr.app _ (λk n e=>hl.lt e);have r1:=Qb [ab.box (bj x)] hr;have l1:LV rb l lv (σ++[ab.box (bj x)]):=hl.fQ (λk hk _=>Yf _ hk);rw[H3.e];unfold g85;dsimp only;refine Yd (XM _ _) (Xe σ _) (Za rfl (Za (ld (Yc _ _) (n_ x)) ?_));refine Qd hP (f:=127) rfl g127.ok rfl (Xd2 r1 h01 _ ?_);have hw:=Gn h01 x.who;generalize bG sd x.who=i at *;refine ay ?_;have jy:rb<(σ++[ab.box (bj x)]).length:=by simp;omega
 generalize hσ:σ++[ab.box (bj x)]=τ at *;rcases hw with rfl|rfl
 ·refine ay ?_;refine Za (ld r1 rfl) ?_;refine ae ?_;obtain⟨hd,hg⟩:=zE;have hF:∀h,s.s0.hand=h→cU s 0=match h with | []=>(0,s,[])|c::h=>(0,dh (s.put 0 { s.s0 with hand:=h,al:=s.s0.al++[c] }) [c] [0,1],[⟨8,0,c,0,0,0,[]⟩]):=by
   intro h e;subst e;rfl
  have VD:=r1;generalize hh:s.s0.hand=h at *;cases h with
  |nil=>
   have hF:=hF [] rfl;refine Yh ?_;exact hK _ _ ⟨lv,mv,f0,by rw[hF];exact VD,by rw[hF],by rw[hF];simpa using l1⟩
  |cons c h=>
  have hF:cU s 0=(0,dh (s.put 0 { s.s0 with hand:=h,al:=s.s0.al++[c] }) [c] [0,1],[⟨8,0,c,0,0,0,[]⟩]):=hF _ rfl;refine Ya (λh=>by simp at h;omega) (λ_=>?_);refine Za rfl (Za rfl (Za (ld r1 rfl) ?_));rw[hh];refine ay (Za (ld r1 rfl) ?_);rw[hh];have Uh:h.length<=1000000000:=by simp at hd;omega
  refine Za (W0 c h _) (aY (px h Uh) g44.ok (Za rfl (Za rfl ?_)));refine Yd (cX (row':=dt b (s.put 0 { s.s0 with hand:=h }) sd tg lv fu mv) r1 rfl rfl rfl) (Ze _ jy) ?_;have r2:aj (τ.set rb (.box (dt b (s.put 0 { s.s0 with hand:=h }) sd tg lv fu mv))) rb=.box (dt b (s.put 0 { s.s0 with hand:=h }) sd tg lv fu mv):=Zq (zAb jy);have f2:Fr rb lv lv σ (τ.set rb (.box (dt b (s.put 0 { s.s0 with hand:=h }) sd tg lv fu mv))):=f0.trans (Fr.set lv _);have l2:LV rb l lv (τ.set rb (.box (dt b (s.put 0 { s.s0 with hand:=h }) sd tg lv fu mv))):=l1.fQ (λk hk gC=>Xc _ hk gC);have UN:rb<(τ.set rb (.box (dt b (s.put 0 { s.s0 with hand:=h }) sd tg lv fu mv))).length:=by simpa using jy
  generalize τ.set rb (.box (dt b (s.put 0 { s.s0 with hand:=h }) sd tg lv fu mv))=τ2 at *;refine Za rfl (Za rfl (Za (ld r2 rfl) (aY (c405 s.s0.al) g128.ok ?_)));refine Yd (v:=.sl τ2.length 0 1 true) (rd:=[]) (up:=[(τ2.length,.rows 1 [[iv c]])]) rfl (Xe _ _) ?_;have r3:=Qb [ab.rows 1 [[iv c]]] r2;have f3:Fr rb lv lv σ (τ2++[ab.rows 1 [[iv c]]]):=f2.trans (Fr.app _ (λk n e=>l2.lt e));have l3:LV rb l lv (τ2++[ab.rows 1 [[iv c]]]):=l2.fQ (λk hk _=>Yf _ hk);have n3:=Yc τ2 (.rows 1 [[iv c]]);have s9:rb<(τ2++[ab.rows 1 [[iv c]]]).length:=by simp;omega
  refine Yd (ML s.s0.al [c] (Ag n3) (by simp;omega)) rfl (Za rfl (Za rfl ?_));generalize τ2++[ab.rows 1 [[iv c]]]=τ3 at *;refine Yd (cX (row':=dt b (s.put 0 { s.s0 with hand:=h,al:=s.s0.al++[c] }) sd tg lv fu mv) r3 rfl rfl rfl) (Ze _ s9) ?_;have r4:aj (τ3.set rb (.box (dt b (s.put 0 { s.s0 with hand:=h,al:=s.s0.al++[c] }) sd tg lv fu mv))) rb=.box (dt b (s.put 0 { s.s0 with hand:=h,al:=s.s0.al++[c] }) sd tg lv fu mv):=Zq (zAb s9);have f4:Fr rb lv lv σ (τ3.set rb (.box (dt b (s.put 0 { s.s0 with hand:=h,al:=s.s0.al++[c] }) sd tg lv fu mv))):=f3.trans (Fr.set lv _);have l4:LV rb l lv (τ3.set rb (.box (dt b (s.put 0 { s.s0 with hand:=h,al:=s.s0.al++[c] }) sd tg lv fu mv))):=l3.fQ (λk hk gC=>Xc _ hk gC);have UO:rb<(τ3.set rb (.box (dt b (s.put 0 { s.s0 with hand:=h,al:=s.s0.al++[c] }) sd tg lv fu mv))).length:=by simpa using s9
  have TR:TB 100000000 (s.put 0 { s.s0 with hand:=h,al:=s.s0.al++[c] }):=hT;generalize τ3.set rb (.box (dt b (s.put 0 { s.s0 with hand:=h,al:=s.s0.al++[c] }) sd tg lv fu mv))=τ4 at *;generalize s.put 0 { s.s0 with hand:=h,al:=s.s0.al++[c] }=s4 at *;refine Yd (v:=.sl τ4.length 0 1 true) (rd:=[]) (up:=[(τ4.length,.rows 1 [[iv c]])]) rfl (Xe _ _) ?_;have r5:=Qb [ab.rows 1 [[iv c]]] r4;have f5:Fr rb lv lv σ (τ4++[ab.rows 1 [[iv c]]]):=f4.trans (Fr.app _ (λk n e=>l4.lt e));have l5:LV rb l lv (τ4++[ab.rows 1 [[iv c]]]):=l4.fQ (λk hk _=>Yf _ hk);have n5:=Yc τ4 (.rows 1 [[iv c]]);have UP:rb<(τ4++[ab.rows 1 [[iv c]]]).length:=by simp;omega
  have Vx:τ4.length≠rb:=by omega
  generalize τ4++[ab.rows 1 [[iv c]]]=τ5 at *;refine Yd (v:=.sl τ5.length 0 2 true) (rd:=[]) (up:=[(τ5.length,.rows 1 [[iv 0],[iv 1]])]) rfl (Xe _ _) ?_;have r6:=Qb [ab.rows 1 [[iv 0],[iv 1]]] r5;have f6:Fr rb lv lv σ (τ5++[ab.rows 1 [[iv 0],[iv 1]]]):=f5.trans (Fr.app _ (λk n e=>l5.lt e));have l6:LV rb l lv (τ5++[ab.rows 1 [[iv 0],[iv 1]]]):=l5.fQ (λk hk _=>Yf _ hk);have n6:=Qb [ab.rows 1 [[iv 0],[iv 1]]] n5;have m6:=Yc τ5 (.rows 1 [[iv 0],[iv 1]]);have Du:rb<(τ5++[ab.rows 1 [[iv 0],[iv 1]]]).length:=by simp;omega
  refine Qd hP (f:=129) rfl g129.ok rfl (GC r6 [c] (.sl τ4.length 0 1 true) [τ4.length] (λy=>Ag (Zb n6 (by simp) Vx.symm)) [0,1] _ m6 (by omega) (by simp) 100000000 TR (by simp) (by simp) (Za (v:=.agg (cV ⟨8,0,c,0,0,0,[]⟩ .an)) rfl (Qd hP (f:=126) rfl g126.ok rfl (vh (Zq (zAb Du)) (l6.fQ (λk hk gC=>Xc _ hk gC)) hn _ _ (.inr ⟨rfl,rfl⟩) (λσ' cB q1 q2 q3=>?_)))));exact hK _ _ ⟨cB,mv,(f6.trans (Fr.set lv _)).trans q1,by rw[hF];exact q2,by rw[hF],by rw[hF];exact q3⟩
 ·refine ay ?_;refine Za (ld r1 rfl) ?_;refine ae ?_;obtain⟨hd,hg⟩:=BB;have hF:∀h,s.s1.hand=h→cU s 1=match h with | []=>(0,s,[])|c::h=>(0,dh (s.put 1 { s.s1 with hand:=h,al:=s.s1.al++[c] }) [c] [0,1],[⟨8,1,c,0,0,0,[]⟩]):=by
   intro h e;subst e;rfl
  have VD:=r1;generalize hh:s.s1.hand=h at *;cases h with
  |nil=>
   have hF:=hF [] rfl;refine Yh ?_;exact hK _ _ ⟨lv,mv,f0,by rw[hF];exact VD,by rw[hF],by rw[hF];simpa using l1⟩
  |cons c h=>
  have hF:cU s 1=(0,dh (s.put 1 { s.s1 with hand:=h,al:=s.s1.al++[c] }) [c] [0,1],[⟨8,1,c,0,0,0,[]⟩]):=hF _ rfl;refine Ya (λh=>by simp at h;omega) (λ_=>?_);refine Za rfl (Za rfl (Za (ld r1 rfl) ?_));rw[hh];refine ay (Za (ld r1 rfl) ?_);rw[hh];have Uh:h.length<=1000000000:=by simp at hd;omega
  refine Za (W0 c h _) (aY (px h Uh) g44.ok (Za rfl (Za rfl ?_)));refine Yd (cX (row':=dt b (s.put 1 { s.s1 with hand:=h }) sd tg lv fu mv) r1 rfl rfl rfl) (Ze _ jy) ?_;have r2:aj (τ.set rb (.box (dt b (s.put 1 { s.s1 with hand:=h }) sd tg lv fu mv))) rb=.box (dt b (s.put 1 { s.s1 with hand:=h }) sd tg lv fu mv):=Zq (zAb jy);have f2:Fr rb lv lv σ (τ.set rb (.box (dt b (s.put 1 { s.s1 with hand:=h }) sd tg lv fu mv))):=f0.trans (Fr.set lv _);have l2:LV rb l lv (τ.set rb (.box (dt b (s.put 1 { s.s1 with hand:=h }) sd tg lv fu mv))):=l1.fQ (λk hk gC=>Xc _ hk gC);have UN:rb<(τ.set rb (.box (dt b (s.put 1 { s.s1 with hand:=h }) sd tg lv fu mv))).length:=by simpa using jy
  generalize τ.set rb (.box (dt b (s.put 1 { s.s1 with hand:=h }) sd tg lv fu mv))=τ2 at *;refine Za rfl (Za rfl (Za (ld r2 rfl) (aY (c405 s.s1.al) g128.ok ?_)));refine Yd (v:=.sl τ2.length 0 1 true) (rd:=[]) (up:=[(τ2.length,.rows 1 [[iv c]])]) rfl (Xe _ _) ?_;have r3:=Qb [ab.rows 1 [[iv c]]] r2;have f3:Fr rb lv lv σ (τ2++[ab.rows 1 [[iv c]]]):=f2.trans (Fr.app _ (λk n e=>l2.lt e));have l3:LV rb l lv (τ2++[ab.rows 1 [[iv c]]]):=l2.fQ (λk hk _=>Yf _ hk);have n3:=Yc τ2 (.rows 1 [[iv c]]);have s9:rb<(τ2++[ab.rows 1 [[iv c]]]).length:=by simp;omega
  refine Yd (ML s.s1.al [c] (Ag n3) (by simp;omega)) rfl (Za rfl (Za rfl ?_));generalize τ2++[ab.rows 1 [[iv c]]]=τ3 at *;refine Yd (cX (row':=dt b (s.put 1 { s.s1 with hand:=h,al:=s.s1.al++[c] }) sd tg lv fu mv) r3 rfl rfl rfl) (Ze _ s9) ?_;have r4:aj (τ3.set rb (.box (dt b (s.put 1 { s.s1 with hand:=h,al:=s.s1.al++[c] }) sd tg lv fu mv))) rb=.box (dt b (s.put 1 { s.s1 with hand:=h,al:=s.s1.al++[c] }) sd tg lv fu mv):=Zq (zAb s9);have f4:Fr rb lv lv σ (τ3.set rb (.box (dt b (s.put 1 { s.s1 with hand:=h,al:=s.s1.al++[c] }) sd tg lv fu mv))):=f3.trans (Fr.set lv _);have l4:LV rb l lv (τ3.set rb (.box (dt b (s.put 1 { s.s1 with hand:=h,al:=s.s1.al++[c] }) sd tg lv fu mv))):=l3.fQ (λk hk gC=>Xc _ hk gC);have UO:rb<(τ3.set rb (.box (dt b (s.put 1 { s.s1 with hand:=h,al:=s.s1.al++[c] }) sd tg lv fu mv))).length:=by simpa using s9
  have TR:TB 100000000 (s.put 1 { s.s1 with hand:=h,al:=s.s1.al++[c] }):=hT;generalize τ3.set rb (.box (dt b (s.put 1 { s.s1 with hand:=h,al:=s.s1.al++[c] }) sd tg lv fu mv))=τ4 at *;generalize s.put 1 { s.s1 with hand:=h,al:=s.s1.al++[c] }=s4 at *;refine Yd (v:=.sl τ4.length 0 1 true) (rd:=[]) (up:=[(τ4.length,.rows 1 [[iv c]])]) rfl (Xe _ _) ?_;have r5:=Qb [ab.rows 1 [[iv c]]] r4;have f5:Fr rb lv lv σ (τ4++[ab.rows 1 [[iv c]]]):=f4.trans (Fr.app _ (λk n e=>l4.lt e));have l5:LV rb l lv (τ4++[ab.rows 1 [[iv c]]]):=l4.fQ (λk hk _=>Yf _ hk);have n5:=Yc τ4 (.rows 1 [[iv c]]);have UP:rb<(τ4++[ab.rows 1 [[iv c]]]).length:=by simp;omega
  have Vx:τ4.length≠rb:=by omega
  generalize τ4++[ab.rows 1 [[iv c]]]=τ5 at *;refine Yd (v:=.sl τ5.length 0 2 true) (rd:=[]) (up:=[(τ5.length,.rows 1 [[iv 0],[iv 1]])]) rfl (Xe _ _) ?_;have r6:=Qb [ab.rows 1 [[iv 0],[iv 1]]] r5;have f6:Fr rb lv lv σ (τ5++[ab.rows 1 [[iv 0],[iv 1]]]):=f5.trans (Fr.app _ (λk n e=>l5.lt e));have l6:LV rb l lv (τ5++[ab.rows 1 [[iv 0],[iv 1]]]):=l5.fQ (λk hk _=>Yf _ hk);have n6:=Qb [ab.rows 1 [[iv 0],[iv 1]]] n5;have m6:=Yc τ5 (.rows 1 [[iv 0],[iv 1]]);have Du:rb<(τ5++[ab.rows 1 [[iv 0],[iv 1]]]).length:=by simp;omega
  refine Qd hP (f:=129) rfl g129.ok rfl (GC r6 [c] (.sl τ4.length 0 1 true) [τ4.length] (λy=>Ag (Zb n6 (by simp) Vx.symm)) [0,1] _ m6 (by omega) (by simp) 100000000 TR (by simp) (by simp) (Za (v:=.agg (cV ⟨8,1,c,0,0,0,[]⟩ .an)) rfl (Qd hP (f:=126) rfl g126.ok rfl (vh (Zq (zAb Du)) (l6.fQ (λk hk gC=>Xc _ hk gC)) hn _ _ (.inr ⟨rfl,rfl⟩) (λσ' cB q1 q2 q3=>?_)))));exact hK _ _ ⟨cB,mv,(f6.trans (Fr.set lv _)).trans q1,by rw[hF];exact q2,by rw[hF],by rw[hF];exact q3⟩
end Go.Ah.Tz
end
