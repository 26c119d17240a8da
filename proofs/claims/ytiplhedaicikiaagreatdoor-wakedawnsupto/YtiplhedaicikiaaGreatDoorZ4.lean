/- Part of the proof that WakeDawns holds of the program for arguments that together hold at most 1048576 values and letters; no other condition. -/
import Derived.Test.YtiplhedaicikiaaGreatDoorZ3
import Derived.Sort.OwnSortedInts
import Derived.Recover
set_option linter.all false
open Bool renaming and_assoc->zCM,and_eq_true->AI,and_self->zAw,and_true->zBA,eq_false_iff->zBH,eq_iff_iff->zAo,false_eq_true->zAW,false_or->zCR,not_eq_false'->zBt,not_eq_true'->zAg,or_eq_false_iff->zAx,true_and->zAH
open False renaming elim->zDK
open Function renaming comp_def->zCk
open Go.Act renaming put->zDb
open Go.Calls renaming mono->zDO
open Go.IntKind renaming i64->BY
open Go.IntWalk renaming i64_in->zAY
open Go.Oper renaming upon->zDA,wp->zEA
open Go.Sem renaming run_pure->zAA
open List renaming all_eq_true->zAm,append_assoc->zAb,append_nil->zBE,cons_append->zAJ,contains_cons->zDx,drop_length->zAD,eraseIdx_sublist->zCj,filter_sublist->zDq,findIdx?_cons->zDw,forall_mem_cons->zCi,getElem?_append_left->zAU,getElem?_eq_getElem->zAP,getElem?_map->zAT,getElem?_set_self->zAe,getElem_mem->AT,length_append->By,length_cons->IS,length_eq_zero_iff->zAc,length_eraseIdx_le->zDZ,length_eraseIdx_of_lt->zCH,length_map->zAM,length_nil->zAG,length_set->zCf,length_singleton->zBa,length_take->zAk,map_append->zAa,map_cons->zAN,map_nil->zBC,map_set->zDc,mem_append->zAF,mem_append_left->zAp,mem_append_right->zAi,mem_cons->zAS,mem_cons_of_mem->zAr,mem_map->zAh,mem_of_getElem?->zAI,nil_append->zAL,nodup_cons->zBr,range->zAB,range'->zBI,replicate->zAf,set_getElem_self->zDg,set_set->zDB,take_add_one->zCw,take_length->zAl
open List.Sublist renaming map->zDX,refl->zBL
open List.cons renaming injEq->zCL
open List.range renaming loop->zAd
open Nat renaming add_comm->zDu,beq->IT,beq_refl->zBf,ble->zAR,ble_eq_true_of_le->sh,blt->zAn,le_refl->No,le_succ_of_le->zAq,le_trans->zAX,lt_of_lt_of_le->zAK,zero_add->IN
open Option renaming getD_some->zAt
open Prod.mk renaming injEq->zBm
section
namespace Go.Ah.Tz
open Go.Proofs.Tryz (prog)
attribute [local irreducible] aE.rd aE.pu aE.wr aE.dr aE.gr aE.gw aE.gl aE.gd aE.opt cP W
set_option maxHeartbeats 1000000
variable{r1:aN}
variable{c d bare ex:Bool}
variable{GL:aw}
variable{P:Program}
variable{σ:List ab}
theorem QdD{K:aa→Prop}(h1:r1=.ok (.bool d) [] [])(hK:K (.bool (c&&d))) :
  (W P GL).gr (.bool c) true (λk=>(W P GL).rd r1 k) λt1=>(W P GL).rd (Yo [.bool c,t1,.bool false] σ) K:=by
 cases c with
 |true=>exact Qa (Za h1 (Za rfl hK))
 |false=>exact Qc rfl (Za rfl hK)
variable{v1 v2 v3 v:aa}
variable{q1 q2 q3 q4 rd:List Nat}
theorem YdE{K:aa→Prop}{r2:aN}{f3:aa→aa→aN}{f4:aa→aN}(h1:r1=.ok v1 q1 [])(h2:r2=.ok v2 q2 [])(h3:f3 v1 v2=.ok v3 q3 [])(h4:f4 v3=.ok (.bool d) q4 [])(hK:K (.bool (c&&d))) :
  (W P GL).gr (.bool c) true (λk=>(W P GL).rd r1 k) λt1=>(W P GL).gr (.bool c) true (λk=>(W P GL).rd r2 k) λt2=>(W P GL).gr (.bool c) true (λk=>(W P GL).rd (f3 t1 t2) k) λt3=>(W P GL).gr (.bool c) true (λk=>(W P GL).rd (f4 t3) k) λt4=>(W P GL).rd (Yo [.bool c,t4,.bool false] σ) K:=by
 cases c with
 |true=>exact Qa (Za h1 (Qa (Za h2 (Qa (Za h3 (Qa (Za h4 (Za rfl hK))))))))
 |false=>exact Qc rfl (Qc rfl (Qc rfl (Qc rfl (Za rfl hK))))
theorem XdE{K:aa→Prop}{r3:aN}{f2 f4:aa→aN}{f5:aa→aa→aN}{v4:aa}{q5:List Nat}(h1:r1=.ok v1 q1 [])(h2:f2 v1=.ok v2 q2 [])(h3:r3=.ok v3 q3 [])(h4:f4 v3=.ok v4 q4 [])(h5:f5 v2 v4=.ok (.bool d) q5 [])(hK:K (.bool (c&&d))) :
  (W P GL).gr (.bool c) true (λk=>(W P GL).rd r1 k) λt1=>(W P GL).gr (.bool c) true (λk=>(W P GL).rd (f2 t1) k) λt2=>(W P GL).gr (.bool c) true (λk=>(W P GL).rd r3 k) λt3=>(W P GL).gr (.bool c) true (λk=>(W P GL).rd (f4 t3) k) λt4=>(W P GL).gr (.bool c) true (λk=>(W P GL).rd (f5 t2 t4) k) λt5=>(W P GL).rd (Yo [.bool c,t5,.bool false] σ) K:=by
 cases c with
 |true=>exact Qa (Za h1 (Qa (Za h2 (Qa (Za h3 (Qa (Za h4 (Qa (Za h5 (Za rfl hK))))))))))
 |false=>exact Qc rfl (Qc rfl (Qc rfl (Qc rfl (Qc rfl (Za rfl hK)))))
theorem QdE{K:aa→Prop}{r2:aN}{f3:aa→aN}{f4:aa→aa→aN}{f5:aa→aN}{v4:aa}{q5:List Nat}(h1:r1=.ok v1 q1 [])(h2:r2=.ok v2 q2 [])(h3:f3 v2=.ok v3 q3 [])(h4:f4 v1 v3=.ok v4 q4 [])(h5:f5 v4=.ok (.bool d) q5 [])(hK:K (.bool (c&&d))) :
  (W P GL).gr (.bool c) true (λk=>(W P GL).rd r1 k) λt1=>(W P GL).gr (.bool c) true (λk=>(W P GL).rd r2 k) λt2=>(W P GL).gr (.bool c) true (λk=>(W P GL).rd (f3 t2) k) λt3=>(W P GL).gr (.bool c) true (λk=>(W P GL).rd (f4 t1 t3) k) λt4=>(W P GL).gr (.bool c) true (λk=>(W P GL).rd (f5 t4) k) λt5=>(W P GL).rd (Yo [.bool c,t5,.bool false] σ) K:=by
 cases c with
 |true=>exact Qa (Za h1 (Qa (Za h2 (Qa (Za h3 (Qa (Za h4 (Qa (Za h5 (Za rfl hK))))))))))
 |false=>exact Qc rfl (Qc rfl (Qc rfl (Qc rfl (Qc rfl (Za rfl hK)))))
theorem ZdE{K:List ab→aa→Prop}{f2:aa→aN}{f3:aa→(KT)→Prop}{g:List ab→List ab}(h1:r1=.ok v1 q1 [])(h2:f2 v1=.ok v2 q2 [])(h3:∀k:KT,k (.bool d) σ→f3 v2 k)(hK:K σ (.bool (c&&d))) :
  (W P GL).gr (.bool c) true (λk=>(W P GL).rd r1 k) λt1=>(W P GL).gr (.bool c) true (λk=>(W P GL).rd (f2 t1) k) λt2=>(W P GL).gw (.bool c) true (λk=>f3 t2 k) σ λt3 σ'=>(W P GL).rd (Yo [.bool c,t3,.bool false] (g σ')) (K σ'):=by
 cases c with
 |true=>exact Qa (Za h1 (Qa (Za h2 (Qp (h3 _ (Za rfl hK))))))
 |false=>exact Qc rfl (Qc rfl (Qx rfl (Za rfl hK)))
def Old(σ σ':List ab):Prop:=σ.length<=σ'.length∧∀c,c<σ.length→ai σ' c=ai σ c
theorem Old.trans{a b c:List ab}(h:Old a b)(k:Old b c):Old a c:=⟨zAX h.1 k.1,λi hi=>by rw[k.2 i (by have:=h.1;omega),h.2 i hi]⟩
theorem Old.app(σ l:List ab):Old σ (σ++l):=⟨by simp,λ_ h=>Yf l h⟩
theorem Old.get{σ':List ab}(h:Old σ σ'){c:Nat}{x:ab}(hx:ai σ c=x)(hd:x≠.dead):ai σ' c=x:=by
 rw[h.2 c (Zb hx hd)];exact hx
theorem Bt.L0{σ':List ab}{x:ab}(h:Bt σ.length (σ++[x]) σ'):Old σ σ':=by
 obtain⟨h1,h2⟩:=h;simp only[By,zBa]at h1 h2;exact⟨by omega,λc hc=>by rw[h2 c (by omega) (by omega),Yf _ hc]⟩
def n8(m:List (Tx×Bool))(l:List Tx):Prop:=∀t,(cy t m).getD false=l.any λd=>d==t
theorem n8.nil:n8 [] []:=λt=>by simp[cy]
theorem n8.put{m:List (Tx×Bool)}{l:List Tx}(h:n8 m l)(c:Tx):n8 (lT c true m) (l++[c]):=by
 intro t;rw[X5,List.any_append,←h t]
 grind
variable{α:Type}
theorem Xdw(l:List α)(f:α→Bool):(!l.any f)=l.all λx=>!f x:=by
 grind
theorem Xd7(b:Bk)(hc:b.aj.length<=gy)(l:List Tx)(hl:l.length<=gy)(ok:Bool)(Ho:ai σ 0=.box [iM b.aj,px b.ar]){K:nA}
 (hK:∀w σ',Old σ σ'→K [w,.bool (ok&&iB b.aj [] l)] σ') :
  VV.loop (λTw v57 τ=>VV.rd (Zn .lss false [(h0 v57),iv l.length] τ) λtS=>VV.test tS (
   VV.rd (Xi 1 [HM l,(h0 v57)] τ) λm7=>VV.rd (Qe false 1 [m7] τ) λtT=>VV.rd (Qe true 2 [.ak 0 0] τ) λtU=>
   VV.call (.call 130) [tU,tT] τ λqM τ=>VV.rd (Qj 0 [qM] τ) λWA=>VV.rd (Qj 1 [qM] τ) λtV=>
   VV.gr (h1 v57) true (λk=>VV.rd (rl [tV] τ) k) λF4=>VV.rd (Yo [(h1 v57),F4,(.bool false)] τ) λpn=>
   VV.gr pn true (λk=>VV.rd (rl [.map σ.length] τ) k) λF9=>VV.gr pn true (λk=>VV.rd (rl [tT] τ) k) λGa=>
   VV.gr pn true (λk=>VV.rd (Qy true false (.bool false) [F9,Ga] τ) k) λGd=>VV.gr pn true (λk=>VV.rd (t_ .not [Gd] τ) k) λGf=>
   VV.rd (Yo [pn,Gf,(.bool false)] τ) λGh=>VV.wr (YH true [.map σ.length,tT,(.bool true)] τ) τ λ_ τ=>
   VV.rd (Zn .add false [(h0 v57),(.int .i64 1)] τ) λGq=>Tw [Gq,Gh] τ) (K v57 τ)) [(.int .i64 0),.bool ok] (σ ++ [.map []]):=by
 rw[c9]at hl;have kh:ai (σ++[.map []]) σ.length=.map (jv []):=Yc _ _;have hlen:σ.length<(σ++[ab.map []]).length:=by simp
 refine Xg (ι:=Nat) (λi vs s=>∃Wb m,vs=[iv i,.bool Wb]∧i<=l.length∧ai s σ.length=.map (jv m)∧n8 m (l.take i)∧Bt σ.length (σ++[.map []]) s∧(ok&&iB b.aj [] l)=(Wb&&iB b.aj (l.take i) (l.drop i))) (λi=>l.length-i) 0 ⟨ok,[],rfl,by omega,kh,by simpa using n8.nil,Bt.refl _ _,by simp⟩ ?_;rintro i vs s again ⟨Wb,m,rfl,hi,hm,B7,qW,hr⟩ bj;have Uh:ai s 0=.box [iM b.aj,px b.ar]:=qW.L0.get Ho (by simp);refine Za rfl (QM (λh=>?_) (λh=>?_))
 ·refine Za (Ym _ vw _ _ _ l _ i h) (Za (bB (yl _)) (Za (ld Uh rfl) ?_));refine a_ (c224 b hc _) g130.ok (Za rfl (Za rfl (QdD rfl ?_)));refine YdE rfl rfl (RE hm _) rfl (Yd (Hd hm _ _) (Ze _ (Zb hm)) (Za (Xj ..) ?_));rw[Xc (n:=i) (by omega)];have xm:=Zb hm;refine bj (i+1) _ _ (by omega) ⟨_,_,rfl,by omega,Zd _ xm,by rw[Yu _ _ h];exact B7.put _,qW.trans ⟨by simp,λc hc cU=>Xb _ hc cU⟩,?_⟩;rw[hr,gK h,iB,Yu _ _ h,B7,Xdw];simp only[zCM]
 ·subst h;rw[zAD,iB,zBA]at hr;have:=hK (iv (l.length:Int)) s qW.L0;rw[hr]at this;exact this
def ua(m:List (Tx×Bool))(l:List Fo):Prop:=∀t,(cy t m).getD false=l.any λd=>d.name==t
theorem ua.put{m:List (Tx×Bool)}{l:List Fo}(h:ua m l)(c:Fo):ua (lT c.name true m) (l++[c]):=by
 intro t;rw[X5,List.any_append,←h t]
 grind
theorem c184(b:Bk)(hf:ba b=true):PC 164 [cE b] (.agg [iv (gG b [] b.ar).1,iv (gG b [] b.ar).2]):=by
 simp only[ba,QG,AI,fD]at hf;obtain⟨⟨fc,_⟩,fl,fa⟩:=hf;have fl':=fl;rw[c9]at fl';refine Xa hP g164.ok rfl rfl ?_;rw[H1.e];unfold g164;dsimp only;refine Yd rfl rfl (Yd rfl rfl (Yd rfl rfl (Za rfl (Za rfl ?_))));refine Za (v:=iv b.ar.length) (rd:=[]) (by simp[Zf]) (Xg (ι:=Nat) (λi vs σ=>∃m,vs=[iv i]∧i<=b.ar.length∧ai σ 0=.box [iM b.aj,px b.ar]∧ai σ 1=.box [iv 0,iv 0]∧ai σ 2=.map (jv m)∧ua m (b.ar.take i)∧gG b [] b.ar=gG b (b.ar.take i) (b.ar.drop i)) (λi=>b.ar.length-i) 0 ⟨[],rfl,by omega,rfl,rfl,rfl,λt=>by simp[cy],by simp⟩ ?_);rintro i vs σ again ⟨m,rfl,hi,zQ,zS,mi,B7,hr⟩ bj;refine Za rfl (Ya (λh=>?_) (λh=>?_));rotate_left
 ·have h:i=b.ar.length:=by simp at h;omega
  subst h;rw[zAD,gG]at hr;refine Za rfl (Yd (c8 zS rfl rfl rfl) (Ze _ (Zb zS)) (Zp (Yr (Zb zS) rfl) ?_));rw[hr]
 have h:i<b.ar.length:=by simpa using h
 have cB:=λ(s:List ab)=>Ym s oH false false 7 b.ar .i64 i h;have Hv:=zAm.1 fa _ (AT h);have lq:=Yu _ _ h;rw[gK h,gG]at hr;generalize b.ar[i]=f at cB Hv lq hr;simp only[oI,AI,fD]at Hv;obtain⟨fo1,fo2,fo3⟩:=Hv;refine Za (cB _) (Za (bB (J1 f)) (Zv (row:=oH f) (row':=oH f) rfl rfl rfl ?_));have hB:=Yc σ (ab.box (oH f));have zR:ai (σ++[ab.box (oH f)]) 0=.box [iM b.aj,px b.ar]:=Qb _ zQ;have Km:ai (σ++[ab.box (oH f)]) 1=.box [iv 0,iv 0]:=Qb _ zS;have Dh:ai (σ++[ab.box (oH f)]) 2=.map (jv m):=Qb _ mi;generalize σ++[ab.box (oH f)]=τ at hB zR Km Dh ⊢;generalize σ.length=c at hB ⊢;clear zQ zS mi;refine Za (ZM ..) (ZdE (g:=λs=>s) (σ:=τ) (d:=eD f.name) rfl (ld hB rfl) (λk hk=>a_ (c223 _ fo1) g167.ok hk) (QdE rfl rfl (ld hB rfl) (RE Dh _) rfl (GW rfl (ld hB rfl) (qP ..) (XdE rfl (ld hB rfl) rfl (ld hB rfl) (NJ ..) (GW rfl (ld hB rfl) (NJ ..) (GW rfl (ld hB rfl) (qP ..) (GW rfl (ld hB rfl) (NJ ..) (Za rfl (Za (ld hB rfl) (Za rfl (Za (ld hB rfl) (Za rfl ?_))))))))))));refine YL 3 (Yl (Za rfl (Xh (Za rfl (Yd rfl (Ye _ _) ?_)))));refine Za (v:=iv f.jQ.length) (rd:=[]) (by simp[Zf]) (Xd7 b fc f.jQ fo2 _ zR (λw τ2 o2=>?_));refine Za rfl (Yl (Za rfl (Xh (Za rfl (Yd rfl (Ye _ _) ?_)))));refine Za (v:=iv f.single.length) (rd:=[]) (by simp[Zf]) (Xd7 b fc f.single fo3 _ (o2.get zR (by simp)) (λw τ3 o3=>?_));have o:=o2.trans o3;refine Za rfl (Yl (Za rfl (Xe ?_)));have bR:((((((((((decide ((i:Int)<240)&&eD f.name) && !(cy f.name m).getD false)&&decide (0<=f.least))&&decide (f.least<=f.most))&&decide (f.most<=60))&&decide (0<=f.jS))&&decide (f.jS<=999))&&iB b.aj [] f.jQ)&&iB b.aj [] f.single))=mg b (b.ar.take i) f:=by
  have hti:(b.ar.take i).length=i:=by rw[zAk];omega
  have e:decide ((i:Int)<240)=decide (i<240):=by congr 1;simp;omega
  rw[mg,hti,B7,e];generalize (List.take i b.ar).any (λg=>g.name==f.name)=x1;generalize decide (i<240)=x2;generalize eD f.name=x3;cases x1<;>cases x2<;>cases x3<;>simp[zCM]
 have uu:=o.get Km (by simp);have wJ:=o.get Dh (by simp);have J':=o.get hB (by simp);have Kl:=o.get zR (by simp);refine Za (v:=.bool (!mg b (b.ar.take i) f)) (rd:=[]) (by rw[←bR];rfl) (Ya (λh2=>?_) (λh2=>?_))
 ·have h2:mg b (b.ar.take i) f=false:=by simpa using h2
  rw[h2,aB (by simp)]at hr;refine Za rfl (Za (ld J' rfl) (Za rfl (Yd (c8 uu rfl rfl rfl) (Ze _ (Zb uu)) (Zp (Yr (Zb uu) rfl) ?_))));rw[hr]
 ·have h2:mg b (b.ar.take i) f=true:=by simpa using h2
  rw[h2,aI rfl]at hr;refine Za rfl (Za (ld J' rfl) (Yd (Hd wJ _ _) (Ze _ (Zb wJ)) (Za (Xj ..) ?_)));rw[Xc (n:=i) (by omega)];refine bj (i+1) _ _ (by omega) ⟨_,rfl,by omega,?_,?_,Zd _ (Zb wJ),by rw[lq];exact B7.put f,by rw[lq];exact hr⟩
  ·exact Yb Kl (by simp) (by omega)
  ·exact Yb uu (by simp) (by omega)
def Yg(l:List Cd):Prop:=∀c∈l,(pM c).length<=500000000
theorem Bl(cs:List Cd)(hf:QG cs=true)(hs:Yg cs):PC 78 [iM cs] (.agg [iv (cH cs).1,iv (cH cs).2]):=by
 refine c180 cs hf (λm hm c hc=>?_);have wT:iz c=true:=by
  simp_all [QG]
 have Kx:=wT;simp only[iz,AI,fD]at Kx;obtain⟨q0,q1,q2,q3⟩:=Kx;exact c221 m cs hm c wT (c223 _ q0) (c124 c q1 q2 q3 (hs c hc))
theorem c143(b:Bk)(hf:ba b=true)(hs:Yg b.aj):PC 118 [cE b] (.agg [iv (bu b).1,iv (bu b).2]):=by
 have Pm:=hf;simp only[ba,AI]at Pm;have Hs:=Pm.1;have p179:PC 160 [.aq [iM b.aj,px b.ar] 0] (.agg [iv (cH b.aj).1,iv (cH b.aj).2]):=by
  refine Xa hP g160.ok rfl rfl ?_;rw[H1.e];unfold g160;dsimp only;refine ay (a_ (Bl _ Hs hs) g78.ok ?_);exact ay rfl
 have p181:PC 161 [.aq [iM b.aj,px b.ar] 0] (.agg [iv (jC b.aj).1,iv (jC b.aj).2]):=by
  refine Xa hP g161.ok rfl rfl ?_;rw[H1.e];unfold g161;dsimp only;refine ay (a_ (c182 _ Hs) g162.ok ?_);exact ay rfl
 have p183:PC 163 [.aq [iM b.aj,px b.ar] 0] (.agg [iv (gG b [] b.ar).1,iv (gG b [] b.ar).2]):=by
  refine Xa hP g163.ok rfl rfl ?_;rw[H1.e];unfold g163;dsimp only;refine ay (a_ (c184 b hf) g164.ok ?_);exact ay rfl
 refine Xa hP g118.ok rfl rfl ?_;rw[H1.e];unfold g118;dsimp only;refine ay ?_;refine YL 4 (Yl ?_);refine ay (ZH p179 rfl g160.ok.plain rfl rfl ?_);refine ae (Ya (λh=>?_) (λh=>Za rfl ?_))
 ·refine ay ?_;rw[bu,aI (by simpa using h)]
 refine Yl (ay (ZH p181 rfl g161.ok.plain rfl rfl ?_));refine ae ?_;refine Ya (λh2=>?_) (λh2=>Za rfl ?_)
 ·refine ay ?_;simp_all [bu]
 refine Yl (ay (ZH p183 rfl g163.ok.plain rfl rfl ?_));refine ae (Ya (λh3=>?_) (λh3=>Za rfl ?_))
 ·refine ay ?_;simp_all [bu]
 refine Yl (ay ?_);rw[bu,aB (by simpa using h),aB (by simpa using h2)];have h3:(gG b [] b.ar).1=0:=by simpa using h3
 have key:∀(l pre:List Fo),(gG b pre l).1=0→(gG b pre l).2=0:=by
  intro l
  induction l<;>grind [gG]
 rw[h3,key _ _ h3]
theorem dh.wg{f:FuncId}{e:Bool}{sz:Nat}{bs:List ab}(h1:dh P GL f [.al] v bs)(h2:dh P GL f [.aW e true sz []] v bs):dh P GL f [.aW e false sz []] v bs:=by
 intro w M vs hM hg hx
 match vs,hx with
 |[u],⟨hu,_⟩=>
  have hu':Den M bA (.aW e false sz []) u:=hu;cases hu' with
  |aW _ _ _ _ _ a cap blk off f q1 q2 q3 q4 q5 q6 q7 q8=>
   cases a with
   |none=>
    have:=q4 rfl;subst this;exact h1 w M _ hM hg ⟨.al _,trivial⟩
   |some p=>exact h2 w M _ hM hg ⟨.aW _ e true sz [] (some p) cap blk off f q1 (λ_=>rfl) q3 q4 q5 q6 q7 q8,trivial⟩
theorem c96(l:List Int)(hl:l.length<=1000000000):dh prog aG 44 [aP l] (.sl 0 0 l.length false) [.rows 1 (l.map aS)]:=by
 cases l with
 |nil=>
  refine dh.wg ?_ ?_
  ·refine Xw hP g44.ok rfl ?_;rw[H1.e];unfold g44;dsimp only;exact Za rfl (Xh (Tidy.ghost 1 (.inl rfl)))
  ·refine Xw hP g44.ok rfl ?_;rw[H1.e];unfold g44;dsimp only;exact ay (Tidy.trans (Tidy.dP λM c u d=>XY (.aW true true 1 []) ⟨M,c⟩ u d) (Tidy.ghost 1 (.inr rfl)))
 |cons x l=>
  refine Xw hP g44.ok rfl ?_;rw[H1.e];unfold g44;dsimp only;refine ay (Yd (v:=.sl 0 0 (x :: l).length false) (rd:=[]) (up:=[(0,.rows 1 ((x :: l).map aS))]) ?_ rfl (Tidy.refl _ _));show (match Zk 1 [] (aP (x :: l))with
   |some (ys,rd)=>bif aV ys&&zAR ((2*(([]:List (List aa)).length+ys.length)+192)*8) (2 ^ 48)then aN.ok (.sl 0 0 (([]:List (List aa)).length+ys.length) false) rd ([]++[(0,ab.rows 1 ([]++ys))])else aN.stop
   | none=>.stop)=_
  have h1:Zk 1 [] (aP (x::l))=some ((x::l).map aS,[]):=rfl;have h2:∀q:List Int,aV (q.map aS)=true:=by
   intro q;induction q with
   |nil=>rfl
   |cons y q ih=>simp only[zAN,aV,ih,zBA];rfl
  have h3:zAR ((2*(([]:List (List aa)).length+((x::l).map aS).length)+192)*8) (2 ^ 48)=true:=sh (by simp only[zAM,zAG];omega);simp only[h1,h2,h3,zAw,cond_true];simp
variable{K:KT}
variable{l:List Int}
theorem w96(hl:l.length<=1000000000)(hK:K (.sl σ.length 0 l.length false) (σ++[.rows 1 (l.map aS)])):VV.call (.call 44) [aP l] σ K:=by
 refine HR (c96 l hl) rfl g44.ok.plain rfl ?_;simp only[Zx,zAN,zBC,Z4,aa.cx,QD,IN];exact hK
theorem d96(hl:l.length<=1000000000){K:aa→List Nat×List Nat→List ab→Prop}(hK:K (.sl σ.length 0 l.length false) ([],[σ.length]) (σ++[.rows 1 (l.map aS)])):VV.eV (.call 44) [aP l] σ K:=by
 refine OB (c96 l hl) rfl g44.ok.plain rfl ?_;simp only[Zx,zAN,zBC,Z4,aa.cx,QD,IN,Q8];exact hK
theorem c112(l:List Th)(hl:l.length<=1000000000):dh prog aG 45 [gS l] (.sl 0 0 l.length false) [.rows 4 (l.map bc)]:=by
 cases l with
 |nil=>
  refine dh.wg ?_ ?_
  ·refine Xw hP g45.ok rfl ?_;rw[H1.e];unfold g45;dsimp only;exact Za rfl (Xh (Tidy.ghost 4 (.inl rfl)))
  ·refine Xw hP g45.ok rfl ?_;rw[H1.e];unfold g45;dsimp only;exact ay (Tidy.trans (Tidy.dP λM c u d=>XY (.aW true true 4 []) ⟨M,c⟩ u d) (Tidy.ghost 4 (.inr rfl)))
 |cons x l=>
  refine Xw hP g45.ok rfl ?_;rw[H1.e];unfold g45;dsimp only;refine ay (Yd (v:=.sl 0 0 (x :: l).length false) (rd:=[]) (up:=[(0,.rows 4 ((x :: l).map bc))]) ?_ rfl (Tidy.refl _ _));show (match Zk 4 [] (gS (x :: l))with
   |some (ys,rd)=>bif aV ys&&zAR ((2*(([]:List (List aa)).length+ys.length)+192)*32) (2 ^ 48)then aN.ok (.sl 0 0 (([]:List (List aa)).length+ys.length) false) rd ([]++[(0,ab.rows 4 ([]++ys))])else aN.stop
   | none=>.stop)=_
  have h1:Zk 4 [] (gS (x::l))=some ((x::l).map bc,[]):=rfl;have h2:∀q:List Th,aV (q.map bc)=true:=by
   intro q;induction q with
   |nil=>rfl
   |cons y q ih=>simp only[zAN,aV,ih,zBA];rfl
  have h3:zAR ((2*(([]:List (List aa)).length+((x::l).map bc).length)+192)*32) (2 ^ 48)=true:=sh (by simp only[zAM,zAG];omega);simp only[h1,h2,h3,zAw,cond_true];simp
theorem d112{l:List Th}(hl:l.length<=1000000000){K:aa→List Nat×List Nat→List ab→Prop}(hK:K (.sl σ.length 0 l.length false) ([],[σ.length]) (σ++[.rows 4 (l.map bc)])):VV.eV (.call 45) [gS l] σ K:=by
 refine OB (c112 l hl) rfl g45.ok.plain rfl ?_;simp only[Zx,zAN,zBC,G5,aa.cx,QD,IN,Q8];exact hK
theorem c59(s:St)(hs:aY 1000000000 s):dh prog aG 20 [bZ s] (.agg (jz s 0)) (jn s):=by
 refine Xw hP g20.ok rfl ?_;rw[H1.e];unfold g20;dsimp only;have w1:BY.wrap (0+1)=1:=by decide
 have w2:BY.wrap (1+1)=2:=by decide
 refine ay (w96 hs.ao ?_);simp only[IS,zAG,zAL,zAJ,IN,Nat.reduceAdd];refine ay (YL 3 (Yl ?_));refine ay (d96 hs.s0.az ?_);simp only[IS,zAG,zAL,zAJ,IN,Nat.reduceAdd];refine ay (d96 hs.s0.hand ?_);simp only[IS,zAG,zAL,zAJ,IN,Nat.reduceAdd];refine ay (d96 hs.s0.an ?_);simp only[IS,zAG,zAL,zAJ,IN,Nat.reduceAdd];refine ay (d96 hs.s0.told ?_);simp only[IS,zAG,zAL,zAJ,IN,Nat.reduceAdd];refine ay (d112 hs.s0.af ?_);simp only[IS,zAG,zAL,zAJ,IN,Nat.reduceAdd];repeat first|refine Za rfl ?_|refine Yd rfl rfl ?_|refine Zi rfl ?_|refine Xf rfl rfl ?_
 refine Qv (by kernel_rfl) (Za rfl ?_);rw[w1];refine Yl (ay (d96 hs.s1.az ?_));simp only[IS,zAG,zAL,zAJ,IN,Nat.reduceAdd];refine ay (d96 hs.s1.hand ?_);simp only[IS,zAG,zAL,zAJ,IN,Nat.reduceAdd];refine ay (d96 hs.s1.an ?_);simp only[IS,zAG,zAL,zAJ,IN,Nat.reduceAdd];refine ay (d96 hs.s1.told ?_);simp only[IS,zAG,zAL,zAJ,IN,Nat.reduceAdd];refine ay (d112 hs.s1.af ?_);simp only[IS,zAG,zAL,zAJ,IN,Nat.reduceAdd];repeat first|refine Za rfl ?_|refine Yd rfl rfl ?_|refine Zi rfl ?_|refine Xf rfl rfl ?_
 refine Qv (by kernel_rfl) (Za rfl ?_);rw[w2];refine Yl ?_;refine ay ?_;refine Tidy.gc [2,3,4,5,7,6,8,9,10,12,11] (by decide) (by simp) ?_ rfl;simp only[J4,zAN,zBC,ai,Z4,G5]
def dZ{α:Type}(t:Int):List (Int×α)→Option α
 |[]=>none
 |p::l=>if t==p.1 then some p.2 else dZ t l
def sm{α:Type}(f:α→aa)(l:List (Int×α)):List (aa×aa):=l.map λp=>(iv p.1,f p.2)
theorem WX(f:α→aa)(t:Int):∀l:List (Int×α),jB (iv t) (sm f l)=some ((dZ t l).map f)
 |[]=>rfl
 |p::l=>by
  simp only[sm,zAN,jB,jJ,dZ,j7,cond_true];cases h:t==p.1 with
  |true=>rfl
  |false=>exact WX f t l
theorem YcB(f:α→aa)(t:Int)(v:α):∀l:List (Int×α),dZ t l=none→oi (iv t) (f v) (sm f l)=some (sm f (l++[(t,v)]))
 |[],_=>rfl
 |p::l,h=>by
  rw[dZ]at h;split at h
  ·cases h
  ·rename_i h2;have h2:(t==p.1)=false:=by simpa using h2
   have:=YcB f t v l h;simp only[sm]at this;simp only[sm,zAN,zAJ,oi,jJ,j7,cond_true,h2,this]
theorem WQ(t:Int):∀ (a b:List (Int × α)),dZ t (a ++ b)=(match dZ t a with
 |some v=>some v
 | none=>dZ t b)
 |[],b=>rfl
 |p::a,b=>by
  simp only[zAJ,dZ];split
  ·rfl
  ·exact WQ t a b
theorem Se(t:Int):∀l:List (Int×α),(dZ t l).isSome=(l.map (·.1)).contains t
 |[]=>rfl
 |p::l=>by
  simp only[dZ,zAN,zDx];cases h:t==p.1 with
  |true=>simp
  |false=>simp only[zAW,if_false,zCR];exact Se t l
variable{b m n:Nat}
theorem Ra(f:α→aa)(z:aa)(ok:Bool){l:List (Int×α)}(h:ai σ b=.map (sm f l))(t:Int):Qy false ok z [.map b,iv t] σ=.ok (lu ok z ((dZ t l).map f)) [b] []:=by
 simp only[Qy,zw,mapOf,h,WX,cond_true]
theorem Xd5(f:α→aa){l:List (Int×α)}(h:ai σ b=.map (sm f l))(t:Int)(v:α)(hn:dZ t l=none):YH false [.map b,iv t,f v] σ=.ok .aQ [] [(b,.map (sm f (l++[(t,v)])))]:=by
 simp only[YH,zw,h,YcB f t v l hn,cond_true]
structure CH (row:List aa) (j:Nat) (x:Sd):Prop where
 h0:aK false (j+0) 1 row=some (iv x.aX)
 h1:aK false (j+1) 1 row=some (iv x.aU)
 h2:aK false (j+2) 1 row=some (iv x.most)
 h3:aK false (j+3) 1 row=some (aP x.az)
 h4:aK false (j+4) 1 row=some (aP x.hand)
 h5:aK false (j+5) 1 row=some (aP x.an)
 h6:aK false (j+6) 1 row=some (gS x.af)
 h7:aK false (j+7) 1 row=some (aP x.told)
theorem Mg(s:St):CH (aF s) 7 s.s0:=⟨rfl,rfl,rfl,rfl,rfl,rfl,rfl,rfl⟩
theorem Mh(s:St):CH (aF s) 15 s.s1:=⟨rfl,rfl,rfl,rfl,rfl,rfl,rfl,rfl⟩
set_option maxHeartbeats 2000000
theorem c120(l:List Int)(hl:l.length<=gy)(id:FuncId)(fs cs:List aa)(hp:Zh prog id=true)(f:Int→Bool)(hc:∀x∈l,PC id (fs++[iv x]++cs) (.bool (f x)))(hr:∀x,gh (fs++[iv x]++cs)=true) :
  PC 91 [aP l,.func (.func id) fs cs] (iv (eh f l 0)):=by
 rw[c9]at hl;refine Xa hP g91.ok rfl rfl ?_;rw[H2.e];unfold g91;dsimp only;refine Za (v:=iv l.length) (rd:=[]) (by simp[Zf]) (Xg (ι:=Nat) (λi vs s=>vs=[iv i]∧i<=l.length∧eh f l 0=eh f (l.drop i) i) (λi=>l.length-i) 0 ⟨rfl,by omega,by simp⟩ ?_);rintro i vs s again ⟨rfl,hi,j4⟩ bj;refine Za rfl (QM (λh=>?_) (λh=>?_))
 ·refine Za (Ym _ aS _ _ _ l _ i h) (Za (bB rfl) ?_);refine Qo (hc _ (AT h)) rfl hp (hr _) ?_;rw[gK h,eh]at j4;refine Ya (λh2=>?_) (λh2=>?_)
  ·rw[aI h2]at j4;rw[j4];rfl
  ·rw[aB (by rw[h2];simp)]at j4;refine Za (Xj ..) ?_;rw[Xc (n:=i) (by omega)];exact bj (i+1) _ _ (by omega) ⟨rfl,by omega,by rw[j4];push_cast;rfl⟩
 ·subst h;rw[zAD,eh]at j4;rw[j4]
theorem c185(l:List Int)(hl:l.length<=gy)(id:FuncId)(fs cs:List aa)(hp:Zh prog id=true)(f:Int→Bool)(hc:∀x∈l,PC id (fs++[iv x]++cs) (.bool (f x)))(hr:∀x,gh (fs++[iv x]++cs)=true)(HC:gh [aP l,.func (.func id) fs cs]=true) :
  PC 165 [aP l,.func (.func id) fs cs] (.bool (l.any f)):=by
 refine Xa hP g165.ok rfl rfl ?_;rw[H2.e];unfold g165;dsimp only;refine Qo (c120 l hl id fs cs hp f hc hr) rfl g91.ok.plain HC (Za (qP ..) ?_);rw[Nz f l 0 (by omega)]
theorem c186(b:Bk)(x:Int):PC 166 [iv x,.aq [.aq [iM b.aj,px b.ar] 0] 0] (.bool (decide (x<0)||decide ((b.aj.length:Int)<=x))):=by
 refine Xa hP g166.ok rfl rfl ?_;rw[H2.e];unfold g166;dsimp only;refine Za (ZM ..) (CR (λ_=>rfl) (λ_=>bB rfl) (λ_=>rfl) (λ_=>rfl) (λ_=>bB rfl) (v6:=iv b.aj.length) (q6:=[]) (λ_=>by simp[Zf]) (λ_=>qP ..) rfl)
theorem YcU(n:Nat)(l:List Int)(most:Int):(!(decide ((l.length:Int)>most)||l.any λx=>decide (x<0)||decide ((n:Int)<=x)))=Yp n l most:=by
 rw[Yp,Bool.not_or,Xdw]
 congr 1
 ·rw[zAo];simp
 ·congr 1;funext x
  rw[zAo];simp
theorem XdV(f:Int→aa)(z:aa)(o:Option Int):lu true z (o.map f)=.bp [(o.map f).getD z,.bool o.isSome]:=by cases o<;>rfl
variable{row cs:List aa}
theorem Xdc(h:ai σ b=.box [.aq row 0])(l:List Int)(id:FuncId):Xy σ 1000 [aP l,.func (.func id) [] [.ak b 0]]=some ([aP l,.func (.func id) [] [.aq [.aq row 0] 0]],[b]):=by
 simp_all [Xy]
set_option maxHeartbeats 4000000
@[reducible] def cq(b:Bk):List aa:=[iM b.aj,px b.ar]
theorem O2(b:Bk)(l:List Int)(hl:l.length<=gy)(most:Int){b4:Nat}(hb:ai σ b4=.box [.aq (cq b) 0]){R K:List ab→Prop}(hR:Yp b.aj.length l most=false→∀σ',Old σ σ'→R σ')(hK:Yp b.aj.length l most=true→∀σ',Old σ σ'→K σ') :
  VV.wr (Zs [.al,(.int .i64 0)] [] σ) σ λqJ σ=>VV.wr (Zj 2 [qJ,.agg [aP l,iv most]] σ) σ λ_ σ=>
  VV.rd (Zc 0 [qJ] σ) λF6=>VV.rd (Qe false 1 [F6] σ) λF7=>VV.rd (Yn [F7] σ) λF8=>
  VV.rd (Zc 1 [qJ] σ) λF'=>VV.rd (Qe false 1 [F'] σ) λGc=>VV.rd (Zn .gtr false [F8,Gc] σ) λpo=>
  VV.gr po false (λk=>VV.rd (Zc 0 [qJ] σ) k) λGj=>VV.gr po false (λk=>VV.rd (Qe false 1 [Gj] σ) k) λGl=>
  VV.gr po false (λk=>VV.rd (YU (.func 166) 0 [.ak b4 0] σ) k) λGp=>VV.gw po false (λk=>VV.call (.call 165) [Gl,Gp] σ k) σ λGt σ=>
  VV.rd (Yo [po,(.bool true),Gt] σ) λGv=>VV.test Gv (R σ) (K σ):=by
 refine Zv (row:=[aP l,iv most]) rfl rfl rfl ?_;have hB:=Yc σ (ab.box [aP l,iv most]);have cj:ai (σ++[ab.box [aP l,iv most]]) b4=.box [.aq (cq b) 0]:=Qb _ hb;have ho:=Old.app σ [ab.box [aP l,iv most]];generalize σ++[ab.box [aP l,iv most]]=τ at hB cj ho ⊢;generalize σ.length=c at hB ⊢;refine Za rfl (Za (ld hB rfl) (Za (v:=iv l.length) (rd:=[]) (by simp[Zf]) (Za rfl (Za (ld hB rfl) (Za (Q7 ..) ?_)))));refine XdF (d:=l.any λx=>decide (x<0)||decide ((b.aj.length:Int)<=x)) (λ_=>rfl) (λ_=>ld hB rfl) (λ_=>rfl) (λ_ k hk=>?_) ?_
 ·exact ZH (c185 l hl 166 [] [.aq [.aq (cq b) 0] 0] g166.ok.plain (λx=>decide (x<0)||decide ((b.aj.length:Int)<=x)) (λx _=>c186 b x) (λx=>rfl) rfl) rfl g165.ok.plain (Xdc cj l 166) rfl hk
 have he:=YcU b.aj.length l most;refine Ya (λh=>hR ?_ _ ho) (λh=>hK ?_ _ ho)
 ·rw[←he,h];rfl
 ·rw[←he,h];rfl
theorem Zeq(b:Bk)(next:Int)(u:Th)(met:Bool) :
  (!((((((((met||decide (u.card<0))||decide ((b.aj.length:Int)<=u.card)) || !((b.aj[u.card.toNat]?).getD default).unit)||decide (u.harm<0))||decide (1000000<u.harm))||decide (u.id<1))||decide (next<=u.id))))=(Zw b next u && !met):=by
 rw[Zw]
 grind
theorem c144(b:Bk)(s:St)(side:Int)(j:Nat)(x:Sd)(hx:CH (aF s) j x)(hj:∀σ,Yk 2 8 [.aq (aF s) (0+7),iv side] σ=.ok (.aq (aF s) j) [] [])(hs:lz 1000000000 x)(ids:List (Int×Int))(hm:ai σ m=.map (sm iv ids))
 (hF:(Xx b.aj.length x&&XA b s.next (ids.map (·.1)) x.af)=false→∀σ',K (.bool false) σ')
 (hT:(Xx b.aj.length x&&XA b s.next (ids.map (·.1)) x.af)=true→∀σ',Bt m σ σ'→ai σ' m=.map (sm iv (ids++x.af.map λu=>(u.id,side)))→K (.bool true) σ') :
  g119.u VV [.aq (cq b) 0,.aq (aF s) 0,iv side,.map m] σ K:=by
 rw[H4.e];unfold g119;dsimp only;refine Yd rfl (Ye _ _) ?_;have hB:=Yc σ (ab.box [.aq (cq b) 0]);have nM:ai (σ++[ab.box [.aq (cq b) 0]]) m=.map (sm iv ids):=Qb _ hm;have ho:=Old.app σ [ab.box [.aq (cq b) 0]];have xm:=Zb hm;have cU:m≠σ.length:=by omega
 generalize σ++[ab.box [.aq (cq b) 0]]=τ at hB nM ho ⊢;generalize σ.length=c at hB cU ⊢;refine Za rfl (Za rfl (Za (hj _) (Za rfl (Za rfl (Za (bB hx.h0) ?_)))));refine a_ (c57 _) g63.ok (Za rfl ?_);refine Iy (λ_=>rfl) (λ_=>rfl) (λ_=>rfl) (λ_=>bB hx.h1) (λ_=>ZM ..) (QdF (λ_=>rfl) (λ_=>rfl) (λ_=>rfl) (λ_=>bB hx.h1) (λ_ k hk=>a_ (c57 _) g63.ok hk) (λ_=>rfl) (Iy (λ_=>rfl) (λ_=>rfl) (λ_=>rfl) (λ_=>bB hx.h2) (λ_=>ZM ..) (Iy (λ_=>rfl) (λ_=>rfl) (λ_=>rfl) (λ_=>bB hx.h2) (λ_=>Q7 ..) (To (λ_=>rfl) (λ_=>rfl) (λ_=>rfl) (λ_=>bB hx.h6) (v5:=iv x.af.length) (q5:=[]) (λ_=>by simp[Zf]) (λ_=>Q7 ..) (Ya (λh=>hF ?_ _) (λh=>?_))))))
 ·have:Xx b.aj.length x=false:=by
   rw[zBH];intro hh;simp only[Xx,AI,fD]at hh;obtain⟨p1,p2,p3,p4,p5,_,_,_,_,p6⟩:=hh;simp only[p1,p3,Bool.not_true,zCR,Bool.or_false,Bool.or_eq_true,fD]at h;omega
  rw[this];rfl
 simp only[zAx,zBt,s9]at h;obtain⟨⟨⟨⟨⟨p1,p2⟩,p3⟩,p4⟩,p5⟩,p6⟩:=h;have hh:Xx b.aj.length x=(Yp b.aj.length x.az 60&&(Yp b.aj.length x.hand 10&&(Yp b.aj.length x.an 1000000&&Yp b.aj.length x.told 1000000))):=by
  have q2:decide (0<=x.aU)=true:=by simp;omega
  have q4:decide (0<=x.most)=true:=by simp;omega
  have q5:decide (x.most<=10)=true:=by simp;omega
  have q6:decide (x.af.length<=7)=true:=by simp;omega
  rw[Xx,p1,p3,q2,q4,q5,q6];simp
 rw[hh]at hF hT;clear hh p1 p2 p3 p4 p5 p6;refine Za rfl (Za rfl (Za (bB hx.h3) (Za rfl (Za rfl (Za rfl (Za (bB hx.h4) (Za rfl (Za rfl (Za rfl (Za (bB hx.h5) (Za rfl (Za rfl (Za rfl (Za (bB hx.h7) (Za rfl (Za rfl ?_))))))))))))))));have d1:=hs.az;have d2:=hs.hand;have d3:=hs.an;have d4:=hs.told;have d5:=hs.af;refine YL 5 (Yl (Za rfl (Xh (Za rfl ?_))));refine O2 b x.az (by rw[c9];omega) 60 hB (λh _ _=>hF (by rw[h];rfl) _) (λa1 σ1 o1=>Za rfl (Yl (Za rfl (Xh (Za rfl ?_)))));refine O2 b x.hand (by rw[c9];omega) 10 (o1.get hB (by simp)) (λh _ _=>hF (by rw[a1,h];rfl) _) (λa2 σ2 o2=>Za rfl (Yl (Za rfl (Xh (Za rfl ?_)))))
 replace o2:=o1.trans o2
 refine O2 b x.an (by rw[c9];omega) 1000000 (o2.get hB (by simp)) (λh _ _=>hF (by rw[a1,a2,h];rfl) _) (λa3 σ3 o3=>Za rfl (Yl (Za rfl (Xh (Za rfl ?_)))))
 replace o3:=o2.trans o3
 refine O2 b x.told (by rw[c9];omega) 1000000 (o3.get hB (by simp)) (λh _ _=>hF (by rw[a1,a2,a3,h];rfl) _) (λa4 σ4 o4=>Za rfl (Yl (Za rfl (Xe ?_))))
 replace o4:=o3.trans o4
 rw[a1,a2,a3,a4]at hF hT;simp only[zAw,zAH]at hF hT;have hB4:=o4.get hB (by simp);have hm4:=o4.get nM (by simp);have oo:=ho.trans o4;clear o1 o2 o3 o4 ho hB nM hm;refine Za rfl (Za rfl (Za (bB hx.h6) (Za (v:=iv x.af.length) (rd:=[]) (by simp[Zf]) ?_)));refine Xg (ι:=Nat) (λi vs τ=>vs=[iv i]∧i<=x.af.length∧ai τ c=.box [.aq (cq b) 0]∧ai τ m=.map (sm iv (ids++(x.af.take i).map λu=>(u.id,side)))∧Bt m σ τ∧XA b s.next (ids.map (·.1)) x.af=XA b s.next ((ids++(x.af.take i).map λu=>(u.id,side)).map (·.1)) (x.af.drop i)) (λi=>x.af.length-i) 0
  ⟨rfl,by omega,hB4,by simpa using hm4,⟨oo.1,λc hc _=>oo.2 c hc⟩,by simp⟩ ?_
 clear hB4 hm4 oo;rintro i vs τ1 again ⟨rfl,hi,hB,hm,qW,hr⟩ bj;refine Za rfl (Ya (λh=>?_) (λh=>?_));rotate_left
 ·have h:i=x.af.length:=by simp at h;omega
  subst h;rw[zAD,XA]at hr;rw[zAl]at hm;exact hT hr _ qW hm
 have h:i<x.af.length:=by simpa using h
 have cB:=λ(s:List ab)=>Ym s bc false false 4 x.af .i64 i h;have lq:=Yu _ _ h;rw[gK h,XA]at hr;generalize x.af[i]=u at cB lq hr;generalize hq:ids++(x.af.take i).map (λu=>(u.id,side))=cur at hm hr;have Ks:ids++(x.af.take (i+1)).map (λu=>(u.id,side))=cur++[(u.id,side)]:=by rw[lq,zAa,←zAb,hq];rfl
 refine Za (cB _) (Za (bB rfl) (Zv (row:=bc u) (row':=bc u) rfl rfl rfl ?_));have hU:=Yc τ1 (ab.box (bc u));have yH:ai (τ1++[ab.box (bc u)]) c=.box [.aq (cq b) 0]:=Qb _ hB;have nM:ai (τ1++[ab.box (bc u)]) m=.map (sm iv cur):=Qb _ hm;have DJ:=Zb nM;have zT:Bt m σ (τ1++[ab.box (bc u)]):=qW.trans (Bt.gr m (Old.app _ _).1 (Old.app _ _).2);generalize τ1++[ab.box (bc u)]=τ2 at hU yH nM DJ zT ⊢;generalize τ1.length=d at hU ⊢;refine Za rfl (Za (ld hU rfl) (Za (Ra iv _ _ nM _) ?_));rw[XdV];refine Za rfl (Za rfl ?_);refine vS (λ_=>rfl) (λ_=>ld hU rfl) (λ_=>ZM ..) (QeG (λ_=>rfl) (λ_=>ld hU rfl) (λ_=>ld yH rfl) (λ_=>rfl) (λ_=>rfl) (λ_=>bB rfl) (v7:=iv b.aj.length) (q7:=[]) (λ_=>by simp[Zf]) (λ_=>qP ..) (Qen (d:=!((b.aj[u.card.toNat]?).getD default).unit) (λ_=>ld yH rfl) (λ_=>rfl) (λ_=>rfl) (λ_=>bB rfl) (λ_=>rfl) (λ_=>ld hU rfl) (v7:=.aq (cN ((b.aj[u.card.toNat]?).getD default)) 0) (q7:=[]) (λhc=>?_) (λ_=>rfl) (λ_=>bB (uh _)) (λ_=>rfl) ?_))
 ·simp only[zAx,s9]at hc;have e3:u.card.toNat<b.aj.length:=by omega
  rw[zAP e3];exact s_ _ cN _ _ _ b.aj _ u.card (by omega) e3
 refine vS (λ_=>rfl) (λ_=>ld hU rfl) (λ_=>ZM ..) (vS (λ_=>rfl) (λ_=>ld hU rfl) (λ_=>Q7 ..) (vS (λ_=>rfl) (λ_=>ld hU rfl) (λ_=>ZM ..) (CR (λ_=>rfl) (λ_=>ld hU rfl) (λ_=>rfl) (λ_=>rfl) (λ_=>rfl) (v6:=iv s.next) (q6:=[]) (λ_=>bB rfl) (λ_=>qP ..) ?_)));have q_:=Zeq b s.next u (dZ u.id cur).isSome;have hk:=Se u.id cur;refine Ya (λh2=>hF ?_ _) (λh2=>?_)
 ·rw[h2]at q_;rw[hr,←hk];have q_:(Zw b s.next u && !(dZ u.id cur).isSome)=false:=q_.symm;cases h5:Zw b s.next u with
  |false=>rfl
  |true=>
   rw[h5]at q_;have:(dZ u.id cur).isSome=true:=by simpa using q_
   rw[this];rfl
 ·rw[h2]at q_;have q_:(Zw b s.next u && !(dZ u.id cur).isSome)=true:=q_.symm;simp only[AI,zAg]at q_;have ll:dZ u.id cur=none:=by
   have:=q_.2;cases h5:dZ u.id cur with
   |none=>rfl
   |some v=>rw[h5]at this;cases this
  rw[q_.1,←hk,q_.2,Bool.not_false,zAH,zAH]at hr;refine Za rfl (Za (ld hU rfl) (Yd (Xd5 iv nM _ side ll) (Ze _ DJ) (Za (Xj ..) ?_)));rw[Xc (n:=i) (by omega)];refine bj (i+1) _ _ (by omega) ⟨rfl,by omega,Yb yH (by simp) (λe=>cU e),?_,zT.trans ⟨by simp,λc hc cU=>Xb _ hc cU⟩,?_⟩
  ·rw[Ks];exact Zd _ DJ
  ·rw[Ks,hr,zAa];rfl
theorem Ta(k:Int)(a:Int):∀l:List Th,dZ a (l.map λu=>(u.id,k))=(gM l a).map λ_=>k
 |[]=>rfl
 |u::l=>by
  have:=Ta k a l;simp only[zAN,dZ,gM,zDw];by_cases h:u.id=a
  ·simp_all
  ·have h2:(a==u.id)=false:=by simp;exact λe=>h e.symm
   simp only[h2,zAW,if_false,gB h,this,gM,Option.map_map];rfl
theorem Ydt(s:St)(a:Int):dZ a (s.s0.af.map (λu=>(u.id,(0:Int)))++s.s1.af.map (λu=>(u.id,(1:Int))))=if (aM s a).2.2=true then some (aM s a).1 else none:=by
 rw[WQ,Ta,Ta,aM]
 grind
theorem TL(b:Bk):aK true 0 2 (cq b)=some (cE b):=rfl
variable{e x:Int}
variable{s:St}
theorem Zu{b:Bk}(h:aL e b s bare=true):e=0∧1<=s.turn∧s.turn<=4096∧0<=s.mover∧s.mover<=1∧0<=s.phase∧s.phase<=2∧0<=s.result∧s.result<=3∧((s.result==0)==(s.phase != 2))=true∧1<=s.next∧s.next<=1000000∧s.ao.length<=7:=by
 simp only[aL,AI,fD]at h
 grind
theorem Zdt(o:Option Int):lu true (iv 0) (o.map iv)=.bp [iv (o.getD 0),.bool o.isSome]:=by cases o<;>rfl
theorem Qds(o:Option Bool):lu false (.bool false) (o.map aa.bool)=.bool (o.getD false):=by cases o<;>rfl
theorem QcK(t:Int):∀l:List Int,(dZ t (l.map λa=>(a,true))).getD false=l.contains t
 |[]=>rfl
 |a::l=>by
  simp only[zAN,dZ,zDx];cases h:t==a<;>simp_all [QcK]
theorem c111(b:Bk)(hf:ba b=true)(bW:Yg b.aj)(s:St)(hs:aY 1000000000 s)(bare:Bool):PC 76 [.aq (cq b) 0,.aq (aF s) 0,.bool bare] (.bool (aL (bu b).1 b s bare)):=by
 have h143:=c143 b hf bW;generalize (bu b).1=e at h143 ⊢;generalize (bu b).2=ep at h143;have qV:=hs.ao;refine Xa hP g76.ok rfl rfl ?_;rw[H3.e];unfold g76;dsimp only;refine Za rfl (Za rfl (Za (bB rfl) (Za (ZM ..) ?_)));refine Qg λk4 Pn=>?_;have mw:(aL e b s bare=true→False)→k4 [.bool true] []:=by
  intro h;rw[Pn];refine Xh ?_;rw[zBH.2 (λhm=>h hm)]
 apply JM (R:=k4 [.bool false] []) (1<=s.turn∧s.turn<=4096∧0<=s.mover∧s.mover<=1∧0<=s.phase∧s.phase<=2∧0<=s.result∧s.result<=3∧((s.result==0)==(s.phase != 2))=true∧1<=s.next∧s.next<=1000000∧s.ao.length<=7∧e=0)
 ·intro hR;clear Pn;refine Ya (λh=>by rw[h];exact mw (λhm=>by have:=Zu hm;simp at h;omega)) (λb1=>Za rfl (Za rfl (Za (bB rfl) (Za (Q7 ..) ?_))));refine Ya (λh=>by rw[h];exact mw (λhm=>by have:=Zu hm;simp at h;omega)) (λb2=>Za rfl (Za rfl (Za (bB rfl) (Za (ZM ..) ?_))));refine Ya (λh=>by rw[h];exact mw (λhm=>by have:=Zu hm;simp at h;omega)) (λb3=>Za rfl (Za rfl (Za (bB rfl) (Za (Q7 ..) ?_))));refine Ya (λh=>by rw[h];exact mw (λhm=>by have:=Zu hm;simp at h;omega)) (λb4=>Za rfl (Za rfl (Za (bB rfl) (Za (ZM ..) ?_))));refine Ya (λh=>by rw[h];exact mw (λhm=>by have:=Zu hm;simp at h;omega)) (λb5=>Za rfl (Za rfl (Za (bB rfl) (Za (Q7 ..) ?_))));refine Ya (λh=>by rw[h];exact mw (λhm=>by have:=Zu hm;simp at h;omega)) (λb6=>Za rfl (Za rfl (Za (bB rfl) (Za (ZM ..) ?_))));refine Ya (λh=>by rw[h];exact mw (λhm=>by have:=Zu hm;simp at h;omega)) (λb7=>Za rfl (Za rfl (Za (bB rfl) (Za (Q7 ..) ?_))));refine Ya (λh=>by rw[h];exact mw (λhm=>by have:=Zu hm;simp at h;omega)) (λb8=>Za rfl (Za rfl (Za (bB rfl) (Za (Zt ..) (Za rfl (Za rfl (Za (bB rfl) (Za (ZX ..) (Za (Xey ..) ?_)))))))));have hx:(!(decide (s.result=0)==decide (s.phase≠2))) = !((s.result==0)==(s.phase != 2)):=by
   congr 1
   have e1:decide (s.result=0)=(s.result==0):=by rw[zAo];simp
   have e2:decide (s.phase≠2)=(s.phase != 2):=by rw[zAo];simp
   rw[e1,e2]
  rw[hx];refine Ya (λh=>by rw[h];exact mw (λhm=>by have:=(Zu hm).2.2.2.2.2.2.2.2.2.1;rw[this]at h;cases h)) (λb9=>Za rfl (Za rfl (Za (bB rfl) (Za (ZM ..) ?_))));refine Ya (λh=>by rw[h];exact mw (λhm=>by have:=Zu hm;simp at h;omega)) (λb10=>Za rfl (Za rfl (Za (bB rfl) (Za (Q7 ..) ?_))));refine Ya (λh=>by rw[h];exact mw (λhm=>by have:=Zu hm;simp at h;omega)) (λb11=>Za rfl (Za rfl (Za (bB rfl) (Za (v:=iv s.ao.length) (rd:=[]) (by simp[Zf]) (Za (Q7 ..) ?_)))));refine Ya (λh=>by rw[h];exact mw (λhm=>by have:=Zu hm;simp at h;omega)) (λb12=>Za rfl (Za (bB (TL b)) ?_));refine a_ h143 g118.ok ?_;refine ae ?_;by_cases he:e=0
  ·rw[show decide (e≠0)=false by simp[he]];simp at b1 b2 b3 b4 b5 b6 b7 b8 b10 b11 b12;exact hR ⟨by omega,by omega,by omega,by omega,by omega,by omega,by omega,by omega,by simpa using b9,by omega,by omega,by omega,he⟩
  ·rw[show decide (e≠0)=true by simp[he]];exact mw (λhm=>he (Zu hm).1)
 rintro⟨p1,p2,p3,p4,p5,p6,p7,p8,p9,p10,p11,p12,p13⟩;rw[Pn];clear Pn mw k4;have lL:aL e b s bare=(XD b s&&(if s.phase≠1 then decide (s.ao.length=0)else !(decide (s.ao.length=0) && !bare)&&(s.bD&&fq s [] s.ao))):=by
  rw[aL,eX p13,eX p1,eX p2,eX p3,eX p4,eX p5,eX p6,eX p7,eX p8,p9,eX p10,eX p11,eX p12];rfl
 rw[lL];clear lL h143 p1 p2 p3 p4 p5 p6 p7 p8 p9 p10 p11 p13;have w1:BY.wrap (0+1)=1:=by decide
 have w2:BY.wrap (1+1)=2:=by decide
 refine ay (YL 3 (Yl (Za rfl (Xh ?_))));refine Xd hP rfl g119.ok rfl (c144 b s 0 7 s.s0 (Mg s) (λ_=>rfl) hs.s0 [] (by rfl) (λh σ1=>?_) (λh σ1 t1 m1=>?_))
 ·refine Za rfl (Xh ?_);have h:(Xx b.aj.length s.s0&&XA b s.next [] s.s0.af)=false:=h;have:XD b s=false:=by
   rw[XD,←zCM,h];rfl
  rw[this];rfl
 refine Za rfl (Xe (Za rfl ?_));rw[w1];refine Yl (Za rfl (Xh ?_));refine Xd hP rfl g119.ok rfl (c144 b s 1 15 s.s1 (Mh s) (λ_=>rfl) hs.s1 _ m1 (λh2 σ2=>?_) (λh2 σ2 t2 m2=>?_))
 ·refine Za rfl (Xh ?_);have e0:(([]++s.s0.af.map λu=>(u.id,(0:Int))):List (Int×Int)).map (·.1)=s.s0.af.map Th.id:=by simp[zCk]
  rw[e0]at h2;have:XD b s=false:=by
   rw[XD,h2];simp
  rw[this];rfl
 have hso:XD b s=true:=by
  have e0:(([]++s.s0.af.map λu=>(u.id,(0:Int))):List (Int×Int)).map (·.1)=s.s0.af.map Th.id:=by simp[zCk]
  rw[e0]at h2;have h:(Xx b.aj.length s.s0&&XA b s.next [] s.s0.af)=true:=h;rw[XD,←zCM,h,h2];rfl
 rw[hso,zAH];clear hso h h2 m1 t1 t2;refine Za rfl (Xe (Za rfl ?_));rw[w2];refine Yl (ax (Ya (λhp=>?_) (λhp=>?_)))
 ·have hp:s.phase≠1:=by simpa using hp
  rw[aI hp];refine Za rfl (Za rfl (Za (bB rfl) (Za (v:=iv s.ao.length) (rd:=[]) (by simp[Zf]) (Za (Zt ..) ?_))))
  congr 1
  rw[zAo];simp
 have hp:¬s.phase≠1:=by simpa using hp
 rw[aB hp];refine Yd rfl (Ye _ _) (Za rfl (Za rfl (Za (bB rfl) (Za (v:=iv s.ao.length) (rd:=[]) (by simp[Zf]) ?_))));have kh:ai (σ2++[ab.map []]) σ2.length=.map (sm aa.bool (([]:List Int).map λa=>(a,true))):=Yc _ _;have hold:=Qb [ab.map []] m2;have cU:σ2.length≠0:=by have:=Zb m2;omega
 generalize σ2++[ab.map []]=τ at kh hold ⊢;generalize σ2.length=mb at kh cU ⊢;refine Xg (ι:=Nat) (λi vs τ=>vs=[iv i]∧i<=s.ao.length∧ai τ 0=.map (sm iv (([]++s.s0.af.map λu=>(u.id,(0:Int)))++s.s1.af.map λu=>(u.id,(1:Int))))∧ai τ mb=.map (sm aa.bool ((s.ao.take i).map λa=>(a,true)))∧fq s [] s.ao=fq s (s.ao.take i) (s.ao.drop i)) (λi=>s.ao.length-i) 0
  ⟨rfl,by omega,hold,by simpa using kh,by simp⟩ ?_
 clear kh hold m2;rintro i vs τ1 again ⟨rfl,hi,Hx,Vc,hr⟩ bj;refine Za rfl (Ya (λh=>?_) (λh=>?_));rotate_left
 ·have h:i=s.ao.length:=by simp at h;omega
  subst h;rw[zAD,fq]at hr;rw[hr,zBA];refine ax ?_;cases ic:s.bD with
  |false=>
   refine ay ?_;simp
  |true=>
   refine ay ?_;cases bare with
   |true=>
    refine ay ?_;simp
   |false=>
    refine Qa (Za rfl (Qa (Za rfl (Qa (Za rfl (Qa (Za (bB rfl) (Qa (Za (v:=iv s.ao.length) (rd:=[]) (by simp[Zf]) ?_)))))))));refine ay ?_;show aa.bool _=_
    congr 1
    rw[zAo];simp[List.length_pos_iff]
 have h:i<s.ao.length:=by simpa using h
 have lq:=Yu _ _ h;rw[gK h,fq]at hr;refine Za (Ym _ aS _ _ _ s.ao _ i h) (Za (bB rfl) (Za (Ra iv _ _ Hx _) ?_));rw[Zdt,zAL,Ydt];generalize s.ao[i]=a at lq hr ⊢;generalize ho:(if (aM s a).2.2=true then some (aM s a).1 else none)=o;have HA:o.isSome=(aM s a).2.2:=by rw[←ho];cases (aM s a).2.2<;>rfl
 have Pr:(aM s a).2.2=true→o.getD 0=(aM s a).1:=by intro q;rw[←ho,aI q];rfl
 refine ay ?_;refine To (λ_=>rfl) (λ_=>rfl) (λ_=>rfl) (λ_=>rfl) (λ_=>bB rfl) (λ_=>ZX ..) ?_;refine vS (d:=(dZ a ((s.ao.take i).map λa=>(a,true))).getD false) (λ_=>rfl) (λ_=>rfl) (λ_=>by rw[Ra aa.bool _ _ Vc,Qds]) ?_;have DI:=QcK a (s.ao.take i);refine Ya (λh2=>?_) (λh2=>?_)
 ·have:fq s [] s.ao=false:=by
   rw[hr,zBH];intro q;simp only[AI,fD,zAg]at q;obtain⟨⟨q1,q2⟩,q3,q4⟩:=q;rw[HA,Pr q1,q1,q2,DI,q3]at h2;simp at h2
  rw[this];simp
 ·simp only[zAx,zBt,s9,Decidable.not_not]at h2;obtain⟨⟨q1,q2⟩,q3⟩:=h2;rw[HA]at q1;rw[Pr q1]at q2;have ll:dZ a ((s.ao.take i).map λa=>(a,true))=none:=by
   have:=Se a ((s.ao.take i).map λa=>(a,true));simp only[List.map_map,zCk,List.map_id']at this;rw[←DI,q3]at this;cases h5:dZ a ((s.ao.take i).map λa=>(a,true))with
   |none=>rfl
   |some v=>rw[h5]at this;cases this
  rw[DI]at q3;rw[q1,q2,q3]at hr;have xm:=Zb Vc;refine Yd (Xd5 aa.bool Vc a true ll) (Ze _ xm) (Za (Xj ..) ?_);rw[Xc (n:=i) (by omega)];refine bj (i+1) _ _ (by omega) ⟨rfl,by omega,Yb Hx (by simp) (λe=>cU e),?_,?_⟩
  ·rw[lq,zAa];exact Zd _ xm
  ·rw[lq,hr];simp
theorem aA.nl{h0:Hp}(n:Nat):aA h0 rd .al (.aW false false n []):=aA.dP (aA.ro rfl) (λM u d=>d.eO n)
def RI(σ:List ab)(rd:List Nat)(v:aa)(l:List Int):Prop:=aA (hp σ) rd v (aP l)
def RT(σ:List ab)(rd:List Nat)(v:aa)(l:List Th):Prop:=aA (hp σ) rd v (gS l)
theorem SR:∀ {l:List Int},∀r∈l.map aS,gh r=true:=by
 intro l r hr;obtain⟨x,_,rfl⟩:=zAh.1 hr;rfl
theorem XeI:∀ {l:List Th},∀r∈l.map bc,gh r=true:=by
 intro l r hr;obtain⟨x,_,rfl⟩:=zAh.1 hr;rfl
theorem RI.own(hb:ai σ b=.rows 1 (l.map aS))(dc:b∈rd)(hn:n=l.length):RI σ rd (.sl b 0 n ex) l:=
 aA.own hb dc (by simp[hn]) (OE _ _ (by simp[hn])) SR
theorem RI.tail(hb:ai σ b=.rows 1 ((x::l).map aS))(dc:b∈rd)(hn:n=l.length):RI σ rd (.sl b 1 n ex) l:=
 aA.own hb dc (by simp[hn];omega) (XdP _ _ _ (by simp[hn])) SR
theorem RI.ro(l:List Int):RI σ rd (aP l) l:=aA.ro rfl
theorem RI.al:RI σ rd .al []:=aA.dP (aA.ro rfl) (λM u d=>d.eO 1)
theorem RT.al:RT σ rd .al []:=aA.dP (aA.ro rfl) (λM u d=>d.eO 4)
theorem RT.ro(l:List Th):RT σ rd (gS l) l:=aA.ro rfl
theorem RT.own{l:List Th}(hb:ai σ b=.rows 4 (l.map bc))(dc:b∈rd)(hn:n=l.length):RT σ rd (.sl b 0 n ex) l:=
 aA.own hb dc (by simp[hn]) (OE _ _ (by simp[hn])) XeI
@[reducible] def tM(s:St)(a d0 h0 g0 u0 t0 d1 h1 g1 u1 t1:aa):List aa:=[iv s.turn,iv s.mover,aO s.phase,.bool s.bD,aO s.result,a,iv s.next,
 iv s.s0.aX,iv s.s0.aU,iv s.s0.most,d0,h0,g0,u0,t0,iv s.s1.aX,iv s.s1.aU,iv s.s1.most,d1,h1,g1,u1,t1]
def SB(σ:List ab)(rd:List Nat)(cs:List aa)(s:St):Prop:=bd (hp σ) rd cs (aF s)
theorem SB.mk{a d0 h0 g0 u0 t0 d1 h1 g1 u1 t1:aa}(x1:RI σ rd a s.ao)(x2:RI σ rd d0 s.s0.az)(x3:RI σ rd h0 s.s0.hand)(x4:RI σ rd g0 s.s0.an)(x5:RT σ rd u0 s.s0.af)(x6:RI σ rd t0 s.s0.told)
 (y2:RI σ rd d1 s.s1.az)(y3:RI σ rd h1 s.s1.hand)(y4:RI σ rd g1 s.s1.an)(y5:RT σ rd u1 s.s1.af)(y6:RI σ rd t1 s.s1.told):SB σ rd (tM s a d0 h0 g0 u0 t0 d1 h1 g1 u1 t1) s:=
 .cons (aA.ro rfl) <| .cons (aA.ro rfl) <| .cons (aA.ro rfl) <| .cons (aA.ro rfl) <| .cons (aA.ro rfl) <| .cons x1 <| .cons (aA.ro rfl) <| .cons (aA.ro rfl) <| .cons (aA.ro rfl) <| .cons (aA.ro rfl) <| .cons x2 <| .cons x3 <| .cons x4 <| .cons x5 <| .cons x6 <|
 .cons (aA.ro rfl) <| .cons (aA.ro rfl) <| .cons (aA.ro rfl) <| .cons y2 <| .cons y3 <| .cons y4 <| .cons y5 <| .cons y6 .nil
theorem SB.ro(s:St):SB σ rd (aF s) s:=bd.ro rfl
theorem SB.agg(h:SB σ rd cs s):aA (hp σ) rd (.agg cs) (bZ s):=aA.agg h
def zSd:Sd:=⟨0,0,0,[],[],[],[],[]⟩
def fW:St:=⟨0,0,0,false,0,[],0,zSd,zSd⟩
theorem SB.zero:SB σ rd (tM fW .al .al .al .al .al .al .al .al .al .al .al) fW:=SB.mk .al .al .al .al .al .al .al .al .al .al .al
structure Ev where
 kind:Int
 side:Int
 card:Int
 id:Int
 other:Int
 n:Int
 aj:List Int
 deriving DecidableEq,Inhabited
@[reducible] def ck(e:Ev):List aa:=[aO e.kind,iv e.side,iv e.card,iv e.id,iv e.other,iv e.n,aP e.aj]
@[reducible] def wB(e:Ev):aa:=.agg (ck e)
def jx:Ev:=⟨0,0,0,0,0,0,[]⟩
theorem pw{e:Ev}(h:RI σ rd v e.aj):aA (hp σ) rd (.agg [aO e.kind,iv e.side,iv e.card,iv e.id,iv e.other,iv e.n,v]) (wB e):=
 aA.agg (.cons (aA.ro rfl) <| .cons (aA.ro rfl) <| .cons (aA.ro rfl) <| .cons (aA.ro rfl) <| .cons (aA.ro rfl) <| .cons (aA.ro rfl) <| .cons h .nil)
theorem c56(b:Bk)(hf:ba b=true)(bW:Yg b.aj)(s:St)(hs:aY 1000000000 s){bb sb:Nat}(h1:ai σ bb=.box (cq b))(h2:ai σ sb=.box (aF s))
 (hF:aL (bu b).1 b s true=false→K .fo σ)(hT:aL (bu b).1 b s true=true→K (.ak (σ++jn s).length 0) (σ++jn s++[.box (.ak bb 0::jz s σ.length)])):g48.u VV [.ak bb 0,.ak sb 0] σ K:=by
 rw[H2.e];unfold g48;dsimp only;have zS:hp σ bb=some (.box (cq b)):=Xv h1 (by simp);have mi:hp σ sb=some (.box (aF s)):=Xv h2 (by simp);refine Xu (rd:=[bb,sb]) (c111 b hf bW s hs true) rfl g76.ok.plain (.cons (aA.box zS (by simp) (bd.ro rfl)) <| .cons (aA.box mi (by simp) (bd.ro rfl)) <| .cons (aA.ro rfl) .nil) rfl (Za rfl (Ya (λh=>?_) (λh=>?_)))
 ·exact hF (by simpa using h)
 refine Za rfl (Za (ld h2 rfl) ?_);refine HR (c59 s hs) rfl g20.ok.plain rfl ?_;have e1:(aa.agg (jz s 0)).cx (QD σ.length)=.agg (jz s σ.length):=by
  simp[aa.cx,iu,QD,zDu];omega
 have e2:Zx σ.length (jn s)=jn s:=by
  simp only[Zx,jn,sD,zAN,zAa,zBC,Z4,G5]
 rw[e1,e2];refine Za rfl (Yd rfl (Ye _ _) ?_);exact hT (by simpa using h)
def mF(b:Nat):List Int→aa
 |[]=>.aW false true 1 []
 |y::l=>.sl b 1 (y::l).length false
theorem QdC{τ:List ab}{bf:Nat}(Hr:ai τ bf=.rows 1 ((x::l).map aS)):∃rd,Zz 1 [.sl bf 0 (l.length+1) false,iv 1] τ=.ok (mF bf l) rd []:=by
 cases l with
 |nil=>
  refine⟨[],?_⟩;show (match ai τ bf with
   |.rows s _=>bif IT s 1 then (bif zAn 1 1 then aN.ok (.sl bf (0+1) (1-1) false) [bf] []else bif IT 1 1 then .ok (.aW false true 1 []) [] []else .stop)else .stop
   | _=>.stop)=_
  rw[Hr];rfl
 |cons y l=>
  refine⟨[bf],?_⟩;show (match ai τ bf with
   |.rows s _=>bif IT s 1 then (bif zAn 1 ((y::l).length+1)then aN.ok (.sl bf (0+1) ((y::l).length+1-1) false) [bf] []else bif IT 1 ((y::l).length+1)then .ok (.aW false true 1 []) [] []else .stop)else .stop
   | _=>.stop)=_
  rw[Hr];rfl
theorem RI.mF(hb:ai σ b=.rows 1 ((x::l).map aS))(dc:b∈rd):RI σ rd (Tz.mF b l) l:=by
 cases l with
 |nil=>
  refine aA.dP (aA.ro (x:=.aW false true 1 []) rfl) (λM u d=>?_);cases d with
  |aW _ _ _ _ _ a cap blk off f q1 q2 q3 q4 q5 q6 q7 q8=>exact .aW _ _ _ _ _ a cap blk off f q1 (λh=>by cases h) q3 q4 q5 q6 q7 q8
 |cons y l=>exact RI.tail hb dc rfl
theorem c58{τ:List ab}{mb jf jt bf bt k:Nat}{pf L_:List aa}{t:List Int}{vf:aa}(hm:ai τ mb=.box row)(hf:aK false jf 1 row=some (.sl bf 0 n false))(hn:n=l.length+1)(ht:aK false jt 1 pf=some (.sl bt 0 k false))(hk:k=t.length)(lW:t.length<=1000000000)
 (Hr:ai τ bf=.rows 1 ((x::l).map aS))(qW:ai τ bt=.rows 1 (t.map aS))(cU:mb≠bf)(Ve:mb≠bt)(hvf:vf=mF bf l)
 (h1:bX jf [vf] row=some pf)(h2:bX jt [.sl (τ.length+1) 0 (k+1) false] pf=some L_)
 (hK:K (iv x) (((((τ.set mb (.box pf)).set bt .dead)++[ab.rows 1 [aS x]])++[ab.rows 1 ((t++[x]).map aS)]).set mb (.box L_))):g64.u VV [.ak mb jf,.ak mb jt] τ K:=by
 subst hn;subst hk;have xm:=Zb hm;have Dk:=Zb qW;rw[H2.e];unfold g64;dsimp only;refine Za rfl (Za (ld hm hf) ?_);have hx:Xi 1 [.sl bf 0 (l.length+1) false,iv ((0:Nat):Int)] τ=.ok (.ptr bf (0+0) 0) [bf] []:=rr τ bf 0 _ false 1 _ .i64 0 (by omega) Hr;refine Za hx (Za (v:=iv x) (rd:=[bf]) ?_ ?_)
 ·show (match ai τ bf with
   |.rows _ rs=>match nth rs 0 with
    |some row=>match aK false 0 1 row with
     |some v=>aN.ok v [bf] []
     |none=>.stop
    |none=>.stop
   | _=>.stop)=_
  rw[Hr];rfl
 refine Za rfl (Za (ld hm hf) ?_);have hvc:cellsOf vf=some [vf]:=by subst hvf;cases l<;>rfl
 obtain⟨rd,Vx⟩:=QdC Hr;rw[←hvf]at Vx;refine Za Vx (Za rfl (Yd (c8 hm hvc rfl h1) (Ze _ xm) (Za rfl (Za (ld (Zd _ xm) ht) ?_))));have zT:ai (τ.set mb (.box pf)) bt=.rows 1 (t.map aS):=Yb qW (by simp) Ve;rw[GG _ _ _ _ _ (aS x) rfl rfl,HX _ 1 8 (τ.set mb (.box pf)) bt t.length false _ (aS x) zT (by simp) rfl (by omega)];refine Za rfl ?_;have hz:t.map aS++[aS x]=(t++[x]).map aS:=by simp
 have hlen:(τ.set mb (ab.box pf)).length=τ.length:=by simp
 have hm3:ai ((((τ.set mb (.box pf)).set bt .dead)++[ab.rows 1 [aS x]])++[ab.rows 1 ((t++[x]).map aS)]) mb=.box pf:=by
  grind [Yf,Xb,Zd]
 rw[hz,hlen];exact Yd (c8 hm3 rfl rfl h2) (Ze _ (by simp;omega)) hK
theorem SO(s:St)(n:Nat):(aa.agg (jz s 0)).cx (QD n)=.agg (jz s n):=by
 simp[aa.cx,iu,QD,zDu];omega
theorem Tn(s:St)(n:Nat):Zx n (jn s)=jn s:=by
 simp only[Zx,jn,sD,zAN,zAa,zBC,Z4,G5]
theorem Su:∀l:List Int,Q3 (l.map aS)=true
 |[]=>rfl
 |x::l=>by simp only[zAN,Q3,Su l,zBA];rfl
theorem Ydw:∀l:List Th,Q3 (l.map bc)=true
 |[]=>rfl
 |x::l=>by simp only[zAN,Q3,Ydw l,zBA];rfl
theorem XcQ(s:St):yv (jn s)=true:=by
 simp only[jn,sD,zAJ,zAL,yv,ab.dz,Su,Ydw,zAw]
theorem w59(hs:aY 1000000000 s)(h:SB σ rd cs s)(hK:K (.agg (jz s σ.length)) (σ++jn s)):VV.call (.call 20) [.agg cs] σ K:=by
 refine WW (c59 s hs) rfl g20.ok.plain (.cons (SB.agg h) .nil) rfl (XcQ s) ?_;rw[SO,Tn];exact hK
theorem d59(hs:aY 1000000000 s)(h:SB σ rd cs s){K:aa→List Nat×List Nat→List ab→Prop}(hK:K (.agg (jz s σ.length)) (rd,Q8 σ.length (jn s)) (σ++jn s)):VV.eV (.call 20) [.agg cs] σ K:=by
 refine ZcT (c59 s hs) rfl g20.ok.plain (.cons (SB.agg h) .nil) rfl (XcQ s) ?_;rw[SO,Tn];exact hK
theorem lz.mono{s:Sd}(h:lz n s)(k:n<=m):lz m s:=⟨zAX h.1 k,zAX h.2 k,zAX h.3 k,zAX h.4 k,zAX h.5 k⟩
theorem aY.mono(h:aY n s)(k:n<=m):aY m s:=⟨zAX h.1 k,h.2.mono k,h.3.mono k⟩
theorem Oc{b:Bk}(h:aL e b s bare=true):XD b s=true:=by
 simp only[aL,AI]at h;exact h.2.2.2.2.2.2.2.2.2.2.2.2.1
theorem SF{b:Bk}(h:aL e b s bare=true):iE s.s0.aX=true:=by
 have:=Oc h;simp only[XD,Xx,AI]at this;exact this.1.1
theorem RO{b:Bk}(h:aL e b s bare=true):iE s.s1.aX=true:=by
 have:=Oc h;simp only[XD,Xx,AI]at this;exact this.2.2.1.1
theorem YV{n:Int}:iE n=true↔-1000000<=n∧n<=1000000:=by simp[iE]
theorem SB.copy(key:∀i x,(jn s)[i]?=some x→ai σ (n+i)=x)(dc:∀i,i<11→n+i∈rd):SB σ rd (jz s n) s:=
 SB.mk (RI.own (key 0 _ rfl) (dc 0 (by decide)) rfl) (RI.own (key 1 _ rfl) (dc 1 (by decide)) rfl) (RI.own (key 2 _ rfl) (dc 2 (by decide)) rfl) (RI.own (key 3 _ rfl) (dc 3 (by decide)) rfl) (RT.own (key 4 _ rfl) (dc 4 (by decide)) rfl) (RI.own (key 5 _ rfl) (dc 5 (by decide)) rfl)
  (RI.own (key 6 _ rfl) (dc 6 (by decide)) rfl) (RI.own (key 7 _ rfl) (dc 7 (by decide)) rfl) (RI.own (key 8 _ rfl) (dc 8 (by decide)) rfl) (RT.own (key 9 _ rfl) (dc 9 (by decide)) rfl) (RI.own (key 10 _ rfl) (dc 10 (by decide)) rfl)
theorem Sw{agg:Bool}{j:Nat}(hb:ai σ b=.box row)(hv:aK agg j n row=some v):iA agg n (.ak b j) σ=some v:=by
 simp only[iA,hb,hv]
theorem qf(b:Bk)(hf:ba b=true)(bW:Yg b.aj)(s:St)(hs:aY 1000000000 s){bb sb n0:Nat}(kS:σ.length=n0)(hn:n0+11=n)(h1:ai σ bb=.box (cq b))(h2:ai σ sb=.box (aF s))
 (hF:aL (bu b).1 b s true=false→K .fo σ)(hT:aL (bu b).1 b s true=true→K (.ak n 0) (σ++jn s++[.box (.ak bb 0::jz s n0)])):VV.call (.call 48) [.ak bb 0,.ak sb 0] σ K:=by
 subst kS;subst hn;refine Xd hP rfl g48.ok rfl (c56 b hf bW s hs h1 h2 hF (λh=>?_));have:(σ++jn s).length=σ.length+11:=by simp[jn,sD]
 rw[this];exact hT h
def St.side(s:St)(k:Int):Sd:=if k=0 then s.s0 else s.s1
def St.put(s:St)(k:Int)(d:Sd):St:=if k=0 then { s with s0:=d }else { s with s1:=d }
@[reducible] def pd(s:St)(e:Ev)(x:aa):aa:=.bp [bZ s,wB e,x]
@[reducible] def eE(r:St×Ev×Int):aa:=pd r.1 r.2.1 (iv r.2.2)
theorem sx{ec:List aa}{e:Ev}{x:aa}(h1:SB σ rd cs s)(h2:aA (hp σ) rd (.agg ec) (wB e))(hx:x.ro=true):aA (hp σ) rd (.bp [.agg cs,.agg ec,x]) (pd s e x):=
 aA.bp (.cons (SB.agg h1) <| .cons h2 <| .cons (aA.ro hx) .nil)
theorem pc{ec:List aa}{r:St×Ev×Int}(h1:SB σ rd cs r.1)(h2:aA (hp σ) rd (.agg ec) (wB r.2.1)):aA (hp σ) rd (.bp [.agg cs,.agg ec,iv r.2.2]) (eE r):=sx h1 h2 rfl
@[reducible] def aT:List aa:=tM fW .al .al .al .al .al .al .al .al .al .al .al
@[reducible] def ca:List aa:=[aO 0,iv 0,iv 0,iv 0,iv 0,iv 0,.al]
theorem vq(e:Int):aA (hp σ) rd (.bp [.agg aT,.agg ca,iv e]) (eE (fW,jx,e)):=
 pc (r:=(fW,jx,e)) SB.zero (pw (e:=jx) RI.al)
theorem xG{x:aa}(hx:x.ro=true):aA (hp σ) rd (.bp [.agg aT,.agg ca,x]) (pd fW jx x):=
 sx SB.zero (pw (e:=jx) RI.al) hx
end Go.Ah.Tz
end
section
namespace Go.Ah
theorem QK:∀ {rs:List (List aa)},(∀r∈rs,r.all aa.cell=true)→aV rs=true
 |[],_=>rfl
 |r::rs,h=>by simp only[aV,AI];exact⟨h r (by simp),QK λx hx=>h x (by simp[hx])⟩
variable{rs2:List (List aa)}
variable{k:Nat}
theorem X2{σ:List ab}{n c:Nat}{ex2:Bool}(hc:ai σ c=.rows n rs2)(dO:rs2.length=k):Zk n σ (.sl c 0 k ex2)=some (rs2,[c]):=by
 simp only[Zk,hc];simp[cut,dO];rw[show zAR k k=true from sh (No _)];simp[←dO]
theorem Ha(n by_:Nat){σ:List ab}{b c len:Nat}{ex ex2:Bool}{rs:List (List aa)}(hb:ai σ b=.rows n rs)(hc:ai σ c=.rows n rs2)(hl:rs.length=len)(dO:rs2.length=k)(hr:aV rs2=true)(bH:(2*(len+k)+192)*by_<=2 ^ 48) :
  Qf n by_ [.sl b 0 len ex,.sl c 0 k ex2] σ=.ok (.sl σ.length 0 (len+k) false) [c] ([(b,.dead)]++[(σ.length,.rows n (rs++rs2))]):=by
 have h2:zAR ((2*(len+k)+192)*by_) (2 ^ 48)=true:=sh bH;have:Qf n by_ [.sl b 0 len ex,.sl c 0 k ex2] σ=YB n by_ σ rs [(b,.dead)] (.sl c 0 k ex2):=by
  simp[Qf,yA,hb,hl]
 rw[this];unfold YB;simp only[X2 hc dO,hr,dO,h2,zAw,cond_true,hl]
theorem W0(n by_:Nat){σ:List ab}{c:Nat}{ex2:Bool}(hc:ai σ c=.rows n rs2)(dO:rs2.length=k)(hr:aV rs2=true)(bH:(2*k+192)*by_<=2 ^ 48) :
  Qf n by_ [.al,.sl c 0 k ex2] σ=.ok (.sl σ.length 0 k false) [c] ([]++[(σ.length,.rows n rs2)]):=by
 have h3:zAR ((2*k+192)*by_) (2 ^ 48)=true:=sh bH;show YB n by_ σ [] [] (.sl c 0 k ex2)=_;unfold YB;simp only[X2 hc dO,hr,dO,zAG,h3,zAw,cond_true,IN,zAL]
end Go.Ah
namespace Go.Ah.Tz
open Go.Proofs.Tryz (prog)
set_option maxRecDepth 100000
theorem ko{n:Nat}(h:zAn n 40=true):n∈zAB 40:=List.mem_range.2 (iy h)
theorem SB.lit{σ:List ab}{rd:List Nat}{cs:List aa}{s:St}{a d0 h0 g0 u0 t0 d1 h1 g1 u1 t1:aa}(e:cs=tM s a d0 h0 g0 u0 t0 d1 h1 g1 u1 t1)
 (x0:RI σ rd a s.ao:=by exact RI.own rfl (ko rfl) rfl)
 (x1:RI σ rd d0 s.s0.az:=by exact RI.own rfl (ko rfl) rfl)
 (x2:RI σ rd h0 s.s0.hand:=by exact RI.own rfl (ko rfl) rfl)
 (x3:RI σ rd g0 s.s0.an:=by exact RI.own rfl (ko rfl) rfl)
 (x4:RT σ rd u0 s.s0.af:=by exact RT.own rfl (ko rfl) rfl)
 (x5:RI σ rd t0 s.s0.told:=by exact RI.own rfl (ko rfl) rfl)
 (x6:RI σ rd d1 s.s1.az:=by exact RI.own rfl (ko rfl) rfl)
 (x7:RI σ rd h1 s.s1.hand:=by exact RI.own rfl (ko rfl) rfl)
 (x8:RI σ rd g1 s.s1.an:=by exact RI.own rfl (ko rfl) rfl)
 (x9:RT σ rd u1 s.s1.af:=by exact RT.own rfl (ko rfl) rfl)
 (x10:RI σ rd t1 s.s1.told:=by exact RI.own rfl (ko rfl) rfl):SB σ rd cs s:=by
 subst e;exact SB.mk x0 x1 x2 x3 x4 x5 x6 x7 x8 x9 x10
theorem Iv{σ:List ab}{b c len:Nat}{ex ex2:Bool}{l:List Int}{x:Int}{K:KT}(hb:ai σ b=.rows 1 (l.map aS))(hc:ai σ c=.rows 1 [[iv x]])(hl:len=l.length)(bH:l.length<=1000000000)(hK:K (.sl σ.length 0 (l++[x]).length false) (σ.set b .dead++[.rows 1 ((l++[x]).map aS)])) :
  VV.wr (Qf 1 8 [.sl b 0 len ex,.sl c 0 1 ex2] σ) σ K:=by
 refine Yd (Ha 1 8 (rs2:=[[iv x]]) hb hc (by simp[hl]) rfl rfl (by omega)) (QC _ _ (Zb hb)) ?_;rw[hl];simpa[aS]using hK
theorem Ik{σ:List ab}{b c len:Nat}{ex ex2:Bool}{l:List Int}{x:Int}{K:aa→List Nat×List Nat→List ab→Prop}(hb:ai σ b=.rows 1 (l.map aS))(hc:ai σ c=.rows 1 [[iv x]])(hl:len=l.length)(bH:l.length<=1000000000)(hK:K (.sl σ.length 0 (l++[x]).length false) ([c],[b,σ.length]) (σ.set b .dead++[.rows 1 ((l++[x]).map aS)])) :
  VV.dr (Qf 1 8 [.sl b 0 len ex,.sl c 0 1 ex2] σ) σ K:=by
 refine Xf (Ha 1 8 (rs2:=[[iv x]]) hb hc (by simp[hl]) rfl rfl (by omega)) (QC _ _ (Zb hb)) ?_;rw[hl];simpa[aS]using hK
attribute [local irreducible] aE.rd aE.pu aE.wr aE.dr aE.gr aE.gw aE.gl aE.gd aE.opt cP W
set_option maxHeartbeats 8000000
theorem au{A B:Prop}(k:B)(h:B→A:=by intro k;(repeat (first|refine Za (vT ..) ?_|refine Za (XV ..) ?_|refine Za rfl ?_|refine Yd rfl rfl ?_|refine Zp rfl ?_|refine Zi rfl ?_|refine Xf rfl rfl ?_|refine Xh ?_|refine Xe ?_|refine Qa ?_|refine Qc rfl ?_|refine Qp ?_|refine Qx rfl ?_|refine Qv rfl ?_|refine GA ?_));exact k):A:=h k
end Go.Ah.Tz
end
section
namespace Go.Ah.Tz
open Go.Proofs.Tryz (prog)
set_option maxRecDepth 100000
abbrev As(s:St):List aa:=[.ak 0 0,iv s.turn,iv s.mover,aO s.phase,.bool s.bD,aO s.result,.sl 4 0 s.ao.length false,iv s.next,iv s.s0.aX,iv s.s0.aU,iv s.s0.most,.sl 5 0 s.s0.az.length false,.sl 6 0 s.s0.hand.length false,.sl 7 0 s.s0.an.length false,.sl 8 0 s.s0.af.length false,.sl 9 0 s.s0.told.length false,iv s.s1.aX,iv s.s1.aU,iv s.s1.most,.sl 10 0 s.s1.az.length false,.sl 11 0 s.s1.hand.length false,.sl 12 0 s.s1.an.length false,.sl 13 0 s.s1.af.length false,.sl 14 0 s.s1.told.length false]
abbrev st4(s:St):List aa:=[iv s.turn,iv s.mover,aO s.phase,.bool s.bD,aO s.result,.sl 4 0 s.ao.length false,iv s.next,iv s.s0.aX,iv s.s0.aU,iv s.s0.most,.sl 5 0 s.s0.az.length false,.sl 6 0 s.s0.hand.length false,.sl 7 0 s.s0.an.length false,.sl 8 0 s.s0.af.length false,.sl 9 0 s.s0.told.length false,iv s.s1.aX,iv s.s1.aU,iv s.s1.most,.sl 10 0 s.s1.az.length false,.sl 11 0 s.s1.hand.length false,.sl 12 0 s.s1.an.length false,.sl 13 0 s.s1.af.length false,.sl 14 0 s.s1.told.length false]
abbrev sg4(b:Bk)(s:St):List ab:=[.box (cq b),.box (aF s),.box aT,.box ca,.rows 1 (s.ao.map aS),.rows 1 (s.s0.az.map aS),.rows 1 (s.s0.hand.map aS),.rows 1 (s.s0.an.map aS),.rows 4 (s.s0.af.map bc),.rows 1 (s.s0.told.map aS),.rows 1 (s.s1.az.map aS),.rows 1 (s.s1.hand.map aS),.rows 1 (s.s1.an.map aS),.rows 4 (s.s1.af.map bc),.rows 1 (s.s1.told.map aS)]
def aH(s:St)(k:Int):St×Ev×Int:=
 match (s.side k).az with
 |[]=>if iE ((s.side k).aX-1)then (s.put k { s.side k with aX:=(s.side k).aX-1 },⟨3,k,-1,0,0,0,[]⟩,0)else (fW,jx,171)
 |c::l=>if 10<=(s.side k).hand.length then
   ({ s with s0:={ s.s0 with told:=s.s0.told++[c] },s1:={ s.s1 with told:=s.s1.told++[c] } } |> λs'=>s'.put k { s'.side k with az:=l,an:=(s.side k).an++[c] },⟨4,k,c,0,0,0,[]⟩,0)
  else (s.put k { s.side k with az:=l,hand:=(s.side k).hand++[c],told:=(s.side k).told++[c] },⟨3,k,c,0,0,0,[]⟩,0)
attribute [local irreducible] aE.rd aE.pu aE.wr aE.dr aE.gr aE.gw aE.gl aE.gd aE.opt cP W
set_option maxHeartbeats 8000000
theorem c18(b:Bk)(hf:ba b=true)(bW:Yg b.aj)(s:St)(hs:aY 2000000 s)(hm:aL (bu b).1 b s true=true)(k:Int)(h01:k=0∨k=1):PC 36 [cE b,bZ s,iv k] (eE (aH s k)):=by
 have uE:=YV.1 (SF hm);have gz:=YV.1 (RO hm);have gA:aY 1000000000 s:=hs.mono (by decide);have nM:=hm;refine Yi hP g36.ok rfl ?_;rcases h01 with rfl|rfl
 rotate_left;obtain⟨tu,mo,ph,st,re,at_,ne,⟨l',m',o',d',h',g',u',t'⟩,⟨l,m,o,d,h,g,u,t⟩⟩:=s;obtain⟨ha,⟨p1,p2,p3,p4,p5⟩,⟨q1,q2,q3,q4,q5⟩⟩:=hs;have hl:=gz
 let mk:Sd→List Int→St:=λx y=>⟨tu,mo,ph,st,re,at_,ne,⟨l',m',o',d',h',g',u',y⟩,x⟩
 have Pq:∀l m o (d h g:List Int) u (t y:List Int),d.length<=1000000000→h.length<=1000000000→g.length<=1000000000→u.length<=1000000000→t.length<=1000000000→y.length<=1000000000→aY 1000000000 (mk ⟨l,m,o,d,h,g,u,t⟩ y):=λ_ _ _ _ _ _ _ _ _ a b c d e f=>⟨gA.1,⟨gA.2.1,gA.2.2,gA.2.3,gA.2.4,f⟩,⟨a,b,c,d,e⟩⟩;rotate_left;obtain⟨tu,mo,ph,st,re,at_,ne,⟨l,m,o,d,h,g,u,t⟩,⟨l',m',o',d',h',g',u',t'⟩⟩:=s;obtain⟨ha,⟨q1,q2,q3,q4,q5⟩,⟨p1,p2,p3,p4,p5⟩⟩:=hs;have hl:=uE
 let mk:Sd→List Int→St:=λx y=>⟨tu,mo,ph,st,re,at_,ne,x,⟨l',m',o',d',h',g',u',y⟩⟩
 have Pq:∀l m o (d h g:List Int) u (t y:List Int),d.length<=1000000000→h.length<=1000000000→g.length<=1000000000→u.length<=1000000000→t.length<=1000000000→y.length<=1000000000→aY 1000000000 (mk ⟨l,m,o,d,h,g,u,t⟩ y):=λ_ _ _ _ _ _ _ _ _ a b c d e f=>⟨gA.1,⟨a,b,c,d,e⟩,⟨gA.3.1,gA.3.2,gA.3.3,gA.3.4,f⟩⟩
 all_goals
  simp only at ha q1 q2 q3 q4 q5 p1 p2 p3 p4 p5 hl;rw[H3.e];unfold g36;dsimp only[bZ,aF];refine au (qf b hf bW _ gA (n0:=4) (n:=15) (bb:=0) (sb:=1) rfl rfl rfl rfl (λh=>by rw[hm]at h;cases h) (λ_=>?_));dsimp only[jz,jn,xJ,sD];cases d with
  |nil=>
   refine au ?_;refine a_ (c57 _) g63.ok ?_;refine au ?_;have e:BY.wrap (l-1)=l-1:=bw (by omega) (by omega);refine Ya (λhw=>?_) (λhw=>?_)
   ·have hw:iE (l-1)=false:=by rw[←e];simpa using hw
    refine au ?_;refine⟨[],?_⟩;show aA _ _ _ (eE (if iE (l-1)then _ else (fW,jx,171)));rw[hw];exact vq 171
   ·have hw:iE (l-1)=true:=by rw[←e];simpa using hw
    rw[e];refine au ?_;refine d59 (s:=mk ⟨l-1,m,o,[],h,g,u,t⟩ t') (rd:=zAB 40) (Pq _ _ _ _ _ _ _ _ _ (by simp) (by omega) (by omega) (by omega) (by omega) (by omega)) (SB.lit rfl) ?_;dsimp only[jz,jn,xJ,sD,mk];refine au ?_;show ∃rd,aA _ rd _ (eE (if iE (l-1)then (_,(⟨3,_,-1,0,0,0,[]⟩:Ev),0)else (fW,jx,171)));rw[aI hw];exact⟨zAB 40,pc (r:=(_,⟨3,_,-1,0,0,0,[]⟩,0)) (SB.lit rfl) (pw (e:=⟨3,_,-1,0,0,0,[]⟩) RI.al)⟩
  |cons c d2=>
   simp only[IS]at q1;refine au (Ya (λhw=>?_) (λhw=>?_))
   ·have hw:10<=h.length:=by simp at hw;omega
    refine au ?_;refine Xd hP rfl g64.ok rfl (c58 (x:=c) (l:=d2) (t:=g) rfl rfl rfl rfl rfl (by omega) rfl rfl (by decide) (by decide) rfl rfl rfl ?_);rw[show g.length+1=(g++[c]).length by simp];refine au (YL 3 (Yl ?_));refine au ?_;refine Ik rfl rfl rfl (by omega) ?_;refine au ?_;refine Ik rfl rfl rfl (by omega) ?_;refine au ?_;refine d59 (s:=mk ⟨l,m,o,d2,h,g++[c],u,t++[c]⟩ (t'++[c])) (rd:=zAB 40) (Pq _ _ _ _ _ _ _ _ _ (by omega) (by omega) (by simp;omega) (by omega) (by simp;omega) (by simp;omega)) (by first|exact SB.lit rfl (x1:=RI.mF rfl (ko rfl))|exact SB.lit rfl (x6:=RI.mF rfl (ko rfl))) ?_;dsimp only[jz,jn,xJ,sD,mk];refine au ?_;show ∃rd,aA _ rd _ (eE (if 10<=h.length then (_,(⟨4,_,c,0,0,0,[]⟩:Ev),0)else _));rw[aI hw];exact⟨zAB 40,pc (r:=(_,⟨4,_,c,0,0,0,[]⟩,0)) (SB.lit rfl) (pw (e:=⟨4,_,c,0,0,0,[]⟩) RI.al)⟩
   ·have hw:¬10<=h.length:=by simp at hw;omega
    refine au ?_;refine Xd hP rfl g64.ok rfl (c58 (x:=c) (l:=d2) (t:=h) rfl rfl rfl rfl rfl (by omega) rfl rfl (by decide) (by decide) rfl rfl rfl ?_);rw[show h.length+1=(h++[c]).length by simp];refine au ?_;refine Ik rfl rfl rfl (by omega) ?_;refine au ?_;refine d59 (s:=mk ⟨l,m,o,d2,h++[c],g,u,t++[c]⟩ t') (rd:=zAB 40) (Pq _ _ _ _ _ _ _ _ _ (by omega) (by simp;omega) (by omega) (by omega) (by simp;omega) (by omega)) (by first|exact SB.lit rfl (x1:=RI.mF rfl (ko rfl))|exact SB.lit rfl (x6:=RI.mF rfl (ko rfl))) ?_;dsimp only[jz,jn,xJ,sD,mk];refine au ?_;show ∃rd,aA _ rd _ (eE (if 10<=h.length then _ else (_,(⟨3,_,c,0,0,0,[]⟩:Ev),0)));rw[aB hw];exact⟨zAB 40,pc (r:=(_,⟨3,_,c,0,0,0,[]⟩,0)) (SB.lit rfl) (pw (e:=⟨3,_,c,0,0,0,[]⟩) RI.al)⟩
theorem Js(b:Bk)(hf:ba b=true)(bW:Yg b.aj)(s:St)(hs:aY 2000000 s)(hm:aL (bu b).1 b s true=true):PC 36 [cE b,bZ s,iv 0] (eE (aH s 0)):=c18 b hf bW s hs hm 0 (.inl rfl)
theorem Jt(b:Bk)(hf:ba b=true)(bW:Yg b.aj)(s:St)(hs:aY 2000000 s)(hm:aL (bu b).1 b s true=true):PC 36 [cE b,bZ s,iv 1] (eE (aH s 1)):=c18 b hf bW s hs hm 1 (.inr rfl)
def Y2(b:Bk)(s:St)(k c:Int):Bool:=((((decide (c<0)||decide ((b.aj.length:Int)<=c)) || !((b.aj[c.toNat]?).getD default).unit)||decide (7<=((s.side k).af.length:Int)))||decide (1000000<=s.next))
def XB(s:St)(k c:Int):St:={ s.put k { s.side k with af:=(s.side k).af++[⟨s.next,c,0,true⟩] }with next:=s.next+1 }
def uc(b:Bk)(s:St)(k c:Int):aa:=
 if Y2 b s k c then pd fW jx (.bool false)else pd (XB s k c) ⟨2,k,c,s.next,0,0,[]⟩ (.bool true)
theorem Jv(b:Bk)(hf:ba b=true)(bW:Yg b.aj)(s:St)(hs:aY 2000000 s)(hm:aL (bu b).1 b s true=true)(c:Int):PC 131 [cE b,bZ s,iv 0,iv c] (uc b s 0 c):=by
 have Dw:=Zu hm;have hw:BY.wrap (s.next+1)=s.next+1:=zAY _ (by omega);refine Yi hP g131.ok rfl ?_;rw[H4.e];unfold g131;dsimp only;refine Yd (v:=.ak 0 0) (rd:=[]) (up:=[(0,.box (cq b))]) rfl rfl (Yd (v:=.ak 1 0) (rd:=[]) (up:=[(1,.box (aF s))]) rfl rfl (Yd (v:=.ak 2 0) (rd:=[]) (up:=[(2,.box aT)]) rfl rfl (Yd (v:=.ak 3 0) (rd:=[]) (up:=[(3,.box ca)]) rfl rfl (qf b hf bW s (hs.mono (by decide)) (n0:=4) (n:=15) rfl rfl rfl rfl (λh=>by rw[hm]at h;cases h) (λ_=>?_)))));refine Za rfl (X1 (c:=false) (d:=false) (λ_=>rfl) (λ_=>rfl) (X1 (c:=false) (d:=false) (λ_=>rfl) (λ_=>rfl) (X1 (c:=false) (λ_=>rfl) (λ_=>ZM ..) (Iy (c:=decide (c<0)) (λ_=>rfl) (λ_=>rfl) (λ_=>rfl) (v4:=iv b.aj.length) (q4:=[]) (λ_=>by simp[Zf]) (λ_=>qP ..) (CR (d:=!((b.aj[c.toNat]?).getD default).unit) (λ_=>rfl) (λ_=>rfl) (λ_=>rfl) (v4:=.aq (cN ((b.aj[c.toNat]?).getD default)) 0) (q4:=[]) (λhc=>?_) (λ_=>rfl) (λ_=>bB (uh _)) (λ_=>rfl) ?_)))))
 ·simp_all [s_]
 refine CR (λ_=>rfl) (λ_=>rfl) (λ_=>rfl) (λ_=>rfl) (λ_=>rfl) (v6:=iv s.s0.af.length) (q6:=[]) (λ_=>by simp[Zf]) (λ_=>qP ..) (vS (λ_=>rfl) (λ_=>rfl) (λ_=>qP ..) (Ya (λh=>?_) (λh=>?_)))
 ·refine Za rfl (Za rfl (Yd rfl rfl (Yd rfl rfl (Zp rfl (Zp rfl ?_)))));have hr:uc b s 0 c=pd fW jx (.bool false):=aI h;rw[hr];exact⟨[],xG rfl⟩
 have hr:uc b s 0 c=pd (XB s 0 c) ⟨2,0,c,s.next,0,0,[]⟩ (.bool true):=aB (by rw[Bool.not_eq_true];exact h);have hu:¬7<=(s.s0.af.length:Int):=by
  simp_all
 refine Za rfl (Za rfl (Za rfl (Za rfl ?_)));refine Zi rfl (Zi rfl (Xf (ld (row:=(As s)) rfl rfl) (Zg _) ?_));refine Zi rfl (Xf (ld (row:=aF s) rfl rfl) (Zg _) (Zi rfl ?_));refine Xf (v:=.sl 16 0 1 true) (rd:=[]) (up:=[(16,.rows 4 [bc (⟨s.next,c,0,true⟩:Th)])]) rfl rfl (Xf (v:=.sl 17 0 (s.s0.af.length+1) false) (rd:=[16]) (up:=[(8,.dead),(17,.rows 4 ((s.s0.af++[(⟨s.next,c,0,true⟩:Th)]).map bc))]) ?_ rfl ?_)
 ·have:=QL 4 32 (σ:=((sg4 b s).append [.box (As s),.rows 4 [bc (⟨s.next,c,0,true⟩:Th)]])) (b:=8) (c:=16) (len:=s.s0.af.length) (ex:=false) (rs:=s.s0.af.map bc) (row:=bc (⟨s.next,c,0,true⟩:Th)) rfl rfl (by simp) rfl (by omega);simp_all
 refine ay ?_;rw[hw];refine ay ?_;refine⟨zAB 18,?_⟩;rw[hr];refine sx (cs:=(((st4 s).set 6 (iv (s.next+1))).set 13 (.sl 17 0 (s.s0.af.length+1) false))) (s:=XB s 0 c) ?_ (pw (e:=⟨2,0,c,s.next,0,0,[]⟩) RI.al) rfl;refine SB.mk (rd:=zAB 18) (s:=XB s 0 c) ?_ ?_ ?_ ?_ ?_ ?_ ?_ ?_ ?_ ?_ ?_<;>first|exact RI.own rfl (by decide) rfl|exact RT.own rfl (by decide) rfl|exact RT.own (l:=s.s0.af++[(⟨s.next,c,0,true⟩:Th)]) rfl (by decide) (by simp)
theorem Jw(b:Bk)(hf:ba b=true)(bW:Yg b.aj)(s:St)(hs:aY 2000000 s)(hm:aL (bu b).1 b s true=true)(c:Int):PC 131 [cE b,bZ s,iv 1,iv c] (uc b s 1 c):=by
 have Dw:=Zu hm;have hw:BY.wrap (s.next+1)=s.next+1:=zAY _ (by omega);refine Yi hP g131.ok rfl ?_;rw[H4.e];unfold g131;dsimp only;refine Yd (v:=.ak 0 0) (rd:=[]) (up:=[(0,.box (cq b))]) rfl rfl (Yd (v:=.ak 1 0) (rd:=[]) (up:=[(1,.box (aF s))]) rfl rfl (Yd (v:=.ak 2 0) (rd:=[]) (up:=[(2,.box aT)]) rfl rfl (Yd (v:=.ak 3 0) (rd:=[]) (up:=[(3,.box ca)]) rfl rfl (qf b hf bW s (hs.mono (by decide)) (n0:=4) (n:=15) rfl rfl rfl rfl (λh=>by rw[hm]at h;cases h) (λ_=>?_)))));refine Za rfl (X1 (c:=false) (d:=false) (λ_=>rfl) (λ_=>rfl) (X1 (c:=false) (d:=false) (λ_=>rfl) (λ_=>rfl) (X1 (c:=false) (λ_=>rfl) (λ_=>ZM ..) (Iy (c:=decide (c<0)) (λ_=>rfl) (λ_=>rfl) (λ_=>rfl) (v4:=iv b.aj.length) (q4:=[]) (λ_=>by simp[Zf]) (λ_=>qP ..) (CR (d:=!((b.aj[c.toNat]?).getD default).unit) (λ_=>rfl) (λ_=>rfl) (λ_=>rfl) (v4:=.aq (cN ((b.aj[c.toNat]?).getD default)) 0) (q4:=[]) (λhc=>?_) (λ_=>rfl) (λ_=>bB (uh _)) (λ_=>rfl) ?_)))))
 ·simp_all [s_]
 refine CR (λ_=>rfl) (λ_=>rfl) (λ_=>rfl) (λ_=>rfl) (λ_=>rfl) (v6:=iv s.s1.af.length) (q6:=[]) (λ_=>by simp[Zf]) (λ_=>qP ..) (vS (λ_=>rfl) (λ_=>rfl) (λ_=>qP ..) (Ya (λh=>?_) (λh=>?_)))
 ·refine Za rfl (Za rfl (Yd rfl rfl (Yd rfl rfl (Zp rfl (Zp rfl ?_)))));have hr:uc b s 1 c=pd fW jx (.bool false):=aI h;rw[hr];exact⟨[],xG rfl⟩
 have hr:uc b s 1 c=pd (XB s 1 c) ⟨2,1,c,s.next,0,0,[]⟩ (.bool true):=aB (by rw[Bool.not_eq_true];exact h);have hu:¬7<=(s.s1.af.length:Int):=by
  simp_all
 refine Za rfl (Za rfl (Za rfl (Za rfl ?_)));refine Zi rfl (Zi rfl (Xf (ld (row:=(As s)) rfl rfl) (Zg _) ?_));refine Zi rfl (Xf (ld (row:=aF s) rfl rfl) (Zg _) (Zi rfl ?_));refine Xf (v:=.sl 16 0 1 true) (rd:=[]) (up:=[(16,.rows 4 [bc (⟨s.next,c,0,true⟩:Th)])]) rfl rfl (Xf (v:=.sl 17 0 (s.s1.af.length+1) false) (rd:=[16]) (up:=[(13,.dead),(17,.rows 4 ((s.s1.af++[(⟨s.next,c,0,true⟩:Th)]).map bc))]) ?_ rfl ?_)
 ·have:=QL 4 32 (σ:=((sg4 b s).append [.box (As s),.rows 4 [bc (⟨s.next,c,0,true⟩:Th)]])) (b:=13) (c:=16) (len:=s.s1.af.length) (ex:=false) (rs:=s.s1.af.map bc) (row:=bc (⟨s.next,c,0,true⟩:Th)) rfl rfl (by simp) rfl (by omega);simp_all
 refine ay ?_;rw[hw];refine ay ?_;refine⟨zAB 18,?_⟩;rw[hr];refine sx (cs:=(((st4 s).set 6 (iv (s.next+1))).set 21 (.sl 17 0 (s.s1.af.length+1) false))) (s:=XB s 1 c) ?_ (pw (e:=⟨2,1,c,s.next,0,0,[]⟩) RI.al) rfl;refine SB.mk (rd:=zAB 18) (s:=XB s 1 c) ?_ ?_ ?_ ?_ ?_ ?_ ?_ ?_ ?_ ?_ ?_<;>first|exact RI.own rfl (by decide) rfl|exact RT.own rfl (by decide) rfl|exact RT.own (l:=s.s1.af++[(⟨s.next,c,0,true⟩:Th)]) rfl (by decide) (by simp)
theorem c118(l:List Th)(hl:l.length<=1000000000)(id:FuncId)(fs cs:List aa)(hp:Zh prog id=true)(f:Th→Bool)(hc:∀x∈l,PC id (fs++[.agg (bc x)]++cs) (.bool (f x)))(hr:∀x,gh (fs++[.agg (bc x)]++cs)=true) :
  PC 50 [gS l,.func (.func id) fs cs] (iv (eh f l 0)):=by
 refine Xa hP g50.ok rfl rfl ?_;rw[H2.e];unfold g50;dsimp only;refine Za (v:=iv l.length) (rd:=[]) (by simp[Zf]) (Xg (ι:=Nat) (λi vs s=>vs=[iv i]∧i<=l.length∧eh f l 0=eh f (l.drop i) i) (λi=>l.length-i) 0 ⟨rfl,by omega,by simp⟩ ?_);rintro i vs s again ⟨rfl,hi,j4⟩ bj;refine Za rfl (QM (λh=>?_) (λh=>?_))
 ·refine Za (Ym _ bc _ _ _ l _ i h) (Za (bB rfl) ?_);refine Qo (hc _ (AT h)) rfl hp (hr _) ?_;rw[gK h,eh]at j4;refine Ya (λh2=>?_) (λh2=>?_)
  ·rw[aI h2]at j4;rw[j4];rfl
  ·rw[aB (by rw[h2];simp)]at j4;refine Za (Xj ..) ?_;rw[Xc (n:=i) (by omega)];exact bj (i+1) _ _ (by omega) ⟨rfl,by omega,by rw[j4];push_cast;rfl⟩
 ·subst h;rw[zAD,eh]at j4;rw[j4]
theorem c119(u:Th)(id:Int):PC 51 [.agg (bc u),.aq [iv id] 0] (.bool (decide (u.id=id))):=by
 refine Xa hP g51.ok rfl rfl ?_;rw[H2.e];unfold g51;dsimp only;exact Yd rfl rfl (Za rfl (Za (ld rfl rfl) (Za rfl (Za (Zt ..) rfl))))
theorem XcK(id:Int):∀(l:List Th) (n:Int),eh (λu:Th=>decide (u.id=id)) l n=match gM l id with
  |some k=>n+k
  |none=>-1
 |[],n=>rfl
 |u::l,n=>by
  have ih:=XcK id l (n+1);simp only[eh,gM,zDw]at ih ⊢;by_cases h:u.id=id
  ·simp[h]
  ·simp only[gB h,zAW,if_false,ih];cases List.findIdx? (λu=>decide (u.id=id)) l with
   |none=>rfl
   |some k=>show n+1+(k:Int)=n+((k+1:Nat):Int);omega
theorem c71(s:St)(hs:aY 1000000000 s)(id:Int):PC 25 [bZ s,iv id] (gJ s id):=by
 have h0:=c118 s.s0.af hs.s0.af 51 [] [.aq [iv id] 0] g51.ok.plain (λu=>decide (u.id=id)) (λx _=>c119 x id) (λx=>rfl);have h1:=c118 s.s1.af hs.s1.af 51 [] [.aq [iv id] 0] g51.ok.plain (λu=>decide (u.id=id)) (λx _=>c119 x id) (λx=>rfl);have w1:BY.wrap (0+1)=1:=by decide
 have w2:BY.wrap (1+1)=2:=by decide
 rw[XcK]at h0 h1;refine Xa hP g25.ok rfl rfl ?_;rw[H2.e];unfold g25;dsimp only;refine ay (YL 3 (Yl ?_));refine ay (ZH h0 rfl g50.ok.plain rfl rfl ?_);simp only[gJ,aM];cases q0:gM s.s0.af id with
 |some k=>
  simp only[q0];refine Za (qP ..) ?_;rw[eX (by omega)];exact Xh (by simp)
 |none=>
  simp only[q0];refine Za rfl (Xe (Za rfl ?_));rw[w1];refine Yl (ay (ZH h1 rfl g50.ok.plain rfl rfl ?_));cases q1:gM s.s1.af id with
  |some k=>
   simp only[q1];refine Za (qP ..) ?_;rw[eX (by omega)];exact Xh (by simp)
  |none=>
   simp only[q1];refine Za rfl (Xe (Za rfl ?_));rw[w2];exact Yl (Za rfl (Xe (by simp)))
def Z0(b:Bk)(c:Int):Int:=((b.aj[c.toNat]?).getD default).dq
def oY(b:Bk)(u:Th)(n:Int):Int:=max (BY.wrap (n-Z0 b u.card)) 0
theorem JJ(x:Cd):aK false 5 1 (cN x)=some (iv x.dq):=rfl
theorem TT(m:List aa)(aX n:Int):PC 173 [.aq m 0,.fo,iv aX,iv n] (.bp [iv (BY.wrap (aX-n)),iv n]):=by
 refine Xa hP g173.ok rfl rfl ?_;rw[H4.e];unfold g173;dsimp only;exact ay rfl
theorem TU(b:Bk)(m:List aa)(u:Th)(aX n:Int)(h0:0<=u.card)(h1:u.card.toNat<b.aj.length):PC 173 [.aq (.aq (cq b) 0::m) 0,.aq (bc u) 0,iv aX,iv n] (.bp [iv (BY.wrap (u.harm+oY b u n)),iv (oY b u n)]):=by
 refine Xa hP g173.ok rfl rfl ?_;rw[H4.e];unfold g173;dsimp only;refine ax ?_;have hx:=s_ [] cN false false 12 b.aj .i64 u.card h0 h1;refine Za hx (Za rfl (Za (bB (JJ _)) ?_));refine ax ?_;have:Z0 b u.card=(b.aj[u.card.toNat]).dq:=by simp[Z0,zAP h1]
 rw[oY,this]
abbrev HI(s:St):List aa:=[.ak 0 0,iv s.turn,iv s.mover,aO s.phase,.bool s.bD,aO s.result,.sl 6 0 s.ao.length false,iv s.next,iv s.s0.aX,iv s.s0.aU,iv s.s0.most,.sl 7 0 s.s0.az.length false,.sl 8 0 s.s0.hand.length false,.sl 9 0 s.s0.an.length false,.sl 10 0 s.s0.af.length false,.sl 11 0 s.s0.told.length false,iv s.s1.aX,iv s.s1.aU,iv s.s1.most,.sl 12 0 s.s1.az.length false,.sl 13 0 s.s1.hand.length false,.sl 14 0 s.s1.an.length false,.sl 15 0 s.s1.af.length false,.sl 16 0 s.s1.told.length false]
abbrev Wu(s:St):List aa:=[iv s.turn,iv s.mover,aO s.phase,.bool s.bD,aO s.result,.sl 6 0 s.ao.length false,iv s.next,iv s.s0.aX,iv s.s0.aU,iv s.s0.most,.sl 7 0 s.s0.az.length false,.sl 8 0 s.s0.hand.length false,.sl 9 0 s.s0.an.length false,.sl 10 0 s.s0.af.length false,.sl 11 0 s.s0.told.length false,iv s.s1.aX,iv s.s1.aU,iv s.s1.most,.sl 12 0 s.s1.az.length false,.sl 13 0 s.s1.hand.length false,.sl 14 0 s.s1.an.length false,.sl 15 0 s.s1.af.length false,.sl 16 0 s.s1.told.length false]
abbrev PF(b:Bk)(s:St):List ab:=[.box (cq b),.box (aF s),.box aT,.box ca,.box aT,.box ca,.rows 1 (s.ao.map aS),.rows 1 (s.s0.az.map aS),.rows 1 (s.s0.hand.map aS),.rows 1 (s.s0.an.map aS),.rows 4 (s.s0.af.map bc),.rows 1 (s.s0.told.map aS),.rows 1 (s.s1.az.map aS),.rows 1 (s.s1.hand.map aS),.rows 1 (s.s1.an.map aS),.rows 4 (s.s1.af.map bc),.rows 1 (s.s1.told.map aS)]
abbrev zN:List ab:=[.dead,.dead,.dead,.dead,.dead,.dead,.dead,.dead,.dead,.dead,.dead,.dead,.dead,.dead,.dead,.dead,.dead,.dead]
def ja(n:Int):Int:=min (max n 0) 4000000
def jR(s:St)(kd k:Int)(i:Nat)(id:Int)(u:Th)(v:Int×Int):St×Ev×Int:=
 if iE v.1 then (s.put k { s.side k with af:=(s.side k).af.set i { u with harm:=v.1 } },⟨kd,k,0,id,0,v.2,[]⟩,0)else (fW,jx,171)
def nE(s:St)(kd k:Int)(v:Int×Int):St×Ev×Int:=
 if iE v.1 then (s.put k { s.side k with aX:=v.1 },⟨kd,k,0,0,0,v.2,[]⟩,0)else (fW,jx,171)
def ga(kd:Int)(fP:Int→Int×Int)(fU:Th→Int×Int)(s:St)(id k:Int):St×Ev×Int:=
 if id=0 then nE s kd k (fP (s.side k).aX)else if id<0 then (fW,jx,4)else match gM s.s0.af id with
  |some i=>jR s kd 0 i id ((s.s0.af[i]?).getD default) (fU ((s.s0.af[i]?).getD default))
  |none=>match gM s.s1.af id with
   |some i=>jR s kd 1 i id ((s.s1.af[i]?).getD default) (fU ((s.s1.af[i]?).getD default))
   |none=>(fW,jx,4)
def jF(b:Bk)(s:St)(id k n:Int):St×Ev×Int:=
 ga 5 (λl=>(BY.wrap (l-ja n),ja n)) (λu=>(BY.wrap (u.harm+oY b u (ja n)),oY b u (ja n))) s id k
def jK(s:St)(id k n:Int):St×Ev×Int:=
 ga 6 (λl=>(BY.wrap (l+ja n),ja n)) (λu=>(BY.wrap (u.harm-min (ja n) u.harm),min (ja n) u.harm)) s id k
def gT(kd:Int)(F:FuncId):gU:=λA xs σ ret=>match xs with
|[x0,x1,x2,x3,x4]=>
 A.wr (ub [x0] σ) σ λWw σ=>
 A.wr (ub [x1] σ) σ λWx σ=>
 A.wr (Zs aT [] σ) σ λuP σ=>
 A.wr (Zs ca [] σ) σ λCt σ=>
 A.call (.call 171) [Ww,Wx,(.int .i8 kd),x2,x3,x4,(.func (.func F) [] [])] σ λpj σ=>
 A.rd (Qj 0 [pj] σ) λsG=>
 A.rd (Qj 1 [pj] σ) λMF=>
 A.rd (Qj 2 [pj] σ) λyc=>
 A.wr (Zj 23 [uP,sG] σ) σ λ_ σ=>
 A.wr (Zj 7 [Ct,MF] σ) σ λ_ σ=>
 A.opt (iA true 23 uP σ) λr8=>
 A.opt (iA true 7 Ct σ) λr9=>
 ret (.bp [r8,r9,yc]) σ
|_=>A.stop
variable{b:Bk}
theorem S2{next:Int}:∀ {l:List Th} {ids:List Int},XA b next ids l=true→∀u∈l,Zw b next u=true
 |v::l,ids,h,u,hu=>by
  simp only[XA,AI]at h;rcases zAS.1 hu with rfl|hu
  ·exact h.1
  ·exact S2 h.2.2 u hu
theorem OJ{next:Int}{u:Th}(h:Zw b next u=true):0<=u.card∧u.card.toNat<b.aj.length:=by
 simp_all [Zw]
variable{e id m kd:Int}
variable{s:St}
theorem II{bare:Bool}(h:aL e b s bare=true):∀u∈s.s0.af,0<=u.card∧u.card.toNat<b.aj.length:=by
 have:=Oc h;simp only[XD,AI]at this;exact λu hu=>OJ (S2 this.2.1 u hu)
theorem Ip{bare:Bool}(h:aL e b s bare=true):∀u∈s.s1.af,0<=u.card∧u.card.toNat<b.aj.length:=by
 have:=Oc h;simp only[XD,AI]at this;exact λu hu=>OJ (S2 this.2.2.2 u hu)
variable{k i n:Nat}
theorem YS{l:List Th}(h:gM l id=some k):∃u,l[k]?=some u∧u.id=id:=by
 obtain⟨hk,h2,_⟩:=List.findIdx?_eq_some_iff_getElem.1 h;simp_all
variable{σ:List ab}
theorem YdT{b:Nat}{l:List Th}{u:Th}(hU:ai σ b=.rows 4 (l.map bc))(hk:l[k]?=some u)(now:Int):Zj 1 [.ptr b k 2,iv now] σ=.ok .aQ [] [(b,.rows 4 ((l.set k { u with harm:=now }).map bc))]:=by
 have h1:nth (l.map bc) k=some (bc u):=by rw[Y3,zAT,hk];rfl
 have hl:k<(l.map bc).length:=by grind
 have h2:YC k [iv u.id,iv u.card,iv now,.bool u.nw] (l.map bc)=some ((l.set k { u with harm:=now }).map bc):=by
  rw[Z1 hl,zDc];rfl
 show (match ai σ b with
   |.rows sz rs=>match nth rs k with
    |some row=>match cellsOf (iv now)with
     | some cs=>bif IT cs.length 1 then (match bX 2 cs row with
      |some row'=>match YC k row' rs with
       |some rs'=>aN.ok .aQ [] [(b,.rows sz rs')]
       |none=>.stop
      | none=>.stop)else .stop
     |none=>.stop
    |none=>.stop
   | _=>.stop)=_
 simp_all [bc]
variable{gF:gU}
variable{f F F2:FuncId}
theorem cTp(hf:ba b=true)(bW:Yg b.aj)(hs:aY 2000000 s)(hm:aL (bu b).1 b s true=true)(h01:m=0∨m=1)(hg:GQ f 5 (gT kd F))(yM:GQ F 1 gF)(hF:∀x τ (K:KT),K (.func (.func F2) [x] []) τ→gF VV [x] τ K)(yF:Zh prog F2=true)(n:Int)(v:Int×Int)(hc:PC F2 [.aq (.aq (cq b) 0::aF s) 0,.fo,iv (s.side m).aX,iv (ja n)] (.bp [iv v.1,iv v.2])):PC f [cE b,bZ s,iv 0,iv m,iv n] (eE (nE s kd m v)):=by
 have hr:nE s kd m v=(if iE v.1 then (s.put m { s.side m with aX:=v.1 },⟨kd,m,0,0,0,v.2,[]⟩,0)else (fW,jx,171)):=rfl;rcases h01 with rfl|rfl
 all_goals
  refine Yi hP hg rfl ?_;unfold gT;refine ay (Xd hP rfl g171.ok rfl ?_);rw[H7.e];unfold g171;dsimp only;refine ay (qf b hf bW s (hs.mono (by decide)) (n0:=6) (n:=17) rfl rfl rfl rfl (λh=>by rw[hm]at h;cases h) (λ_=>?_));refine Za rfl (Xe (Za (vT ..) (Za (XV ..) (Za (ZX ..) ?_))));refine Qg λk11 mj=>?_;refine Xe ?_;rw[mj];refine Za rfl (X1 (c:=false) (d:=false) (λ_=>rfl) (λ_=>rfl) (ay (W3 hP (ys:=[.ak 17 0]) (zs:=[.ak 17 0]) rfl yM rfl [] [17] (v:=.func (.func F2) [.ak 17 0] []) (m:=0) (σ:=((PF b s).append [.box (HI s)])) (τ:=zN) (τ':=zN) (by decide) (show ∀b∈[17],b<18 by decide) rfl rfl ?_ rfl (u:=.func (.func F2) [.ak 17 0] []) (up:=[]) (σ':=((PF b s).append [.box (HI s)])) rfl rfl rfl ?_)))
  ·exact hF _ _ _ ⟨rfl,rfl⟩
  refine ay ?_;refine GY (rd:=[0,6,7,8,9,10,11,12,13,14,15,16,17]) (hc) rfl yF (.cons (aA.box (row:=(HI s)) rfl (by decide) (.cons (aA.box (row:=cq b) rfl (by decide) (bd.ro rfl)) ?_)) <| .cons (aA.ro rfl) <| .cons (aA.ro rfl) <| .cons (aA.ro rfl) .nil) rfl ?_
  ·exact SB.mk (s:=s) (RI.own rfl (by decide) rfl) (RI.own rfl (by decide) rfl) (RI.own rfl (by decide) rfl) (RI.own rfl (by decide) rfl) (RT.own rfl (by decide) rfl) (RI.own rfl (by decide) rfl) (RI.own rfl (by decide) rfl) (RI.own rfl (by decide) rfl) (RI.own rfl (by decide) rfl) (RT.own rfl (by decide) rfl) (RI.own rfl (by decide) rfl)
  refine ay (a_ (c57 _) g63.ok (Za rfl (Ya (λh2=>?_) (λh2=>?_))))
  ·have h3:iE v.1=false:=by simpa using h2
   replace hr:=hr.trans (aB (by rw[h3];decide))
   refine ay ?_;rw[hr];exact⟨[],vq 171⟩
  have h3:iE v.1=true:=by simpa using h2
  replace hr:=hr.trans (aI h3)
  refine Za rfl (Qg λk63 DC=>?_);refine ay ?_;rw[DC];refine ay ?_;rw[hr];refine⟨zAB 18,?_⟩;refine pc (r:=(_,⟨kd,_,0,0,0,v.2,[]⟩,0)) ?_ (pw (e:=⟨kd,_,0,0,0,v.2,[]⟩) RI.al)
 ·refine SB.mk (rd:=zAB 18) (s:={ s with s0:={ s.s0 with aX:=v.1 } }) ?_ ?_ ?_ ?_ ?_ ?_ ?_ ?_ ?_ ?_ ?_<;>first|exact RI.own rfl (by decide) rfl|exact RT.own rfl (by decide) rfl
 ·refine SB.mk (rd:=zAB 18) (s:={ s with s1:={ s.s1 with aX:=v.1 } }) ?_ ?_ ?_ ?_ ?_ ?_ ?_ ?_ ?_ ?_ ?_<;>first|exact RI.own rfl (by decide) rfl|exact RT.own rfl (by decide) rfl
theorem cTu(hf:ba b=true)(bW:Yg b.aj)(hs:aY 2000000 s)(hm:aL (bu b).1 b s true=true)(h01:m=0∨m=1)(hg:GQ f 5 (gT kd F))(yM:GQ F 1 gF)(hF:∀x τ (K:KT),K (.func (.func F2) [x] []) τ→gF VV [x] τ K)(yF:Zh prog F2=true)(id sd n:Int)(g_:id≠0)(oP:¬id<0)(k:Nat)(yL:gJ s id=.bp [iv m,iv k,.bool true])(u:Th)(hk:(s.side m).af[k]?=some u)(v:Int×Int)(hc:PC F2 [.aq (.aq (cq b) 0::aF s) 0,.aq (bc u) 0,iv (s.side m).aX,iv (ja n)] (.bp [iv v.1,iv v.2])):PC f [cE b,bZ s,iv id,iv sd,iv n] (eE (jR s kd m k id u v)):=by
 have h71:=c71 s (hs.mono (by decide)) id;rw[yL]at h71;have lW:k<(s.side m).af.length:=(gE hk).1;have hr:jR s kd m k id u v=(if iE v.1 then (s.put m { s.side m with af:=(s.side m).af.set k { u with harm:=v.1 } },⟨kd,m,0,id,0,v.2,[]⟩,0)else (fW,jx,171)):=rfl;rcases h01 with rfl|rfl
 all_goals
  refine Yi hP hg rfl ?_;unfold gT;refine ay (Xd hP rfl g171.ok rfl ?_);rw[H7.e];unfold g171;dsimp only;refine ay (qf b hf bW s (hs.mono (by decide)) (n0:=6) (n:=17) rfl rfl rfl rfl (λh=>by rw[hm]at h;cases h) (λ_=>?_));refine Za rfl (Xe (Za (vT ..) (Za (XV ..) (Za (ZX ..) ?_))));refine Qg λk11 mj=>?_;rw[eX g_];refine ay (a_ h71 g25.ok (Za rfl (Za rfl (Za rfl (Za rfl ?_)))));refine X1 (c:=false) (λ_=>rfl) (λ_=>ZM ..) ?_;rw[gB oP];refine ay (Za (rr _ _ 0 _ _ _ _ _ k lW rfl) ?_);rw[IN];rw[mj];refine Za rfl (X1 (c:=false) (d:=false) (λ_=>rfl) (λ_=>rfl) (ay (W3 hP (ys:=[.ak 17 0]) (zs:=[.ak 17 0]) rfl yM rfl [] [17] (v:=.func (.func F2) [.ak 17 0] []) (m:=0) (σ:=((PF b s).append [.box (HI s)])) (τ:=zN) (τ':=zN) (by decide) (show ∀b∈[17],b<18 by decide) rfl rfl ?_ rfl (u:=.func (.func F2) [.ak 17 0] []) (up:=[]) (σ':=((PF b s).append [.box (HI s)])) rfl rfl rfl ?_)))
  ·exact hF _ _ _ ⟨rfl,rfl⟩
  refine ay ?_;refine GY (rd:=[0,6,7,8,9,10,11,12,13,14,15,16,17]) (hc) rfl yF (.cons (aA.box (row:=(HI s)) rfl (by decide) (.cons (aA.box (row:=cq b) rfl (by decide) (bd.ro rfl)) ?_)) <| .cons (aA.ptr (row:=bc u) rfl (by decide) (by rw[zAT];exact congrArg (Option.map bc) hk) (bd.ro rfl)) <| .cons (aA.ro rfl) <| .cons (aA.ro rfl) .nil) rfl ?_
  ·exact SB.mk (s:=s) (RI.own rfl (by decide) rfl) (RI.own rfl (by decide) rfl) (RI.own rfl (by decide) rfl) (RI.own rfl (by decide) rfl) (RT.own rfl (by decide) rfl) (RI.own rfl (by decide) rfl) (RI.own rfl (by decide) rfl) (RI.own rfl (by decide) rfl) (RI.own rfl (by decide) rfl) (RT.own rfl (by decide) rfl) (RI.own rfl (by decide) rfl)
  refine ay (a_ (c57 _) g63.ok (Za rfl (Ya (λh2=>?_) (λh2=>?_))))
  ·have h3:iE v.1=false:=by simpa using h2
   replace hr:=hr.trans (aB (by rw[h3];decide))
   refine ay ?_;rw[hr];exact⟨[],vq 171⟩
  have h3:iE v.1=true:=by simpa using h2
  replace hr:=hr.trans (aI h3)
  refine Za rfl (Qg λk63 DC=>?_);refine ay (Yd (YdT rfl hk _) rfl ?_);rw[DC];refine ay ?_;rw[hr];refine⟨zAB 18,?_⟩;refine pc (r:=(_,⟨kd,_,0,id,0,v.2,[]⟩,0)) ?_ (pw (e:=⟨kd,_,0,id,0,v.2,[]⟩) RI.al)
 ·refine SB.mk (rd:=zAB 18) (s:={ s with s0:={ s.s0 with af:=s.s0.af.set k { u with harm:=v.1 } } }) ?_ ?_ ?_ ?_ ?_ ?_ ?_ ?_ ?_ ?_ ?_<;>first|exact RI.own rfl (by decide) rfl|exact RT.own rfl (by decide) rfl|exact RT.own (l:=s.s0.af.set k { u with harm:=v.1 }) rfl (by decide) (by simp)
 ·refine SB.mk (rd:=zAB 18) (s:={ s with s1:={ s.s1 with af:=s.s1.af.set k { u with harm:=v.1 } } }) ?_ ?_ ?_ ?_ ?_ ?_ ?_ ?_ ?_ ?_ ?_<;>first|exact RI.own rfl (by decide) rfl|exact RT.own rfl (by decide) rfl|exact RT.own (l:=s.s1.af.set k { u with harm:=v.1 }) rfl (by decide) (by simp)
theorem cTn(hf:ba b=true)(bW:Yg b.aj)(hs:aY 2000000 s)(hm:aL (bu b).1 b s true=true)(hg:GQ f 5 (gT kd F))(yM:GQ F 1 gF)(hF:∀x τ (K:KT),K (.func (.func F2) [x] []) τ→gF VV [x] τ K)(yF:Zh prog F2=true)(id sd n:Int)(g_:id≠0)(v:aa)(w:aa)(x:Bool)(yL:gJ s id=.bp [v,w,.bool x])(hx:id<0∨x=false):PC f [cE b,bZ s,iv id,iv sd,iv n] (eE (fW,jx,4)):=by
 have h71:=c71 s (hs.mono (by decide)) id;rw[yL]at h71;have rN:gh [.bp [v,w,.bool x]]=true:=by rw[←yL];rfl
 refine Yi hP hg rfl ?_;unfold gT;refine ay (Xd hP rfl g171.ok rfl ?_);rw[H7.e];unfold g171;dsimp only;refine ay (qf b hf bW s (hs.mono (by decide)) (n0:=6) (n:=17) rfl rfl rfl rfl (λh=>by rw[hm]at h;cases h) (λ_=>?_));refine Za rfl (Xe (Za (vT ..) (Za (XV ..) (Za (ZX ..) ?_))));refine Qg λk11 mj=>?_;rw[eX g_];refine ay (a_ h71 g25.ok ?_);refine ay (X1 (c:=!x) (λ_=>rfl) (λ_=>ZM ..) ?_);rw[show (!x||decide (id<0))=true by rcases hx with h|h<;>simp[h]];refine ay ?_;exact⟨[],vq 4⟩
theorem cT(hf:ba b=true)(bW:Yg b.aj)(hs:aY 2000000 s)(hm:aL (bu b).1 b s true=true)(hg:GQ f 5 (gT kd F))(yM:GQ F 1 gF)(hF:∀x τ (K:KT),K (.func (.func F2) [x] []) τ→gF VV [x] τ K)(yF:Zh prog F2=true)(id sd n:Int)(h0:sd=0∨sd=1){fP:Int→Int×Int}{fU:Th→Int×Int}(hcP:∀m aX,PC F2 [.aq m 0,.fo,iv aX,iv (ja n)] (.bp [iv (fP aX).1,iv (fP aX).2]))(hcU:∀m u aX,0<=u.card→u.card.toNat<b.aj.length→PC F2 [.aq (.aq (cq b) 0::m) 0,.aq (bc u) 0,iv aX,iv (ja n)] (.bp [iv (fU u).1,iv (fU u).2])) :
  PC f [cE b,bZ s,iv id,iv sd,iv n] (eE (ga kd fP fU s id sd)):=by
 unfold ga;by_cases g_:id=0
 ·rw[aI g_];subst g_;exact cTp hf bW hs hm h0 hg yM hF yF n _ (by rcases h0 with rfl|rfl<;>exact hcP _ _)
 rw[aB g_];by_cases oP:id<0
 ·rw[aI oP];exact cTn hf bW hs hm hg yM hF yF id sd n g_ _ _ _ rfl (.inl oP)
 rw[aB oP];cases q0:gM s.s0.af id with
 |some k=>
  obtain⟨u,hk,_⟩:=YS q0;have Kp:=II hm u (zAI hk);simp only[hk,zAt];exact cTu hf bW hs hm (.inl rfl) hg yM hF yF id sd n g_ oP k (by simp[gJ,aM,q0]) u hk _ (hcU _ _ _ Kp.1 Kp.2)
 |none=>
  cases q1:gM s.s1.af id with
  |some k=>
   obtain⟨u,hk,_⟩:=YS q1;have Kp:=Ip hm u (zAI hk);simp only[hk,zAt];exact cTu hf bW hs hm (.inr rfl) hg yM hF yF id sd n g_ oP k (by simp[gJ,aM,q0,q1]) u hk _ (hcU _ _ _ Kp.1 Kp.2)
  |none=>exact cTn hf bW hs hm hg yM hF yF id sd n g_ _ _ _ rfl (.inr (by simp[aM,q0,q1]))
theorem w65(x:aa)(τ:List ab)(K:KT)(h:K (.func (.func 173) [x] []) τ):g172.u VV [x] τ K:=by
 rw[H1.e];unfold g172;dsimp only;exact Za rfl h
theorem c22(b:Bk)(hf:ba b=true)(bW:Yg b.aj)(s:St)(hs:aY 2000000 s)(hm:aL (bu b).1 b s true=true)(id sd n:Int)(h0:sd=0∨sd=1):PC 123 [cE b,bZ s,iv id,iv sd,iv n] (eE (jF b s id sd n)):=
 cT hf bW hs hm (show GQ 123 5 (gT 5 172) from g123.ok) g172.ok w65 g173.ok.plain id sd n h0 (λm aX=>TT m aX _) (λm u aX h1 h2=>TU b m u aX _ h1 h2)
variable{α:Type}
theorem told(l:List α){Q:α→Int→Prop}(h:∀x∈l,∃n,Q x n):∃F:Nat→Int,∀i (h:i<l.length),Q l[i] (F i):=by
 refine Classical.axiomOfChoice (r:=λ(i:Nat) (n:Int)=>∀(h:i<l.length),Q l[i] n) (λi=>?_);by_cases hi:i<l.length
 ·obtain⟨n,hn⟩:=h l[i] (AT hi);exact⟨n,λ_=>hn⟩
 ·exact⟨0,λh'=>(hi h').elim⟩
abbrev Cf(s:St):List aa:=[.ak 0 0,iv s.turn,iv s.mover,aO s.phase,.bool s.bD,aO s.result,.sl 2 0 s.ao.length false,iv s.next,iv s.s0.aX,iv s.s0.aU,iv s.s0.most,.sl 3 0 s.s0.az.length false,.sl 4 0 s.s0.hand.length false,.sl 5 0 s.s0.an.length false,.sl 6 0 s.s0.af.length false,.sl 7 0 s.s0.told.length false,iv s.s1.aX,iv s.s1.aU,iv s.s1.most,.sl 8 0 s.s1.az.length false,.sl 9 0 s.s1.hand.length false,.sl 10 0 s.s1.an.length false,.sl 11 0 s.s1.af.length false,.sl 12 0 s.s1.told.length false]
abbrev Wt(b:Bk)(s:St):List ab:=[.box (cq b),.box (aF s),.rows 1 (s.ao.map aS),.rows 1 (s.s0.az.map aS),.rows 1 (s.s0.hand.map aS),.rows 1 (s.s0.an.map aS),.rows 4 (s.s0.af.map bc),.rows 1 (s.s0.told.map aS),.rows 1 (s.s1.az.map aS),.rows 1 (s.s1.hand.map aS),.rows 1 (s.s1.an.map aS),.rows 4 (s.s1.af.map bc),.rows 1 (s.s1.told.map aS)]
def Zr(b:Bk)(c:Int):Cd:=(b.aj[c.toNat]?).getD default
def kM(b:Bk)(place:Int):List Th→Int→Int×Int→Int×Int
 |[],_,a=>a
 |u::l,i,a=>kM b place l (i+1) (if i=place then (BY.wrap (a.1+(Zr b u.card).dL),BY.wrap (a.2+(Zr b u.card).bL))else (BY.wrap (a.1+(Zr b u.card).eU),BY.wrap (a.2+(Zr b u.card).dU)))
def jU(b:Bk)(l:List Th)(place:Int):Int×Int:=kM b place l 0 (0,0)
def ZK(b:Bk)(all:List Th):List Th→Int→List Int
 |[],_=>[]
 |u::l,i=>if (jU b all i).2<=u.harm then u.id::ZK b all l (i+1)else ZK b all l (i+1)
def Q2(b:Bk)(d:Sd):List Int:=ZK b d.af d.af 0
theorem XbE(b:Bk)(all:List Th):∀(l:List Th) (i:Int),(ZK b all l i).length<=l.length
 |[],_=>No _
 |u::l,i=>by
  have:=XbE b all l (i+1);unfold ZK;split<;>simp<;>omega
def aJ(b:Bk)(s:St):List Int:=if s.mover=0 then Q2 b s.s0++Q2 b s.s1 else Q2 b s.s1++Q2 b s.s0
theorem Bw(x:Cd):aK false 3 1 (cN x)=some (iv x.dL):=rfl
theorem Bz(x:Cd):aK false 4 1 (cN x)=some (iv x.bL):=rfl
theorem BA(x:Cd):aK false 6 1 (cN x)=some (iv x.eU):=rfl
theorem BB(x:Cd):aK false 7 1 (cN x)=some (iv x.dU):=rfl
variable{v:aa}
theorem Ar{b j sz:Nat}{agg:Bool}{rs:List (List aa)}{row:List aa}(hb:ai σ b=.rows sz rs)(hi:rs[i]?=some row)(hv:aK agg j n row=some v):Qe agg n [.ptr b i j] σ=.ok v [b] []:=by
 show (match ai σ b with
   |.rows _ rs=>match nth rs i with
    |some row=>match aK agg j n row with
     |some v=>aN.ok v [b] []
     |none=>.stop
    |none=>.stop
   | _=>.stop)=_
 rw[hb];simp only[Y3,hi,hv]
theorem Gr.more{σ0:List ab}{rows:List (List aa)}(h:Gr σ0 n rows k v σ)(l:List ab):Gr σ0 n rows k v (σ++l):=by
 obtain⟨h1,h2,h3⟩:=h;refine⟨by simp;omega,λc hc=>by rw[Yf l (by omega),h2 c hc],?_⟩;rcases h3 with h3|⟨q1,b,q2,q3,q4,q5⟩
 ·exact .inl h3
 ·exact .inr ⟨q1,b,q2,q3,Qb l q4,q5⟩
variable{l:List Int}
theorem Gr.ri{σ0:List ab}(h:Gr σ0 1 (l.map aS) l.length v σ):∃rd,RI σ rd v l:=by
 rcases h.2.2 with ⟨h1,h2,_⟩|⟨_,b,_,h2,h3,_⟩
 ·simp_all [RI.al]
 ·subst h2;exact⟨[b],RI.own h3 (by simp) rfl⟩
def sH(side:Int):Nat:=if side=0 then 4 else 9
def sV(side:Int):Nat:=if side=0 then 7 else 15
theorem c75(b:Bk)(s:St)(hm:m=0∨m=1)(hl:(s.side m).af.length<=1000000000)(hu:∀u∈(s.side m).af,0<=u.card∧u.card.toNat<b.aj.length)(place:Int):PC 49 [.aq (.aq (cq b) 0::aF s) 0,iv m,iv place] (.bp [iv (jU b (s.side m).af place).1,iv (jU b (s.side m).af place).2]):=by
 generalize hU:(s.side m).af=U at *;have hp:aK false (sV m+1+6) 1 (.aq (cq b) 0::aF s)=some (gS U):=by rw[←hU];rcases hm with rfl|rfl<;>rfl
 have hi:∀σ,Yk 2 8 [.aq (.aq (cq b) 0::aF s) (0+1+7),iv m] σ=.ok (.aq (.aq (cq b) 0::aF s) (sV m+1)) [] []:=λσ=>by rcases hm with rfl|rfl<;>rfl
 refine Xa hP g49.ok rfl rfl ?_;rw[H3.e];unfold g49;dsimp only;refine Za rfl (Za rfl (Za rfl (Za (hi _) (Za rfl (Za (bB hp) (Za (v:=iv U.length) (rd:=[]) (by simp[Zf]) ?_))))));refine Xg (ι:=Nat) (λi vs _=>(∃a:Int×Int,vs=[iv i,iv a.1,iv a.2]∧jU b U place=kM b place (U.drop i) i a)∧i<=U.length) (λi=>U.length-i) 0 ⟨⟨(0,0),rfl,by simp[jU]⟩,by omega⟩ ?_;rintro i vs σ again ⟨⟨a,rfl,hr⟩,hi⟩ bj;refine Za rfl (Ya (λh=>?_) (λh=>?_));rotate_left
 ·have h:i=U.length:=by simp at h;omega
  simp_all [kM]
 have h:i<U.length:=by simpa using h
 have il:=AT h;rw[gK h,kM]at hr;have cB:=λ(t:List ab)=>Ym t bc false false 4 U .i64 i h;generalize U[i]=u at il hr cB;have Dr:=hu u il;have wM:=λ(t:List ab)=>s_ t cN false false 12 b.aj .i64 u.card Dr.1 Dr.2;have u7:Zr b u.card=b.aj[u.card.toNat]:=by simp_all [Zr]
 rw[u7]at hr;generalize b.aj[u.card.toNat]=c at hr wM;refine Qg λk10 rR=>?_;refine Za (cB _) (Za (bB rfl) (Zv (row:=bc u) (row':=bc u) rfl rfl rfl ?_));have hB:=Yc σ (.box (bc u));refine Za rfl (Za rfl (Za (bB rfl) (Za rfl (Za rfl (Za (bB rfl) (Za rfl (Za (ld hB rfl) (Za (wM _) (Za (Zt ..) ?_)))))))));refine Ya (λhp=>?_) (λhp=>?_)
 ·rw[aI (of_decide_eq_true hp)]at hr;refine Za rfl (Za rfl (Za (bB (Bw _)) (Za (Xj ..) (Za rfl (Za rfl (Za (bB (Bz _)) (Za (Xj ..) ?_)))))));rw[rR];refine Za (Xj ..) ?_;rw[Xc (n:=i) (by omega)];exact bj (i+1) _ _ (by omega) ⟨⟨_,rfl,by rw[hr];push_cast;rfl⟩,by omega⟩
 ·rw[aB (of_decide_eq_false hp)]at hr;refine Za rfl (Za rfl (Za (bB (BA _)) (Za (Xj ..) (Za rfl (Za rfl (Za (bB (BB _)) (Za (Xj ..) ?_)))))));rw[rR];refine Za (Xj ..) ?_;rw[Xc (n:=i) (by omega)];exact bj (i+1) _ _ (by omega) ⟨⟨_,rfl,by rw[hr];push_cast;rfl⟩,by omega⟩
theorem c28(b:Bk)(hf:ba b=true)(bW:Yg b.aj)(s:St)(hs:aY 2000000 s)(hm:aL (bu b).1 b s true=true):PC 24 [cE b,bZ s] (aP (aJ b s)):=by
 have w1:BY.wrap (0+1)=1:=by decide
 have w2:BY.wrap (1+1)=2:=by decide
 have Dw:=Zu hm;obtain⟨M,eM⟩:∃M,(Wt b s).append [ab.box (Cf s)]=M:=⟨_,rfl⟩;have inner:∀(m:Int) (xi:m=0∨m=1) (pre:List Int) (v:aa) (τ:List ab) (X:nA),Gr M 1 (pre.map aS) pre.length v τ→pre.length<=2000000→(∀v' τ',Gr M 1 ((pre++Q2 b (s.side m)).map aS) (pre++Q2 b (s.side m)).length v' τ'→X [iv (s.side m).af.length,v'] τ') →
   VV.loop (λTv v22 σ=>VV.rd (Zn .lss false [h0 v22,iv (s.side m).af.length] σ) λt35=>VV.test t35 (
    cP (λk24=>VV.rd (Xi 4 [.sl (sH m + 2) 0 (s.side m).af.length false,h0 v22] σ) λt37=>VV.rd (Qe true 4 [t37] σ) λt38=>VV.wr (Zs [.int .i64 0,.int .i64 0,.int .i64 0,.bool false] [] σ) σ λt10 σ=>VV.wr (Zj 4 [t10,t38] σ) σ λ_ σ=>
     VV.call (.call 49) [.ak 13 0,iv m,h0 v22] σ λt43 σ=>VV.rd (Qj 0 [t43] σ) λt44=>VV.rd (Qj 1 [t43] σ) λt45=>VV.rd (Zc 2 [t10] σ) λt46=>VV.rd (Qe false 1 [t46] σ) λt47=>VV.rd (Zn .geq false [t47,t45] σ) λt49=>VV.test t49 (
      VV.rd (Zc 0 [t10] σ) λt51=>VV.rd (Qe false 1 [t51] σ) λt52=>VV.wr (Xq 1 1 [.int .i64 0] [(0,1)] [t52] σ) σ λt53 σ=>VV.wr (Qf 1 8 [h1 v22,t53] σ) σ λt54 σ=>k24 [t54] σ) (k24 [h1 v22] σ)) (λv25 σ=>VV.rd (Zn .add false [h0 v22,.int .i64 1] σ) λt55=>Tv [t55,h0 v25] σ)) (X v22 σ)) [.int .i64 0,v] τ:=by
  intro m xi pre v τ X Pf aaC hX;have PA:(s.side m).af.length<=2000000:=by rcases xi with rfl|rfl;exact hs.s0.af;exact hs.s1.af
  have huu:∀u∈(s.side m).af,0<=u.card∧u.card.toNat<b.aj.length:=by rcases xi with rfl|rfl;exact II hm;exact Ip hm
  have h165:=c75 b s xi (by omega) huu;have hMU:ai M (sH m+2)=.rows 4 ((s.side m).af.map bc):=by rw[←eM];rcases xi with rfl|rfl<;>rfl
  have nJ:Q2 b (s.side m)=ZK b (s.side m).af (s.side m).af 0:=rfl;generalize (s.side m).af=U at *;refine Xg (ι:=Nat) (λi vs τ=>(∃(done:List Int) (v:aa),vs=[iv i,v]∧Gr M 1 (done.map aS) done.length v τ∧pre++Q2 b (s.side m)=done++ZK b U (U.drop i) i∧done.length<=pre.length+i)∧i<=U.length) (λi=>U.length-i) 0 ⟨⟨pre,_,rfl,Pf,by rw[nJ];rfl,by omega⟩,by omega⟩ ?_;rintro i vs τ again ⟨⟨done,v,rfl,hG,hr,Pk⟩,hi⟩ bj;refine Za rfl (QM (λh=>?_) (λh=>?_))
  ·have sQ:(U.map bc)[i]?=some (bc U[i]):=by simp[h]
   rw[gK h,ZK]at hr;generalize U[i]=u at hr sQ;refine Qg λk24 KG=>?_;have hU:ai τ (sH m+2)=.rows 4 (U.map bc):=hG.fS hMU (by simp);refine Za (v:=.ptr (sH m+2) i 0) (rd:=[sH m+2]) ?_ ?_
   ·have:=rr τ (sH m+2) 0 U.length false 4 (U.map bc) .i64 i h hU;rw[IN]at this;exact this
   refine Za (Ar hU sQ rfl) (Zv (row:=bc u) (row':=bc u) rfl rfl rfl ?_);have hB:=Yc τ (.box (bc u));have Kd:=hG.more [.box (bc u)];have hO:∀c y,y≠ab.dead→ai ((Wt b s).append [ab.box (Cf s)]) c=y→ai (τ++[.box (bc u)]) c=y:=λc y hy hc=>Kd.fS (by rw[←eM];exact hc) hy;refine Xu (rd:=[0,2,3,4,5,6,7,8,9,10,11,12,13]) (h165 i) rfl g49.ok.plain (.cons (aA.box (row:=Cf s) (Xv (hO 13 _ (by simp) rfl) (by simp)) (by decide) (.cons (aA.box (row:=cq b) (Xv (hO 0 _ (by simp) rfl) (by simp)) (by decide) (bd.ro rfl)) ?_)) <| .cons (aA.ro rfl) <| .cons (aA.ro rfl) .nil) rfl ?_
   ·exact SB.mk (s:=s) (RI.own (hO 2 _ (by simp) rfl) (by decide) rfl) (RI.own (hO 3 _ (by simp) rfl) (by decide) rfl) (RI.own (hO 4 _ (by simp) rfl) (by decide) rfl) (RI.own (hO 5 _ (by simp) rfl) (by decide) rfl) (RT.own (hO 6 _ (by simp) rfl) (by decide) rfl) (RI.own (hO 7 _ (by simp) rfl) (by decide) rfl) (RI.own (hO 8 _ (by simp) rfl) (by decide) rfl) (RI.own (hO 9 _ (by simp) rfl) (by decide) rfl) (RI.own (hO 10 _ (by simp) rfl) (by decide) rfl) (RT.own (hO 11 _ (by simp) rfl) (by decide) rfl) (RI.own (hO 12 _ (by simp) rfl) (by decide) rfl)
   refine ay (Za (ld hB rfl) (Za (qP ..) ?_));refine Ya (λhp=>?_) (λhp=>?_)
   ·rw[aI (of_decide_eq_true hp)]at hr;refine Za rfl (Za (ld hB rfl) ?_);refine Kd.put (by_:=8) rfl rfl rfl (by omega) (λv' τ' Uo=>?_);rw[KG];refine Za (Xj ..) ?_;rw[Xc (n:=i) (by omega)];refine bj (i+1) _ _ (by omega) ⟨⟨done++[u.id],v',rfl,?_,?_,?_⟩,by omega⟩
    ·rw[zAa,By];exact Uo
    ·rw[hr,zAb];push_cast;rfl
    ·rw[By,zBa];omega
   ·rw[aB (of_decide_eq_false hp)]at hr;rw[KG];refine Za (Xj ..) ?_;rw[Xc (n:=i) (by omega)];exact bj (i+1) _ _ (by omega) ⟨⟨done,v,rfl,Kd,by rw[hr];push_cast;rfl,by omega⟩,by omega⟩
  subst h;rw[zAD,ZK,zBE]at hr;subst hr;exact hX v τ hG
 have h01:s.mover=0∨s.mover=1:=by omega
 obtain⟨m,em⟩:∃m,s.mover=m:=⟨_,rfl⟩;rw[em]at h01;have h10:1-m=0∨1-m=1:=by omega
 have pu:∀ {k:Int},k=0∨k=1→aK false (sV k+1+6) 1 (Cf s)=some (.sl (sH k+2) 0 (s.side k).af.length false):=by rintro k (rfl|rfl)<;>rfl
 have si:∀ {k:Int},k=0∨k=1→∀σ,Yk 2 8 [.ak 13 (0+1+7),iv k] σ=.ok (.ak 13 (sV k+1)) [] []:=by rintro k (rfl|rfl) σ<;>rfl
 refine Yi hP g24.ok rfl ?_;rw[H2.e];unfold g24;dsimp only;refine ay (qf b hf bW s (hs.mono (by decide)) (n0:=2) (n:=13) rfl rfl rfl rfl (λh=>by rw[hm]at h;cases h) (λ_=>?_));have Hw:∀σ,ai σ 1=.box (aF s)→Qe false 1 [.ak 1 1] σ=.ok (iv m) [1] []:=λσ h=>by
  have:=ld (σ:=σ) (b:=1) (j:=1) (n:=1) (agg:=false) (v:=iv s.mover) h rfl;rw[em]at this;exact this
 refine Za rfl (Xe (Za rfl (Za (Hw _ rfl) (Za rfl (Za (Hw _ rfl) (Za (CX ..) ?_))))));rw[zAY _ (by omega)];refine Za rfl (YL 3 (Yl ?_));have Pf:Gr M 1 ([].map aS) ([]:List Int).length .al ((Wt b s).append [.box (Cf s)]):=by rw[eM];exact Gr.nil 1 _
 have hold:∀ {rows n v σ},Gr M 1 rows n v σ→ai σ 13=.box (Cf s):=λh=>h.fS (by rw[←eM];rfl) (by simp);refine Za rfl (Xh (Za rfl (Za rfl (Za rfl (Za rfl (Za (si h01 _) (Za rfl (Za (ld (hold Pf) (pu h01)) (Za rfl ?_)))))))));refine inner m h01 [] _ _ _ Pf (by simp) λv1 τ1 hG1=>?_;have BU:=XbE b (s.side m).af (s.side m).af 0;have PA:(s.side m).af.length<=2000000:=by rcases h01 with rfl|rfl;exact hs.s0.af;exact hs.s1.af
 refine Za rfl ?_;rw[w1];refine Yl (Za rfl (Xh (Za rfl (Za rfl (Za rfl (Za rfl (Za (si h10 _) (Za rfl (Za (ld (hold hG1) (pu h10)) (Za rfl ?_))))))))));refine inner (1-m) h10 _ _ _ _ hG1 (by simp[Q2];omega) λv2 τ2 Kd=>?_;refine Za rfl ?_;rw[w2];refine Yl (Za rfl (Xe ?_));obtain⟨rd,hri⟩:=Kd.ri;refine⟨rd,?_⟩;have e:aJ b s=[]++Q2 b (s.side m)++Q2 b (s.side (1-m)):=by
  unfold aJ;rw[em];rcases h01 with rfl|rfl<;>rfl
 rw[e];exact hri
def HN:Th:=⟨0,0,0,false⟩
theorem ZbN:∀l:List Th,aV (l.map bc)=true
 |[]=>rfl
 |x::l=>by simp only[zAN,aV,ZbN l,zBA];rfl
variable{ex:Bool}
theorem Zea{sz b:Nat}{rs:List (List aa)}(hb:ai σ b=.rows sz rs)(hi:i<=n)(h3:IT sz 3=false:=by rfl):∃v rd,Zz sz [.sl b 0 n ex,iv i] σ=.ok v rd []∧((i<n∧v=.sl b i (n-i) ex∧rd=[b])∨(i=n∧v=.aW false (zAn 0 n) sz []∧rd=[])):=by
 by_cases h:i<n
 ·refine⟨.sl b i (n - i) ex,[b],?_,.inl ⟨h,rfl,rfl⟩⟩;show (match ai σ b with
   |.rows s _=>bif IT s sz then (bif zAn i n then aN.ok (.sl b (0+i) (n-i) ex) [b] []else bif IT i n then (bif IT sz 3 then .ok (.sl b (0+n) 0 ex) [b] []else .ok (.aW false (zAn 0 n) sz []) [] [])else .stop)else .stop
   | _=>.stop)=_
  rw[hb];have:zAn i n=true:=sh h;simp only[zBf,cond_true,this,IN]
 ·have e:i=n:=by omega
  subst e;refine⟨.aW false (zAn 0 i) sz [],[],?_,.inr ⟨rfl,rfl,rfl⟩⟩;show (match ai σ b with
   |.rows s _=>bif IT s sz then (bif zAn i i then aN.ok (.sl b (0+i) (i-i) ex) [b] []else bif IT i i then (bif IT sz 3 then .ok (.sl b (0+i) 0 ex) [b] []else .ok (.aW false (zAn 0 i) sz []) [] [])else .stop)else .stop
   | _=>.stop)=_
  rw[hb];have:zAn i i=false:=by
   cases e:zAn i i<;>simp_all
  simp_all
theorem QcF(l:List Th)(i:Nat)(hi:i<l.length):∃l1 u l2,l=l1++u::l2∧l1.length=i∧l.eraseIdx i=l1++l2:=by
 refine⟨l.take i,l[i],l.drop (i+1),?_,by simp;omega,List.eraseIdx_eq_take_drop_succ ..⟩;simp
variable{rest:List Th}
variable{K:KT}
theorem c72{b:Nat}{l:List Th}(hb:ai σ b=.rows 4 ((l++rest).map bc))(hi:i<l.length)(hl:l.length<=1000000000)
 (hK:K (.sl b 0 (l.length-1) false) (σ.set b (.rows 4 ((l.eraseIdx i++HN::rest).map bc)))):g52.u VV [.sl b 0 l.length false,iv i,iv ((i+1:Nat):Int)] σ K:=by
 have Dk:=Zb hb;obtain⟨l1,u,l2,KS,gz,Hu⟩:=QcF l i hi;have hlen:l.length=i+1+l2.length:=by rw[KS];simp;omega
 rw[H3.e];unfold g52;dsimp only;refine Za (v:=iv l.length) (rd:=[]) rfl (Za (v:=.aQ) (rd:=[]) ?_ ?_)
 ·show (bif zAR i (i+1)&&(zAR (i+1) l.length&&zAR l.length l.length)then aN.ok .aQ [] []else .stop)=_;simp_all [sh]
 refine Za (Zt ..) ?_;rw[gB (by omega)];refine Xe (Za (v:=iv l.length) (rd:=[]) rfl ?_);refine Xf (v:=.sl b 0 i false) (rd:=[b]) ?_ (Zg _) ?_
 ·show (match ai σ b with
   |.rows s _=>bif IT s 4&&zAR i l.length then aN.ok (.sl b 0 i false) [b] []else .stop
   | _=>.stop)=_
  rw[hb];simp only[zBf,sh (show i<=l.length by omega),zAw,cond_true]
 obtain⟨v,rd,hv,jG⟩:=Zea (n:=l.length) (i:=i+1) (ex:=false) hb (by omega);refine Xf hv (Zg _) ?_;have j5:∃sv,Zk 4 σ v=some (l2.map bc,sv):=by
  rcases jG with ⟨h1,rfl,_⟩|⟨h1,rfl,_⟩
  ·refine⟨[b],?_⟩;have hc:cut (i+1) (i+1+(l.length-(i+1))) ((l++rest).map bc)=l2.map bc:=by
    rw[KS];unfold cut;rw[show i+1+((l1++u::l2).length-(i+1))=(l1++u::l2).length by simp;omega,zAa,List.take_left' (by simp),zAa,zAN,show i+1=(l1.map bc++[bc u]).length by simp[gz],show l1.map bc++bc u::l2.map bc=(l1.map bc++[bc u])++l2.map bc by simp];exact List.drop_left
   show (match ai σ b with
    |.rows s rs=>bif IT s 4&&zAR (i+1+(l.length-(i+1))) rs.length then some (cut (i+1) (i+1+(l.length-(i+1))) rs,[b])else none
    | _=>none)=_
   rw[hb];simp only[zBf,sh (show i+1+(l.length-(i+1))<=((l++rest).map bc).length by simp;omega),zAw,cond_true,hc]
  ·have:l2=[]:=zAc.1 (by omega);subst this;exact⟨[],rfl⟩
 obtain⟨sv,j5⟩:=j5;have xv:((l++rest).map bc).length=l.length+rest.length:=by simp
 have Ux:Qf 4 32 [.sl b 0 i false,v] σ=.ok (.sl b 0 (i+l2.length) false) sv [(b,.rows 4 (over i (l2.map bc) ((l++rest).map bc)))]:=by
  have h1:(IT 0 0&&IT ((l++rest).map bc).length i)=false:=by
   grind [fY]
  have:Qf 4 32 [.sl b 0 i false,v] σ=Hi 4 32 σ b 0 i ((l++rest).map bc) v:=by
   show (match ai σ b with
    |.rows s rs=>bif IT s 4 then (bif IT 0 0&&IT rs.length i then YB 4 32 σ rs [(b,.dead)] v else Hi 4 32 σ b 0 i rs v)else .stop
    |.full s rs=>bif IT s 4&&IT 0 0 then Bd 4 32 σ b i rs v else .stop
    | _=>.stop)=_
   simp_all
  rw[this,Hi];simp only[j5,ZbN,cond_true,IN,sh (show i+(l2.map bc).length<=((l++rest).map bc).length by simp;omega),zAM]
  grind [sh]
 refine Xf Ux (Ze _ Dk) (Qv (by rfl) ?_);refine Za (v:=iv ((i+l2.length:Nat):Int)) (rd:=[]) rfl ?_;have mi:=Zd (σ:=σ) (.rows 4 (over i (l2.map bc) ((l++rest).map bc))) Dk;have yO:over i (l2.map bc) ((l++rest).map bc)=(l1++l2).map bc++((u::l2).drop l2.length).map bc++rest.map bc:=by
  grind [over,List.drop_drop,List.drop_left,zAM,List.map_drop]
 have oR:∃w,(u::l2).drop l2.length=[w]:=by
  have:((u::l2).drop l2.length).length=1:=by simp
  exact List.length_eq_one_iff.1 this
 obtain⟨w,hw⟩:=oR;rw[hw]at yO;rw[yO]at mi ⊢;have tB:((l1++l2).map bc++[w].map bc++rest.map bc).length=l.length+rest.length:=by simp;omega
 refine Za (v:=.sl b (0+(i+l2.length)) (l.length-(i+l2.length)) false) (rd:=[b]) ?_ ?_
 ·show (match ai (σ.set b _) b with
   |.rows s rs=>bif IT s 4&&((zAn (i+l2.length) l.length||IT (i+l2.length) 0)&&(zAR l.length (i+l2.length)||(!(IT 4 0)&&zAR (0+l.length) rs.length)))then aN.ok (.sl b (0+(i+l2.length)) (l.length-(i+l2.length)) false) [b] []else .stop
   | _=>.stop)=_
  rw[mi];have k1:zAn (i+l2.length) l.length=true:=sh (show i+l2.length+1<=l.length by omega);have k2:zAR (0+l.length) ((l1++l2).map bc++[w].map bc++rest.map bc).length=true:=sh (by omega);simp only[k1,k2,zBf,Bool.true_or,zAH,zBA];cases zAR l.length (i+l2.length)<;>rfl
 refine Yd (v:=.aQ) (rd:=[]) (up:=[(b,.rows 4 (over (0+(i+l2.length)) (zAf (l.length-(i+l2.length)) (bc HN)) ((l1++l2).map bc++[w].map bc++rest.map bc)))]) ?_ (Ze _ (by simpa using Dk)) ?_
 ·show (match ai (σ.set b _) b with
   |.rows s rs=>bif IT s 4&&zAR (0+(i+l2.length)+(l.length-(i+l2.length))) rs.length then aN.ok .aQ [] [(b,.rows 4 (over (0+(i+l2.length)) (zAf (l.length-(i+l2.length)) (bc HN)) rs))]else .stop
   | _=>.stop)=_
  simp_all [sh]
 rw[zDB];have e1:l.length-1=i+l2.length:=by omega
 have e2:over (0+(i+l2.length)) (zAf (l.length-(i+l2.length)) (bc HN)) ((l1++l2).map bc++[w].map bc++rest.map bc)=(l.eraseIdx i++HN::rest).map bc:=by
  rw[show l.length-(i+l2.length)=1 by omega,Hu]
  grind [over]
 rw[e1]at hK;rw[e2];exact hK
theorem c74(x id:Int):PC 54 [iv x,.aq [iv id] 0] (.bool (decide (x=id))):=by
 refine Xa hP g54.ok rfl rfl ?_;rw[H2.e];unfold g54;dsimp only;exact Za (bB rfl) (Za (Zt ..) rfl)
theorem ZdT{b m:Nat}{L:List Int}(hb:ai σ b=.rows 1 (L.map aS))(hm:m<L.length)(x:Int):Zj 1 [.ptr b m 0,iv x] σ=.ok .aQ [] [(b,.rows 1 ((L.set m x).map aS))]:=by
 have hl:m<(L.map aS).length:=by simpa using hm
 have h1:nth (L.map aS) m=some (aS L[m]):=by simp_all [Y3]
 have h2:YC m [iv x] (L.map aS)=some ((L.set m x).map aS):=by
  rw[Z1 hl,zDc];rfl
 show (match ai σ b with
   |.rows sz rs=>match nth rs m with
    |some row=>match cellsOf (iv x)with
     | some cs=>bif IT cs.length 1 then (match bX 0 cs row with
      |some row'=>match YC m row' rs with
       |some rs'=>aN.ok .aQ [] [(b,.rows sz rs')]
       |none=>.stop
      | none=>.stop)else .stop
     |none=>.stop
    |none=>.stop
   | _=>.stop)=_
 simp_all [aS]
theorem Xdr(f:α→Bool):∀(l:List α) (n:Int),eh f l n = -1∧(∀x∈l,f x=false)∨∃k:Nat,k<l.length∧eh f l n=n+k∧(∀x∈l.take k,f x=false)∧(l[k]?).map f=some true
 |[],n=>.inl ⟨rfl,by simp⟩
 |x::l,n=>by
  by_cases h:f x=true
  ·grind [eh]
  ·have e:eh f (x::l) n=eh f l (n+1):=aB h;rw[e];have h':f x=false:=by simpa using h
   rcases Xdr f l (n+1)with ⟨q1,q2⟩|⟨k,q1,q2,q3,q4⟩
   ·simp_all
   ·refine .inr ⟨k+1,by simp;omega,by rw[q2];push_cast;omega,?_,by simpa using q4⟩;simp_all
def bC(id:Int)(l:List Int):List Int:=l.filter λx=>!decide (x=id)
theorem Yby(id:Int)(l:List Int):(bC id l).length<=l.length:=List.length_filter_le _ _
theorem Ycn(h:∀x∈l,decide (x=id)=false):bC id l=l:=by
 simp_all [bC]
variable{rd:List Nat}
theorem Zd9{b:Nat}{rest:List Int}(hb:ai σ b=.rows 1 ((l++rest).map aS))(dc:b∈rd)(hn:n=l.length):RI σ rd (.sl b 0 n ex) l:=by
 subst hn;refine aA.own hb dc (by simp) ?_ SR;simp[cut]
theorem QcJ{y:Nat}(h:¬y<σ.length):ai σ y=.dead:=by
 induction σ generalizing y with
 |nil=>rfl
 |cons x σ ih=>cases y<;>simp_all
theorem c73{b c:Nat}{rest:List Int}(hb:ai σ b=.rows 1 ((l++rest).map aS))(hc:ai σ c=.box [iv id])(hl:l.length<=1000000000)
 (hK:∀τ L8,τ.length=σ.length→(∀k,k≠b→ai τ k=ai σ k)→ai τ b=.rows 1 ((bC id l++L8).map aS)→K (.sl b 0 (bC id l).length false) τ) :
  g53.u VV [.sl b 0 l.length false,.func (.func 54) [] [.ak c 0]] σ K:=by
 have Dk:=Zb hb;have hbc:c≠b:=by rintro rfl;rw[hb]at hc;cases hc
 rw[H2.e];unfold g53;dsimp only;refine Xu (rd:=[b,c]) (c120 l (by rw[c9];omega) 54 [] [.aq [iv id] 0] g54.ok.plain (λx=>decide (x=id)) (λx _=>c74 x id) (λx=>rfl)) rfl g91.ok.plain (.cons (Zd9 hb (by simp) rfl) <| .cons (aA.func .nil (.cons (aA.box (Xv hc (by simp)) (by simp) (bd.ro rfl)) .nil)) .nil) rfl (Za (Zt ..) ?_);rcases Xdr (λx=>decide (x=id)) l 0 with ⟨q1,q2⟩|⟨k,q1,q2,q3,q4⟩
 ·rw[q1];refine Xh ?_;have e:=Ycn q2
  grind
 rw[q2,Int.zero_add,gB (by omega)];refine Xe (Za (Xj ..) ?_);rw[Xc (n:=k) (by omega)];have UY:bC id (l.take (k+1))=l.take k:=by
  simp_all [bC,zCw]
 refine Xg (ι:=Nat) (λj vs τ=>∃(m:Nat) (L:List Int),vs=[iv j,iv m]∧j<=l.length∧m<j∧L.length=l.length+rest.length∧L.take m=bC id (l.take j)∧(∀i,j<=i→i<l.length→L[i]?=l[i]?)∧ai τ b=.rows 1 (L.map aS)∧τ.length=σ.length∧(∀x,x≠b→ai τ x=ai σ x)) (λj=>l.length-j) (k+1)
  ⟨k,l++rest,rfl,by omega,by omega,by simp,by grind,λi h1 h2=>by rw[zAU h2],hb,rfl,λ_ _=>rfl⟩ ?_
 rintro j vs τ again ⟨m,L,rfl,hj,hm,hL,ht,hr,qW,cc,ho⟩ bj;have xm:m<=L.length:=by omega
 refine Za rfl (Za rfl (QM (λh=>?_) (λh=>?_)))
 ·have hx:L[j]?=some l[j]:=by rw[hr j (No _) h];simp[h]
  have lq:l.take (j+1)=l.take j++[l[j]]:=by rw[zCw];simp[h]
  generalize l[j]=x at hx lq;refine Qg λk7 hk7=>?_;refine Za (v:=.ptr b j 0) (rd:=[b]) ?_ ?_
  ·have:=rr τ b 0 l.length false 1 (L.map aS) .i64 j h qW;rw[IN]at this;exact this
  refine Za (Ar qW (row:=aS x) (by rw[zAT,hx];rfl) rfl) ?_;have BT:ai τ c=.box [iv id]:=by rw[ho c hbc];exact hc
  refine Xu (rd:=[c]) (c74 x id) rfl g54.ok.plain (.cons (aA.ro rfl) <| .cons (aA.box (Xv BT (by simp)) (by simp) (bd.ro rfl)) .nil) rfl (Za rfl (Ya (λhp=>?_) (λhp=>?_)))
  ·refine Za (v:=.ptr b m 0) (rd:=[b]) ?_ ?_
   ·have:=rr τ b 0 l.length false 1 (L.map aS) .i64 m (by omega) qW;rw[IN]at this;exact this
   refine Yd (ZdT qW (by omega) x) (Ze _ (by omega)) (Za (Xj ..) ?_);rw[Xc (n:=m) (by omega),hk7];refine Za (Xj ..) ?_;rw[Xc (n:=j) (by omega)];refine bj (j+1) _ _ (by omega) ⟨m+1,L.set m x,rfl,by omega,by omega,by simpa using hL,?_,λi h1 h2=>?_,Zd _ (by omega),by simpa using cc,λy hy=>?_⟩
   ·rw[lq,bC,List.filter_append,zCw,List.take_set_of_le (No _),ht]
    grind [bC]
   ·grind
   grind [Xb,QcJ]
  ·rw[hk7];refine Za (Xj ..) ?_;rw[Xc (n:=j) (by omega)];refine bj (j+1) _ _ (by omega) ⟨m,L,rfl,by omega,by omega,hL,?_,λi h1 h2=>hr i (by omega) h2,qW,cc,ho⟩
   grind [bC]
 ·subst h;rw[zAl]at ht;have hmw:(bC id l).length=m:=by rw[←ht,zAk];omega
  obtain⟨v,rd,hv,jG⟩:=Zea (n:=l.length) (i:=m) (ex:=false) qW (by omega);have jG:v=.sl b m (l.length-m) false∧rd=[b]:=by
   grind
  obtain⟨rfl,rfl⟩:=jG;refine Za hv (Yd (v:=.aQ) (rd:=[]) (up:=[(b,.rows 1 (over m (zAf (l.length-m) (aS 0)) (L.map aS)))]) ?_ (Ze _ (by omega)) ?_)
  ·show (match ai τ b with
    |.rows s rs=>bif IT s 1&&zAR (m+(l.length-m)) rs.length then aN.ok .aQ [] [(b,.rows 1 (over m (zAf (l.length-m) (aS 0)) rs))]else .stop
    | _=>.stop)=_
   rw[qW];simp only[zBf,zAH,sh (show m+(l.length-m)<=(L.map aS).length by simp;omega),cond_true]
  have BR:=Zd (σ:=τ) (.rows 1 (over m (zAf (l.length-m) (aS 0)) (L.map aS))) (show b<τ.length by omega);refine Za (v:=.sl b 0 m false) (rd:=[b]) ?_ ?_
  ·show (match ai (τ.set b _) b with
    |.rows s _=>bif IT s 1&&zAR m l.length then aN.ok (.sl b 0 m false) [b] []else .stop
    | _=>.stop)=_
   rw[BR];simp only[zBf,sh (show m<=l.length by omega),zAw,cond_true]
  rw[hmw]at hK;refine hK _ (zAf (l.length-m) 0++L.drop l.length) (by simpa using cc) (λy hy=>?_) ?_
  ·grind [Xb,QcJ]
  ·rw[BR]
   congr 1
   unfold over;rw[List.length_replicate,show m+(l.length-m)=l.length by omega,←List.map_take,ht,←List.map_drop];simp
abbrev Rg(x:St)(g0 g1:Nat):List aa:=[iv x.turn,iv x.mover,aO x.phase,.bool x.bD,aO x.result,.sl 3 0 x.ao.length false,iv x.next,iv x.s0.aX,iv x.s0.aU,iv x.s0.most,.sl 4 0 x.s0.az.length false,.sl 5 0 x.s0.hand.length false,.sl g0 0 x.s0.an.length false,.sl 7 0 x.s0.af.length false,.sl 8 0 x.s0.told.length false,iv x.s1.aX,iv x.s1.aU,iv x.s1.most,.sl 9 0 x.s1.az.length false,.sl 10 0 x.s1.hand.length false,.sl g1 0 x.s1.an.length false,.sl 12 0 x.s1.af.length false,.sl 13 0 x.s1.told.length false]
def C9(e:Ev):List aa:=[aO e.kind,iv e.side,iv e.card,iv e.id,iv e.other,iv e.n,.al]
def Qn(s:St)(id:Int):St×List Ev:=
 match gM s.s0.af id with
 |some k=>let u:=(s.s0.af[k]?).getD default
  ({ s with ao:=bC id s.ao,s0:={ s.s0 with af:=s.s0.af.eraseIdx k,an:=s.s0.an++[u.card] } },[⟨13,0,u.card,id,0,0,[]⟩])
 |none=>match gM s.s1.af id with
  |some k=>let u:=(s.s1.af[k]?).getD default
   ({ s with ao:=bC id s.ao,s1:={ s.s1 with af:=s.s1.af.eraseIdx k,an:=s.s1.an++[u.card] } },[⟨13,1,u.card,id,0,0,[]⟩])
  |none=>(s,[])
def Xl:List Int→St→St×List Ev
 |[],s=>(s,[])
 |id::l,s=>((Xl l (Qn s id).1).1,(Qn s id).2++(Xl l (Qn s id).1).2)
def dg(τ τ':List ab)(ex:List Nat):Prop:=τ.length<=τ'.length∧∀c,c<τ.length→c∉ex→ai τ' c=ai τ c
theorem dg.app(τ l:List ab):dg τ (τ++l) []:=⟨by simp,λc hc _=>Yf l hc⟩
theorem dg.set(τ:List ab)(b:Nat)(x:ab):dg τ (τ.set b x) [b]:=⟨by simp,λc hc h=>Xb x hc (by simpa using h)⟩
theorem dg.trans{a b c:List ab}{e f:List Nat}(h:dg a b e)(k:dg b c f):dg a c (e++f):=
 ⟨zAX h.1 k.1,λx hx hn=>by
  rw[zAF,not_or]at hn;rw[k.2 x (zAK hx h.1) hn.2,h.2 x hx hn.1]⟩
theorem dg.get{a b:List ab}{e:List Nat}(h:dg a b e){c:Nat}{x:ab}(hx:ai a c=x)(hd:x≠.dead:=by simp)(hn:c∉e:=by simp):ai b c=x:=by
 rw[h.2 c (Zb hx hd) hn];exact hx
def BP(b:Bk)(s x:St):List (Nat×ab):=[(0,.box (cq b)),(1,.box (aF s)),(2,.box aT),(4,.rows 1 (x.s0.az.map aS)),(5,.rows 1 (x.s0.hand.map aS)),(8,.rows 1 (x.s0.told.map aS)),(9,.rows 1 (x.s1.az.map aS)),(10,.rows 1 (x.s1.hand.map aS)),(13,.rows 1 (x.s1.told.map aS))]
theorem Yd6{x:St}{p:Nat×ab}(h:p∈BP b s x):p.2≠.dead∧(∀rs,p.2≠.rows 7 rs)∧p.1<14∧p.1∉[3,6,7,11,12]:=by
 simp only[BP,zAS,List.not_mem_nil,or_false]at h;rcases h with rfl|rfl|rfl|rfl|rfl|rfl|rfl|rfl|rfl<;>simp
structure vM (b:Bk) (s x:St) (g0 g1:Nat) (τ:List ab):Prop where
 fx:∀p∈BP b s x,ai τ p.1=p.2
 mv:ai τ 14=.box (.ak 0 0::Rg x g0 g1)
 at_:∃r,ai τ 3=.rows 1 ((x.ao++r).map aS)
 J7:ai τ g0=.rows 1 (x.s0.an.map aS)
 r7:∃r,ai τ 7=.rows 4 ((x.s0.af++r).map bc)
 J8:ai τ g1=.rows 1 (x.s1.an.map aS)
 r12:∃r,ai τ 12=.rows 4 ((x.s1.af++r).map bc)
 n0:g0=6∨15<=g0
 n1:g1=11∨15<=g1
 ne:g0≠g1
def GR{α:Type}(n:Nat)(f:α→List aa)(B:Nat)(l:List α)(v:aa)(σ:List ab):Prop:=(l=[]∧v=.al)∨∃c,v=.sl c 0 l.length false∧B<=c∧ai σ c=.rows n (l.map f)
theorem GR.bU{f:α→List aa}{B:Nat}{l:List α}{τ:List ab}(h:GR n f B l v σ)(hk:∀c rs,ai σ c=.rows n rs→ai τ c=.rows n rs):GR n f B l v τ:=by
 rcases h with h|⟨c,h1,h2,h3⟩
 ·exact .inl h
 ·exact .inr ⟨c,h1,h2,hk _ _ h3⟩
theorem Yd9{b:Nat}{l:List Th}(hb:ai σ b=.rows 4 ((l++rest).map bc))(dc:b∈rd)(hn:n=l.length):RT σ rd (.sl b 0 n ex) l:=by
 subst hn;refine aA.own hb dc (by simp) ?_ XeI;simp[cut]
theorem dg.refl(τ:List ab):dg τ τ []:=⟨No _,λ_ _ _=>rfl⟩
theorem vM.sb{x:St}{g0 g1:Nat}{τ τ':List ab}{ex:List Nat}(h:vM b s x g0 g1 τ)(A:dg τ τ' ex)(hr:∀c∈[3,4,5,g0,7,8,9,10,g1,12,13],c∉ex∧c∈rd):SB τ' rd (Rg x g0 g1) x:=by
 obtain⟨r,ha⟩:=h.at_;obtain⟨r7,h7⟩:=h.r7;obtain⟨r12,h12⟩:=h.r12;have f:=h.fx;simp only[BP,zCi]at f;obtain⟨-,-,-,f4,f5,f8,f9,f10,f13,-⟩:=f;simp only[zCi]at hr;obtain⟨q3,q4,q5,q6,q7,q8,q9,q10,q11,q12,q13,-⟩:=hr;have G:∀ {c n rs},ai τ c=.rows n rs→c∉ex→ai τ' c=.rows n rs:=λe q=>A.get e (by simp) q;exact SB.mk (s:=x) (Zd9 (G ha q3.1) q3.2 rfl) (RI.own (G f4 q4.1) q4.2 rfl) (RI.own (G f5 q5.1) q5.2 rfl) (RI.own (G h.J7 q6.1) q6.2 rfl) (Yd9 (G h7 q7.1) q7.2 rfl) (RI.own (G f8 q8.1) q8.2 rfl) (RI.own (G f9 q9.1) q9.2 rfl) (RI.own (G f10 q10.1) q10.2 rfl) (RI.own (G h.J8 q11.1) q11.2 rfl) (Yd9 (G h12 q12.1) q12.2 rfl) (RI.own (G f13 q13.1) q13.2 rfl)
theorem Ycm(s:St)(id:Int):(aM s id).2.2=false∨∃side,∃k:Nat,aM s id=(side,(k:Int),true):=by
 unfold aM;split
 ·exact .inr ⟨_,_,rfl⟩
 ·split
  ·exact .inr ⟨_,_,rfl⟩
  ·exact .inl rfl
theorem YbC{side:Int}(h:aM s id=(side,(k:Int),true)):(side=0∨side=1)∧∃u,(s.side side).af[k]?=some u∧u.id=id ∧
  Qn s id=({ (s.put side { s.side side with af:=(s.side side).af.eraseIdx k,an:=(s.side side).an++[u.card] })with ao:=bC id s.ao },[⟨13,side,u.card,id,0,0,[]⟩]):=by
 unfold aM at h;cases q0:gM s.s0.af id with
 |some j=>
  rw[q0]at h;simp only[zBm]at h;obtain⟨rfl,hj,_⟩:=h;have hj:j=k:=by omega
  subst hj;obtain⟨u,e1,e2⟩:=YS q0;refine⟨.inl rfl,u,e1,e2,?_⟩;unfold Qn;rw[q0];simp only[e1,zAt];rfl
 |none=>
  rw[q0]at h;cases q1:gM s.s1.af id with
  |some j=>
   rw[q1]at h;simp only[zBm]at h;obtain⟨rfl,hj,_⟩:=h;have hj:j=k:=by omega
   subst hj;obtain⟨u,e1,e2⟩:=YS q1;refine⟨.inr rfl,u,e1,e2,?_⟩;unfold Qn;rw[q0,q1];simp only[e1,zAt];rfl
  |none=>rw[q1]at h;simp at h
theorem W4(h:(aM s id).2.2=false):Qn s id=(s,[]):=by
 unfold aM at h;unfold Qn;cases q0:gM s.s0.af id with
 |some j=>rw[q0]at h;simp at h
 |none=>
  rw[q0]at h;cases q1:gM s.s1.af id with
  |some j=>rw[q1]at h;simp at h
  |none=>rfl
theorem lz.uJ{M:Nat}{x:Sd}(h:lz M x):lz (M+1) x:=⟨zAq h.az,zAq h.hand,zAq h.an,zAq h.af,zAq h.told⟩
theorem XbC{M:Nat}(h:aY M s)(id:Int):aY (M+1) (Qn s id).1:=by
 have w:=Yby id s.ao;have w0:=λk=>zDZ s.s0.af k;have w1:=λk=>zDZ s.s1.af k;have ha:=h.ao;unfold Qn;split
 ·rename_i k _;exact⟨by show (bC id s.ao).length<=_;omega,⟨zAq h.s0.az,zAq h.s0.hand,by simpa using h.s0.an,zAq (zAX (w0 k) h.s0.af),zAq h.s0.told⟩,h.s1.uJ⟩
 ·split
  ·rename_i k _;exact⟨by show (bC id s.ao).length<=_;omega,h.s0.uJ,⟨zAq h.s1.az,zAq h.s1.hand,by simpa using h.s1.an,zAq (zAX (w1 k) h.s1.af),zAq h.s1.told⟩⟩
  ·exact⟨zAq ha,h.s0.uJ,h.s1.uJ⟩
theorem zo{by_:Nat}{f:α→List aa}{B:Nat}{l:List α}(h:GR n f B l v σ)(hB:B<=σ.length)(x:α){z:List aa}{ps:List (Nat×Nat)}{w:aa}(hb:Xq n 1 z ps [w] σ=.ok (.sl σ.length 0 1 true) [] [(σ.length,.rows n [f x])])(hc:aV [f x]=true)(hlen:(2*(l.length+1)+192)*by_<=2 ^ 48)
 (hK:∀nv τ,GR n f B (l++[x]) nv τ→(∀c,c<B→ai τ c=ai σ c)→σ.length<=τ.length→(∀c,c<σ.length→(∀rs,ai σ c≠.rows n rs)→ai τ c=ai σ c)→K nv τ) :
  VV.wr (Xq n 1 z ps [w] σ) σ λy σ=>VV.wr (Qf n by_ [v,y] σ) σ K:=by
 refine Yd hb (Ye σ _) ?_;rcases h with ⟨rfl,rfl⟩|⟨c,rfl,h2,h3⟩
 ·refine Yd (W0 n by_ (Yc σ _) rfl hc (by simpa using hlen)) (Ye _ _) ?_;exact hK _ _ (.inr ⟨_,rfl,by simp<;>omega,Yc _ _⟩) (λc hc=>by rw[Yf _ (by simp<;>omega),Yf _ (by omega)]) (by simp<;>omega) (λc hc _=>by rw[Yf _ (by simp<;>omega),Yf _ hc])
 ·have kR:=Zb h3;have uZ:=Qb [ab.rows n [f x]] h3;refine Yd (Ha n by_ (rs2:=[f x]) uZ (Yc σ _) (by simp) rfl hc hlen) (QC _ _ (by simp<;>omega)) ?_;refine hK _ _ (.inr ⟨(σ++[ab.rows n [f x]]).length,by simp,by simp<;>omega,?_⟩) (λk hk=>by rw[Yf _ (by simp<;>omega),Xb _ (by simp<;>omega) (by omega),Yf _ (by omega)]) (by simp<;>omega) (λk hk hr=>by rw[Yf _ (by simp<;>omega),Xb _ (by simp<;>omega) (by rintro rfl;exact hr _ h3),Yf _ hk]);have:=QT (σ:=σ++[ab.rows n [f x]]) c (.rows n (l.map f++[f x]));simpa using this
theorem TX{b:Nat}{l:List Th}(hb:ai σ b=.rows 4 ((l++rest).map bc))(hi:i<l.length)(hl:l.length<=1000000000)
 (hK:∀τ,dg σ τ [b]→ai τ b=.rows 4 ((l.eraseIdx i++HN::rest).map bc)→K (.sl b 0 (l.length-1) false) τ):g52.u VV [.sl b 0 l.length false,iv i,iv ((i+1:Nat):Int)] σ K:=
 c72 hb hi hl (hK _ (dg.set ..) (Zd _ (Zb hb)))
theorem N5{rb j:Nat}{x:aa}{cs row row':List aa}(hb:ai σ rb=.box row)(hc:cellsOf x=some cs)(hn:IT cs.length n=true)(hs:bX j cs row=some row')
 (hK:∀τ,ai τ rb=.box row'→dg σ τ [rb]→K .aQ τ):VV.wr (Zj n [.ak rb j,x] σ) σ K:=
 Yd (c8 hb hc hn hs) (Ze _ (Zb hb)) (hK _ (Zd _ (Zb hb)) (dg.set ..))
theorem Qem{b:Nat}{x:Int}(hb:ai σ b=.rows 1 (l.map aS))(hl:l.length<=1000000000)
 (hK:∀τ,dg σ τ [b]→ai τ (σ.length+1)=.rows 1 ((l++[x]).map aS)→K (.sl (σ.length+1) 0 (l++[x]).length false) τ) :
  VV.wr (Xq 1 1 [.int .i64 0] [(0,1)] [iv x] σ) σ λy σ=>VV.wr (Qf 1 8 [.sl b 0 l.length false,y] σ) σ K:=by
 rw[GG _ _ _ _ _ (aS x) rfl rfl,HX _ 1 8 σ b l.length false _ (aS x) hb (by simp) rfl (by omega)];have h:=Yc (σ.set b .dead++[.rows 1 [aS x]]) (.rows 1 (l.map aS++[aS x]));simpa using hK _ (((dg.set σ b .dead).trans (dg.app _ [_])).trans (dg.app _ [_])) (by simpa using h)
theorem c27(b:Bk)(hf:ba b=true)(bW:Yg b.aj)(s:St)(hs:aY 2000000 s)(hm:aL (bu b).1 b s true=true)(ids:List Int)(pF:ids.length<=1000000):PC 26 [cE b,bZ s,aP ids] (.bp [bZ (Xl ids s).1,.aW false false 7 ((Xl ids s).2.map C9)]):=by
 refine Yi hP g26.ok rfl ?_;rw[H3.e];unfold g26;dsimp only;refine ay (qf b hf bW s (hs.mono (by decide)) (n0:=3) (n:=14) rfl rfl rfl rfl (λh=>by rw[hm]at h;cases h) (λ_=>?_));refine Za rfl (Xe (Za (v:=iv ids.length) (rd:=[]) (by simp[Zf]) ?_));refine Xg (ι:=Nat) (λi vs τ=>∃(x:St) (g0 g1:Nat) (v:aa) (cS:List Ev),vs=[iv i,v]∧i<=ids.length∧vM b s x g0 g1 τ∧GR 7 C9 0 cS v τ∧aY (2000000+i) x∧cS.length<=i∧Xl ids s=((Xl (ids.drop i) x).1,cS++(Xl (ids.drop i) x).2)) (λi=>ids.length-i) 0
  ⟨s,6,11,.al,[],rfl,by omega,⟨by simp only[BP,zCi];exact⟨rfl,rfl,rfl,rfl,rfl,rfl,rfl,rfl,rfl,nofun⟩,rfl,⟨[],by rw[zBE];rfl⟩,rfl,⟨[],by rw[zBE];rfl⟩,rfl,⟨[],by rw[zBE];rfl⟩,.inl rfl,.inl rfl,by decide⟩,.inl ⟨rfl,rfl⟩,hs,by simp,rfl⟩ ?_
 rintro i vs τ again ⟨x,g0,g1,v,cS,rfl,hi,hB,fk,hle,hel,bg⟩ bj;refine Za rfl (QM (λh=>?_) (λh=>?_));rotate_left
 ·subst h;rw[zAD,Xl,zBE]at bg;rw[bg];have B4:=hB.mv;refine ag (N5 (hB.fx (2,.box aT) (by simp[BP])) rfl rfl rfl λτ' b2 A=>Zp (Sw b2 rfl) ?_);simp only;have hS:∀rd,(∀c∈[3,4,5,g0,7,8,9,10,g1,12,13],c∈rd)→SB τ' rd (Rg x g0 g1) x:=λrd hr=>hB.sb A λc hc=>⟨by have:=hB.n0;have:=hB.n1;simp at hc ⊢;omega,hr c hc⟩;rcases fk with ⟨rfl,rfl⟩|⟨bo,rfl,_,o5⟩
  ·exact⟨_,aA.bp (.cons (SB.agg (hS _ λc hc=>hc)) <| .cons (aA.nl 7) .nil)⟩
  ·have ln:∀l:List Ev,∀r∈l.map C9,gh r=true:=by
    intro l r hr;obtain⟨e,_,rfl⟩:=zAh.1 hr;rfl
   exact⟨bo::[3,4,5,g0,7,8,9,10,g1,12,13],aA.bp (.cons (SB.agg (hS _ λc hc=>zAr _ hc)) <| .cons (aA.own (A.get o5 (by simp) (by rintro hc;simp at hc;subst hc;rw[hB.fx (2,.box aT) (by simp[BP])]at o5;cases o5)) (by simp) (by simp) (OE _ _ (by simp)) (ln _)) .nil)⟩
 rw[gK h,Xl]at bg;have cB:=λ(t:List ab)=>Ym t aS false false 1 ids .i64 i h;generalize ids[i]=id at bg cB;refine Qg λk11 mj=>?_;refine Za (cB _) (Za (bB rfl) (Zv (row:=[iv id]) (row':=[iv id]) rfl rfl rfl ?_));have A1:=dg.app τ [.box [iv id]];have hN:=Yc τ (.box [iv id]);have lN:=Zb hB.mv;generalize τ++[ab.box [iv id]]=τ1 at A1 hN ⊢;have O1:∀ {c y},ai τ c=y→y≠.dead→ai τ1 c=y:=λe h=>A1.get e h (by simp);have jo:vM b s x g0 g1 τ1:=⟨λp hp=>O1 (hB.fx p hp) (Yd6 hp).1,O1 hB.mv (by simp),hB.at_.imp λ_ e=>O1 e (by simp),O1 hB.J7 (by simp),hB.r7.imp λ_ e=>O1 e (by simp),O1 hB.J8 (by simp),hB.r12.imp λ_ e=>O1 e (by simp),hB.n0,hB.n1,hB.ne⟩;have zZ:=fk.bU (τ:=τ1) λc rs e=>O1 e (by simp);have lg0:=Zb hB.J7;have lg1:=Zb hB.J8;have l1:=A1.1;clear hB fk cB O1 A1;generalize τ.length=N at *;have B4:=jo.mv;have h71:=c71 x (hle.mono (by omega)) id;refine Zi rfl (Zi rfl (Xf (ld B4 rfl) (Zg _) (Xf (ld hN rfl) (Zg _) ?_)));refine GY (rd:=[3,4,5,g0,7,8,9,10,g1,12,13]) h71 rfl g25.ok.plain (.cons (SB.agg (jo.sb (dg.refl _) λc hc=>⟨by simp,hc⟩)) <| .cons (aA.ro rfl) .nil) rfl (Zi rfl (Zi rfl (Zi rfl (Qv (by rfl) ?_))));clear h71;have Dc:=XbC hle id;rcases Ycm x id with mn|⟨side,k,tC⟩
 ·rw[mn];refine ag ?_;rw[mj];refine ag ?_;rw[Xc (n:=i) (by omega)];exact bj (i+1) _ _ (by omega) ⟨x,g0,g1,v,cS,rfl,by omega,jo,zZ,hle.mono (by omega),by omega,by rw[bg,W4 mn];simp⟩
 obtain⟨pV,u,j6,g_,hBo⟩:=YbC tC;rw[tC];refine ag ?_;have hla:=hle.ao;have hng:=And.intro jo.n0 jo.n1;have cU:=jo.ne;rcases pV with rfl|rfl
 rotate_left;obtain⟨r,hU⟩:=jo.r12;have hG:=jo.J8;have j6:x.s1.af[k]?=some u:=j6;have Pp:=hle.s1.af;have U1:=hle.s1.an;rotate_left;obtain⟨r,hU⟩:=jo.r7;have hG:=jo.J7;have j6:x.s0.af[k]?=some u:=j6;have Pp:=hle.s0.af;have U1:=hle.s0.an
 all_goals
  have lW:=(gE j6).1;refine ag (Za (rr _ _ 0 _ false 4 _ .i64 k lW hU) ?_);refine ag (Za (Ar (i:=0+k) hU (row:=bc u) (by rw[IN,zAT,zAU lW,j6];rfl) rfl) ?_);refine ag ?_;rw[Xc (n:=k) (by omega)];refine Xd hP rfl g52.ok rfl (TX hU lW (by omega) λτ2 A2 mU=>?_);refine ag (N5 (A2.get B4) rfl rfl rfl λτ3 b3 A3=>?_);have A13:=A2.trans A3;refine ag (Qem (A13.get hG (by simp) (by simp;omega)) (by omega) λτ4 A4 mG=>?_);have l3:=A13.1;refine ag (N5 (A4.get b3 (by simp) (by simp;omega)) rfl rfl rfl λτ5 b5 A5=>?_);have A15:=(A13.trans A4).trans A5;obtain⟨ra,qV⟩:=jo.at_;have hN5:=A15.get hN (by simp) (by simp;omega);refine ag (Xd hP rfl g53.ok rfl (c73 (A15.get qV (by simp) (by simp;omega)) hN5 (by omega) λτ6 aan l6 o6 m3=>?_));have A6:dg τ5 τ6 [3]:=⟨by omega,λc _ hc=>o6 c (by simpa using hc)⟩;refine ag (N5 (A6.get b5) rfl rfl rfl λτ7 b7 A7=>?_);have A67:=A6.trans A7;have A17:=A15.trans A67;have hN7:=A67.get hN5 (by simp) (by simp;omega);have Dv:=zZ.bU (τ:=τ7) λc rs e=>A17.get e (by simp) (by simp;grind);refine ag ?_;refine(zo (by_:=72) Dv (Nat.zero_le _) (⟨13,_,u.card,id,0,0,[]⟩:Ev) rfl rfl (by omega) λnv τ8 g9998 _ q2 q3=>?_);rw[mj];refine ag ?_;rw[Xc (n:=i) (by omega)];have K8:∀ {c y},ai τ7 c=y→y≠.dead→(∀rs,y≠.rows 7 rs)→ai τ8 c=y:=λe h1 h2=>by rw[q3 _ (Zb e h1) (by rw[e];exact h2)];exact e
  have O:∀ {c n rs},ai τ1 c=.rows n rs→n≠7→c∉_→ai τ8 c=.rows n rs:=λe h1 h2=>K8 (A17.get e (by simp) h2) (by simp) (by simp[h1]);have F:∀p∈BP b s x,ai τ8 p.1=p.2:=λp hp=>by
   obtain⟨h1,h2,h3,h4⟩:=Yd6 hp;exact K8 (A17.get (jo.fx p hp) h1 (by simp at h4 ⊢;omega)) h1 h2
  have b8:=K8 b7 (by simp) (by simp);have m8:=K8 (A7.get m3) (by simp) (by simp);have U8:=K8 ((((A3.trans A4).trans A5).trans A67).get mU (by simp) (by simp;omega)) (by simp) (by simp);have G8:=K8 ((A5.trans A67).get mG (by simp) (by simp;omega)) (by simp) (by simp);have hE:=zCH lW;have BM:∃Pb Pc,vM b s (Qn x id).1 Pb Pc τ8:=by
   rw[hBo]
   first
    |exact⟨_,g1,F,by rw[b8,←hE];rfl,⟨_,m8⟩,G8,⟨_,U8⟩,O jo.J8 (by simp) (by simp;omega),jo.r12.imp λr e=>O e (by simp) (by simp;omega),.inr (by omega),jo.n1,by omega⟩
    |exact⟨g0,_,F,by rw[b8,←hE];rfl,⟨_,m8⟩,O jo.J7 (by simp) (by simp;omega),jo.r7.imp λr e=>O e (by simp) (by simp;omega),G8,⟨_,U8⟩,jo.n0,.inr (by omega),by omega⟩
  obtain⟨Pb,Pc,BM⟩:=BM;exact bj (i+1) _ _ (by omega) ⟨_,Pb,Pc,nv,_,rfl,by omega,BM,g9998,Dc,by simp;omega,by rw[bg,congrArg Prod.snd hBo];simp⟩
theorem Yh{most:Int}:Yp n l most=true↔(l.length:Int)<=most∧∀c∈l,0<=c∧c<n:=by
 simp[Yp,zAm]
structure gm (b:Bk) (x:Sd):Prop where
 aX:iE x.aX=true
 aU:0<=x.aU∧iE x.aU=true
 most:0<=x.most∧x.most<=10
 az:Yp b.aj.length x.az 60=true
 hand:Yp b.aj.length x.hand 10=true
 an:Yp b.aj.length x.an 1000000=true
 told:Yp b.aj.length x.told 1000000=true
 af:x.af.length<=7
theorem XdC{x:Sd}:Xx b.aj.length x=true↔gm b x:=by
 simp only[Xx,AI,fD];constructor
 ·rintro⟨h1,h2,h3,h4,h5,h6,h7,h8,h9,h10⟩;exact⟨h1,⟨h2,h3⟩,⟨h4,h5⟩,h6,h7,h8,h9,by omega⟩
 ·rintro⟨h1,⟨h2,h3⟩,⟨h4,h5⟩,h6,h7,h8,h9,h10⟩;exact⟨h1,h2,h3,h4,h5,h6,h7,h8,h9,by omega⟩
theorem PT{b:Bk}{next:Int}:∀ {l:List Th} {ids:List Int},XA b next ids l=true↔(∀u∈l,Zw b next u=true)∧(l.map Th.id).Nodup∧∀u∈l,u.id∉ids
 |[],ids=>by simp[XA]
 |u::l,ids=>by
  simp only[XA,AI,PT (l:=l),zAg,zAN,zBr,zAS,forall_eq_or_imp,zAF,not_or];have hc:ids.contains u.id=false↔u.id∉ids:=by simp
  rw[hc];constructor
  ·rintro⟨h1,h2,h3,h4,h5⟩;refine⟨⟨h1,h3⟩,⟨?_,h4⟩,h2,λv hv=>(h5 v hv).1⟩;intro hm;obtain⟨v,hv,e⟩:=zAh.1 hm;exact(h5 v hv).2.1 e
  ·rintro⟨⟨h1,h3⟩,⟨h6,h4⟩,h2,h5⟩;exact⟨h1,h2,h3,h4,λv hv=>⟨h5 v hv,λe=>h6 (zAh.2 ⟨v,hv,e⟩),by simp⟩⟩
def NL(b:Bk)(s:St):Prop:=(∀u∈s.s0.af++s.s1.af,Zw b s.next u=true)∧((s.s0.af++s.s1.af).map Th.id).Nodup
theorem XdI:(XA b s.next [] s.s0.af=true∧XA b s.next (s.s0.af.map Th.id) s.s1.af=true)↔NL b s:=by
 rw[PT,PT,NL,zAa,List.nodup_append];constructor
 ·rintro⟨⟨h1,h2,_⟩,h3,h4,h5⟩;refine⟨λu hu=>?_,h2,h4,λa ha c hc e=>?_⟩
  ·rcases zAF.1 hu with hu|hu
   ·exact h1 u hu
   ·exact h3 u hu
  ·subst e;obtain⟨v,hv,rfl⟩:=zAh.1 hc;exact h5 v hv ha
 ·rintro⟨h1,h2,h3,h4⟩;refine⟨⟨λu hu=>h1 u (zAp _ hu),h2,by simp⟩,λu hu=>h1 u (zAi _ hu),h3,λu hu hm=>h4 _ hm _ (zAh.2 ⟨u,hu,rfl⟩) rfl⟩
theorem Tc{s:St}:∀ {l prev:List Int},fq s prev l=true↔(∀a∈l,(aM s a).2.2=true∧(aM s a).1=s.mover)∧l.Nodup∧∀a∈l,a∉prev
 |[],prev=>by simp[fq]
 |a::l,prev=>by
  simp only[fq,AI,Tc (l:=l),fD,zAg,zBr,zAS,forall_eq_or_imp,zAF,not_or];have hc:prev.contains a=false↔a∉prev:=by simp
  rw[hc];constructor
  ·rintro⟨h1,h2,h3,h4,h5⟩;exact⟨⟨h1,h3⟩,⟨λhm=>(h5 a hm).2.1 rfl,h4⟩,h2,λc hc=>(h5 c hc).1⟩
  ·rintro⟨⟨h1,h3⟩,⟨h6,h4⟩,h2,h5⟩;exact⟨h1,h2,h3,h4,λc hc=>⟨h5 c hc,λe=>h6 (e▸hc),by simp⟩⟩
def PM(s:St):Prop:=(s.phase≠1→s.ao=[])∧(s.phase=1→s.bD=true∧s.ao.length<=7∧s.ao.Nodup∧∀a∈s.ao,(aM s a).2.2=true∧(aM s a).1=s.mover)
def HdP(s:St):Prop:=1<=s.turn∧s.turn<=4096∧0<=s.mover∧s.mover<=1∧0<=s.phase∧s.phase<=2∧0<=s.result∧s.result<=3∧((s.result==0)==(s.phase != 2))=true∧1<=s.next∧s.next<=1000000
structure du (b:Bk) (s:St):Prop where
 hd:HdP s
 s0:gm b s.s0
 s1:gm b s.s1
 un:NL b s
 at_:PM s
theorem Xo:aL e b s true=true↔e=0∧du b s:=by
 simp only[aL,XD,AI,fD,XdC];constructor
 ·rintro⟨h1,h2,h3,h4,h5,h6,h7,h8,h9,h10,h11,h12,⟨k1,k2,k3,k4⟩,h14⟩;refine⟨h1,⟨h2,h3,h4,h5,h6,h7,h8,h9,h10,h11,h12⟩,k1,k3,XdI.1 ⟨k2,k4⟩,?_,?_⟩
  ·intro hp;rw[aI hp]at h14;exact zAc.1 (of_decide_eq_true h14)
  ·intro hp;rw[aB (by simpa using hp)]at h14;simp only[AI,fD]at h14;obtain⟨_,q1,q2,q3⟩:=h14;obtain⟨r1,r2,_⟩:=Tc.1 q3;exact⟨q1,by omega,r2,r1⟩
 ·rintro⟨h1,⟨h2,h3,h4,h5,h6,h7,h8,h9,h10,h11,h12⟩,k1,k3,hu,ha1,ha2⟩;obtain⟨k2,k4⟩:=XdI.2 hu;refine⟨h1,h2,h3,h4,h5,h6,h7,h8,h9,h10,h11,h12,⟨k1,k2,k3,k4⟩,?_⟩;by_cases hp:s.phase≠1
  ·rw[aI hp,ha1 hp];rfl
  ·rw[aB hp];obtain⟨q1,q2,q3,q4⟩:=ha2 (by simpa using hp);simp only[AI,fD];exact⟨by simp,q1,by omega,Tc.2 ⟨q4,q3,by simp⟩⟩
theorem w19(hs:aY 1000000000 s)(hK:K (.agg (jz s σ.length)) (σ++jn s)):VV.call (.call 31) [bZ s] σ K:=by
 refine HR (c19 s hs) rfl g31.ok.plain rfl ?_;rw[SO,Tn];exact hK
theorem Yen(hs:aY 1000000000 s){K:aa→KT}(hK:∀τ n,σ.length=n→τ.length=n+12→(∀c y,ai σ c=.box y→ai τ c=.box y)→ai τ (n+11)=.box (jz s n)→(∀i x,(jn s)[i]?=some x→ai τ (n+i)=x)→K (.ak (n+11) 0) .aQ τ) :
  VV.call (.call 31) [bZ s] σ λv σ=>VV.wr (Zs aT [] σ) σ λt σ=>VV.wr (Zj 23 [t,v] σ) σ (K t):=by
 refine w19 hs ?_;have hl:(σ++jn s).length=σ.length+11:=by simp[jn,sD]
 refine Zv (row:=jz s σ.length) (row':=jz s σ.length) rfl rfl rfl ?_;have h11:=Yc (σ++jn s) (.box (jz s σ.length));rw[hl]at h11 ⊢;refine hK _ _ rfl (by simp[jn,sD]) (λc y h=>Qb _ (Qb _ h (by simp))) h11 (λi x hx=>?_);have hi:i<11:=(gE hx).1;exact Yq (by rw[zAU (by omega),List.getElem?_append_right (by omega)];simpa using hx)
theorem Ju(a:St)(ha:aY 1000000000 a):PC 15 [bZ a,bZ a] (.bool true):=by
 have:=c20 a a ha
 rwa [eX rfl]at this
theorem c55(b:Bk)(hf:ba b=true)(bW:Yg b.aj)(s:St)(hs:aY 1000000000 s):PC 43 [cE b,bZ s] (iv (bif aL (bu b).1 b s false then 0 else 170)):=by
 refine Xa hP g43.ok rfl rfl ?_;rw[H2.e];unfold g43;dsimp only;refine ay ?_;refine Xu (rd:=[0,1]) (c111 b hf bW s hs false) rfl g76.ok.plain (.cons (aA.box (row:=cq b) rfl (by simp) (bd.ro rfl)) <| .cons (aA.box (row:=aF s) rfl (by simp) (bd.ro rfl)) <| .cons (aA.ro rfl) .nil) rfl ?_;generalize aL (bu b).1 b s false=q;cases q with
 |true=>exact Za rfl (Xe rfl)
 |false=>exact Za rfl (Xh rfl)
theorem Yc4(s:St)(id:Int):(∃k:Nat,∃u,aM s id=(0,(k:Int),true)∧s.s0.af[k]?=some u)∨(∃k:Nat,∃u,aM s id=(1,(k:Int),true)∧s.s1.af[k]?=some u)∨aM s id=(0,0,false):=by
 unfold aM;cases q0:gM s.s0.af id with
 |some k=>obtain⟨u,hk,_⟩:=YS q0;exact .inl ⟨k,u,rfl,hk⟩
 |none=>
  cases q1:gM s.s1.af id with
  |some k=>obtain⟨u,hk,_⟩:=YS q1;exact .inr (.inl ⟨k,u,rfl,hk⟩)
  |none=>exact .inr (.inr rfl)
end Go.Ah.Tz
end
section
namespace Go.Ah
open Go.Sort (Holds putRow grow putCells)
theorem QdO{row:List aa}(h:row.all aa.cell=true):cellsOf (.agg row)=some row:=by simp[cellsOf,h]
theorem Qd4{row:List aa}(h:row.all aa.cell=true)(σ:List ab):ub [.agg row] σ=.ok (.ak σ.length 0) [] [(σ.length,.box row)]:=by rw[JW,QdO h]
theorem Qew(n:Nat)(σ:List ab)(x:aa)(z cs:List aa)(hx:fill z [(0,n)] [x]=some cs)(hc:chunk n 1 cs=some [cs]):Xq n 1 z [(0,n)] [x] σ=.ok (.sl σ.length 0 1 true) [] [(σ.length,.rows n [cs])]:=by simp only[Xq,hx,hc]
theorem aA.more{h0:Hp}{rd ly:List Nat}{x y:aa}(h:aA h0 rd x y)(hs:∀b∈rd,b∈ly):aA h0 ly x y:=
 λGL w0 L g h' w M2 r hM cO v d=>h GL w0 L g h' w M2 r hM (λb hb=>cO b (hs b hb)) v d
end Go.Ah
end
section
namespace Go.Ah.Tz
open Go.Proofs.Tryz (prog)
attribute [local irreducible] aE.rd aE.pu aE.wr aE.dr aE.gr aE.gw aE.gl aE.gd aE.opt cP W
set_option maxHeartbeats 8000000
def xI(a b:Ev):Bool:=((((decide (a.kind=b.kind)&&decide (a.side=b.side))&&decide (a.card=b.card))&&decide (a.id=b.id))&&decide (a.other=b.other))&&decide (a.n=b.n)
theorem c99(a b:Ev){x y:aa}(hx:x.cell=true)(hy:y.cell=true)(hr:x.ro=true)(HC:y.ro=true){q:Bool}(h62:∀(σ:List ab) (k:KT),k (.bool q) σ→VV.call (.call 38) [x,y] σ k) :
  PC 16 [.agg [aO a.kind,iv a.side,iv a.card,iv a.id,iv a.other,iv a.n,x],.agg [aO b.kind,iv b.side,iv b.card,iv b.id,iv b.other,iv b.n,y]] (.bool (xI a b&&q)):=by
 refine Xa hP g16.ok rfl rfl ?_;rw[H2.e];unfold g16;dsimp only;have h0:ai ([]++[ab.box [aO a.kind,iv a.side,iv a.card,iv a.id,iv a.other,iv a.n,x]]++[ab.box [aO b.kind,iv b.side,iv b.card,iv b.id,iv b.other,iv b.n,y]]) 0=.box [aO a.kind,iv a.side,iv a.card,iv a.id,iv a.other,iv a.n,x]:=rfl;have h1:ai ([]++[ab.box [aO a.kind,iv a.side,iv a.card,iv a.id,iv a.other,iv a.n,x]]++[ab.box [aO b.kind,iv b.side,iv b.card,iv b.id,iv b.other,iv b.n,y]]) 1=.box [aO b.kind,iv b.side,iv b.card,iv b.id,iv b.other,iv b.n,y]:=rfl;have kR:∀(e:Ev) {z:aa},z.cell=true→[aO e.kind,iv e.side,iv e.card,iv e.id,iv e.other,iv e.n,z].all aa.cell=true:=λe z hz=>by
  show (true&&(true&&(true&&(true&&(true&&(true&&(z.cell&&true)))))))=true;rw[hz];rfl
 exact Yd (Qd4 (kR a hx) []) (Ye _ _) (Yd (Qd4 (kR b hy) _) (Ye _ _) (ae (IV (λ_=>rfl) (λ_=>rfl) (λ_=>rfl) (λ_=>rfl) (λ_=>Zt ..) (IV (λ_=>rfl) (λ_=>rfl) (λ_=>rfl) (λ_=>rfl) (λ_=>Zt ..) (IV (λ_=>rfl) (λ_=>rfl) (λ_=>rfl) (λ_=>rfl) (λ_=>Zt ..) (IV (λ_=>rfl) (λ_=>rfl) (λ_=>rfl) (λ_=>rfl) (λ_=>Zt ..) (IV (λ_=>rfl) (λ_=>rfl) (λ_=>rfl) (λ_=>rfl) (λ_=>Zt ..) (XdD (v2:=x) (v4:=y) (λ_=>rfl) (λ_=>rfl) (λ_=>rfl) (λ_=>rfl) (λ_ k hk=>h62 _ _ hk) rfl))))))))
theorem Xc0(a:Ev):xI a a=true:=by simp[xI]
theorem c47{rows:List (List aa)}(hl:rows.length<=1000000000)(h:∀r∈rows,r.length=7∧gh r=true∧PC 16 [.agg r,.agg r] (.bool true)):PC 35 [.aW false false 7 rows,.aW false false 7 rows] (.bool true):=by
 refine Xa hP g35.ok rfl rfl ?_;rw[H2.e];unfold g35;dsimp only;refine Za (Zf ..) (Za (Zf ..) (Za (ZX ..) ?_));rw[gB (show ¬((rows.length:Int)≠rows.length) by simp)];refine Xe (Xg (ι:=Nat) (λi vs _=>vs=[iv i]∧i<=rows.length) (λi=>rows.length-i) 0 ⟨rfl,by omega⟩ ?_);rintro i vs σ again ⟨rfl,hi⟩ bj;refine Za (Zf ..) (Za (ZM ..) (Ya (λcc=>?_) (λ_=>rfl)));have cc:i<rows.length:=by simpa using cc
 obtain⟨q1,q2,q3⟩:=h rows[i] (AT cc);have cB:=Qex σ false false 7 rows .i64 i rows[i] (by simp[cc]);generalize rows[i]=r at cB q1 q2 q3;have hp:aK true 0 7 r=some (.agg r):=by
  match r,q1 with
  |[a,b,c,d,e,f,g],_=>rfl
 refine Xf cB (Zg _) (Xf (bB hp) (Zg _) (Xf cB (Zg _) (Xf (bB hp) (Zg _) ?_)));refine Xt q3 rfl g16.ok.plain (by simp[gh,aa.ro,q2]) (Zi rfl (Qv (S0 (by simp[ru])) ?_));refine ay ?_;rw[Xc (n:=i) (by omega)];exact bj (i+1) _ _ (by omega) ⟨rfl,by omega⟩
def Zy(s:St)(side:Int):Sd:=if side=0 then s.s0 else s.s1
variable{id c a n h sd:Int}
theorem ZdJ{s:St}(h:(aM s id).2.2=true):∃(k:Nat) (u:Th),(aM s id).2.1=k∧(Zy s (aM s id).1).af[k]?=some u∧u.id=id∧((aM s id).1=0∨(aM s id).1=1):=by
 unfold aM at h ⊢;cases q0:gM s.s0.af id with
 |some k=>obtain⟨u,hk,hi⟩:=YS q0;exact⟨k,u,rfl,hk,hi,.inl rfl⟩
 |none=>
  cases q1:gM s.s1.af id with
  |some k=>obtain⟨u,hk,hi⟩:=YS q1;exact⟨k,u,rfl,hk,hi,.inr rfl⟩
  |none=>rw[q0,q1]at h;cases h
structure CP (τ:List ab) (n:Nat) (t:St):Prop where
 box:ai τ (n+11)=.box (jz t n)
 key:∀i x,(jn t)[i]?=some x→ai τ (n+i)=x
theorem CP.af{τ:List ab}{n:Nat}{t:St}(h:CP τ n t){side:Int}(hs:side=0∨side=1):ai τ (n+sH side)=.rows 4 ((Zy t side).af.map bc)∧(∀σ,Yk 2 8 [.ak (n+11) (0+7),iv side] σ=.ok (.ak (n+11) (sV side)) [] []) ∧
  aK false (sV side+6) 1 (jz t n)=some (.sl (n+sH side) 0 (Zy t side).af.length false):=by
 rcases hs with rfl|rfl
 ·exact⟨h.key 4 _ rfl,λ_=>rfl,rfl⟩
 ·exact⟨h.key 9 _ rfl,λ_=>rfl,rfl⟩
variable{k:Nat}
theorem Gr.set{σ τ:List ab}{n:Nat}{rows:List (List aa)}{v:aa}(h:Gr σ n rows k v τ){c:Nat}(hc:c<σ.length)(x:ab):Gr (σ.set c x) n rows k v (τ.set c x):=by
 obtain⟨h1,h2,h3⟩:=h;refine⟨by simpa using h1,λd hd=>?_,?_⟩
 ·have pE:d<σ.length:=by simpa using hd
  by_cases e:d=c
  ·grind [Zd]
  ·rw[Xb _ (by omega) e,Xb _ pE e];exact h2 d pE
 ·rcases h3 with h3|⟨q1,b,q2,q3,q4,q5⟩
  ·exact .inl h3
  ·exact .inr ⟨q1,b,by simpa using q2,q3,Yb q4 (by simp) (by omega),q5⟩
def mB(b:Bk)(s:St)(id:Int):Int×Int:=if (aM s id).2.2 then jU b (Zy s (aM s id).1).af (aM s id).2.1 else (0,0)
def nQ(b:Bk)(s:St)(id:Int):aa:=.bp [iv (mB b s id).1,iv (mB b s id).2,.bool (aM s id).2.2]
theorem c54(b:Bk)(hf:ba b=true)(bW:Yg b.aj)(s:St)(hs:aY 1000000000 s)(hm:aL (bu b).1 b s true=true)(id:Int):PC 273 [cE b,bZ s,iv id] (nQ b s id):=by
 refine Xa hP g273.ok rfl rfl ?_;rw[H3.e];unfold g273;dsimp only;refine Yd (v:=.ak 0 0) (rd:=[]) (up:=[(0,.box (cq b))]) rfl rfl (Yd (v:=.ak 1 0) (rd:=[]) (up:=[(1,.box (aF s))]) rfl rfl (qf b hf bW s hs (n0:=2) (n:=13) rfl rfl rfl rfl (λh=>by rw[hm]at h;cases h) (λ_=>?_)));refine Za rfl (Xe (Za (ld (row:=aF s) rfl rfl) (a_ (c71 s hs id) g25.ok (Za rfl (Za rfl (Za rfl (Za rfl ?_)))))));rcases Yc4 s id with ⟨k,u,hu,hk⟩|⟨k,u,hu,hk⟩|hu
 ·have e:nQ b s id=.bp [iv (jU b s.s0.af k).1,iv (jU b s.s0.af k).2,.bool true]:=by simp[nQ,mB,hu,Zy]
  rw[e,hu];refine Xe (Xu (rd:=[0,2,3,4,5,6,7,8,9,10,11,12,13]) (c75 b s (.inl rfl) hs.s0.af (II hm) k) rfl g49.ok.plain (.cons (aA.box (row:=Cf s) rfl (by decide) (.cons (aA.box (row:=cq b) rfl (by decide) (bd.ro rfl)) ?_)) <| .cons (aA.ro rfl) <| .cons (aA.ro rfl) .nil) rfl ?_)
  ·exact SB.mk (s:=s) (RI.own rfl (by decide) rfl) (RI.own rfl (by decide) rfl) (RI.own rfl (by decide) rfl) (RI.own rfl (by decide) rfl) (RT.own rfl (by decide) rfl) (RI.own rfl (by decide) rfl) (RI.own rfl (by decide) rfl) (RI.own rfl (by decide) rfl) (RI.own rfl (by decide) rfl) (RT.own rfl (by decide) rfl) (RI.own rfl (by decide) rfl)
  exact Za rfl (Za rfl rfl)
 ·have e:nQ b s id=.bp [iv (jU b s.s1.af k).1,iv (jU b s.s1.af k).2,.bool true]:=by simp[nQ,mB,hu,Zy]
  rw[e,hu];refine Xe (Xu (rd:=[0,2,3,4,5,6,7,8,9,10,11,12,13]) (c75 b s (.inr rfl) hs.s1.af (Ip hm) k) rfl g49.ok.plain (.cons (aA.box (row:=Cf s) rfl (by decide) (.cons (aA.box (row:=cq b) rfl (by decide) (bd.ro rfl)) ?_)) <| .cons (aA.ro rfl) <| .cons (aA.ro rfl) .nil) rfl ?_)
  ·exact SB.mk (s:=s) (RI.own rfl (by decide) rfl) (RI.own rfl (by decide) rfl) (RI.own rfl (by decide) rfl) (RI.own rfl (by decide) rfl) (RT.own rfl (by decide) rfl) (RI.own rfl (by decide) rfl) (RI.own rfl (by decide) rfl) (RI.own rfl (by decide) rfl) (RI.own rfl (by decide) rfl) (RT.own rfl (by decide) rfl) (RI.own rfl (by decide) rfl)
  exact Za rfl (Za rfl rfl)
 ·have e:nQ b s id=.bp [iv 0,iv 0,.bool false]:=by simp[nQ,mB,hu]
  rw[e,hu];exact Xh rfl
def Zm(s:St):Int:=((s.s0.az.length:Int)+s.s0.hand.length+s.s0.an.length+s.s0.af.length)+(s.s1.az.length+s.s1.hand.length+s.s1.an.length+s.s1.af.length)
theorem ZS{n:Nat}{l:List Int}{most:Int}(h:Yp n (c::l) most=true):Yp n l most=true∧0<=c∧c<n:=by
 rw[Yh]at h ⊢;obtain⟨h1,h2⟩:=h;simp only[IS]at h1;exact⟨⟨by omega,λx hx=>h2 x (zAr _ hx)⟩,h2 c (List.mem_cons_self ..)⟩
theorem Xs{n:Nat}{l:List Int}{most:Int}(h:Yp n l most=true)(hc:0<=c∧c<n)(hl:(l.length:Int)+1<=most):Yp n (l++[c]) most=true:=by
 grind [Yh]
variable{l:List Th}
theorem Tk:gM l a=none↔a∉l.map Th.id:=by
 simp[gM]
def Nd(s:St)(a k:Int):Prop:=(aM s a).2.2=true∧(aM s a).1=k
theorem LB{s:St}:Nd s a 0↔a∈s.s0.af.map Th.id:=by
 grind [Nd,aM,gM]
theorem LC{s:St}:Nd s a 1↔a∉s.s0.af.map Th.id∧a∈s.s1.af.map Th.id:=by
 unfold Nd aM;have h:=Tk (l:=s.s0.af) (a:=a);have h1:=Tk (l:=s.s1.af) (a:=a)
 grind
theorem GC{s t:St}(h:PM s)(hm:0<=s.mover∧s.mover<=1)(e1:t.phase=s.phase)(e2:t.bD=s.bD)(e3:t.mover=s.mover)(hs:t.ao.Sublist s.ao)
 (k0:∀a∈t.ao,a∈s.s0.af.map Th.id→a∈t.s0.af.map Th.id)(k1:∀a∈t.ao,a∈s.s1.af.map Th.id→a∉s.s0.af.map Th.id→a∈t.s1.af.map Th.id∧a∉t.s0.af.map Th.id):PM t:=by
 refine⟨λhp=>?_,λhp=>?_⟩
 ·have:=h.1 (by rw[←e1];exact hp);simp_all
 ·obtain⟨q1,q2,q3,q4⟩:=h.2 (by rw[←e1];exact hp);refine⟨by rw[e2];exact q1,zAX hs.length_le q2,q3.sublist hs,λa ha=>?_⟩;have hq:=q4 a (hs.subset ha);rw[e3];rcases (show s.mover=0∨s.mover=1 by omega)with e|e
  ·rw[e]at hq ⊢;exact LB.2 (k0 a ha (LB.1 hq))
  ·rw[e]at hq ⊢;obtain⟨r1,r2⟩:=LC.1 hq;obtain⟨t1,t2⟩:=k1 a ha r2 r1;exact LC.2 ⟨t2,t1⟩
theorem Ybj(s:St)(h:(aH s 0).2.2=0):(iE (s.s0.aX-1)=true∧aH s 0=({ s with s0:={ s.s0 with aX:=s.s0.aX-1 } },⟨3,0,-1,0,0,0,[]⟩,0)) ∨
  (∃c l,s.s0.az=c::l∧aH s 0=({ s with s0:={ s.s0 with az:=l,an:=s.s0.an++[c],told:=s.s0.told++[c] },s1:={ s.s1 with told:=s.s1.told++[c] } },⟨4,0,c,0,0,0,[]⟩,0))∨(∃c l,s.s0.az=c::l∧s.s0.hand.length<10∧aH s 0=({ s with s0:={ s.s0 with az:=l,hand:=s.s0.hand++[c],told:=s.s0.told++[c] } },⟨3,0,c,0,0,0,[]⟩,0)):=by
 cases hd:s.s0.az with
 |nil=>
  have e:aH s 0=if iE (s.s0.aX-1)then ({ s with s0:={ s.s0 with aX:=s.s0.aX-1 } },⟨3,0,-1,0,0,0,[]⟩,0)else (fW,jx,171):=by
   show (match s.s0.az with | []=>_|c::l=>_)=_;rw[hd];rfl
  grind
 |cons c l=>
  right;by_cases hh:10<=s.s0.hand.length
  ·left;refine⟨c,l,rfl,?_⟩;show (match s.s0.az with | []=>_|c::l=>_)=_;rw[hd];show (if 10<=s.s0.hand.length then _ else _)=_;rw[aI hh];rfl
  ·right;refine⟨c,l,rfl,by omega,?_⟩;show (match s.s0.az with | []=>_|c::l=>_)=_;rw[hd];show (if 10<=s.s0.hand.length then _ else _)=_;rw[aB hh];rfl
theorem Ycr{b:Bk}{s:St}(hM:du b s)(h:(aH s 0).2.2=0)(g0:s.s0.an.length<1000000)(t0:s.s0.told.length<1000000)(t1:s.s1.told.length<1000000):du b (aH s 0).1∧Zm (aH s 0).1=Zm s:=by
 have S:=hM.s0;rcases Ybj s h with ⟨hw,e⟩|⟨c,l,hd,e⟩|⟨c,l,hd,hh,e⟩
 ·rw[e];refine⟨⟨hM.hd,⟨hw,S.aU,S.most,S.az,S.hand,S.an,S.told,S.af⟩,hM.s1,hM.un,hM.at_⟩,rfl⟩
 ·rw[e];have rL:=S.az;rw[hd]at rL;obtain⟨d1,d2⟩:=ZS rL;have hl:s.s0.az.length=l.length+1:=by rw[hd];rfl
  refine⟨⟨hM.hd,⟨S.aX,S.aU,S.most,d1,S.hand,Xs S.an d2 (by omega),Xs S.told d2 (by omega),S.af⟩,⟨hM.s1.aX,hM.s1.aU,hM.s1.most,hM.s1.az,hM.s1.hand,hM.s1.an,Xs hM.s1.told d2 (by omega),hM.s1.af⟩,hM.un,hM.at_⟩,by simp[Zm,hl];omega⟩
 ·rw[e];have rL:=S.az;rw[hd]at rL;obtain⟨d1,d2⟩:=ZS rL;have hl:s.s0.az.length=l.length+1:=by rw[hd];rfl
  refine⟨⟨hM.hd,⟨S.aX,S.aU,S.most,d1,Xs S.hand d2 (by omega),S.an,Xs S.told d2 (by omega),S.af⟩,hM.s1,hM.un,hM.at_⟩,by simp[Zm,hl];omega⟩
theorem Xbj(s:St)(h:(aH s 1).2.2=0):(iE (s.s1.aX-1)=true∧aH s 1=({ s with s1:={ s.s1 with aX:=s.s1.aX-1 } },⟨3,1,-1,0,0,0,[]⟩,0)) ∨
  (∃c l,s.s1.az=c::l∧aH s 1=({ s with s1:={ s.s1 with az:=l,an:=s.s1.an++[c],told:=s.s1.told++[c] },s0:={ s.s0 with told:=s.s0.told++[c] } },⟨4,1,c,0,0,0,[]⟩,0))∨(∃c l,s.s1.az=c::l∧s.s1.hand.length<10∧aH s 1=({ s with s1:={ s.s1 with az:=l,hand:=s.s1.hand++[c],told:=s.s1.told++[c] } },⟨3,1,c,0,0,0,[]⟩,0)):=by
 cases hd:s.s1.az with
 |nil=>
  have e:aH s 1=if iE (s.s1.aX-1)then ({ s with s1:={ s.s1 with aX:=s.s1.aX-1 } },⟨3,1,-1,0,0,0,[]⟩,0)else (fW,jx,171):=by
   show (match s.s1.az with | []=>_|c::l=>_)=_;rw[hd];rfl
  grind
 |cons c l=>
  right;by_cases hh:10<=s.s1.hand.length
  ·left;refine⟨c,l,rfl,?_⟩;show (match s.s1.az with | []=>_|c::l=>_)=_;rw[hd];show (if 10<=s.s1.hand.length then _ else _)=_;rw[aI hh];rfl
  ·right;refine⟨c,l,rfl,by omega,?_⟩;show (match s.s1.az with | []=>_|c::l=>_)=_;rw[hd];show (if 10<=s.s1.hand.length then _ else _)=_;rw[aB hh];rfl
theorem Xcr{b:Bk}{s:St}(hM:du b s)(h:(aH s 1).2.2=0)(g0:s.s1.an.length<1000000)(t0:s.s0.told.length<1000000)(t1:s.s1.told.length<1000000):du b (aH s 1).1∧Zm (aH s 1).1=Zm s:=by
 have S:=hM.s1;rcases Xbj s h with ⟨hw,e⟩|⟨c,l,hd,e⟩|⟨c,l,hd,hh,e⟩
 ·rw[e];refine⟨⟨hM.hd,hM.s0,⟨hw,S.aU,S.most,S.az,S.hand,S.an,S.told,S.af⟩,hM.un,hM.at_⟩,rfl⟩
 ·rw[e];have rL:=S.az;rw[hd]at rL;obtain⟨d1,d2⟩:=ZS rL;have hl:s.s1.az.length=l.length+1:=by rw[hd];rfl
  refine⟨⟨hM.hd,⟨hM.s0.aX,hM.s0.aU,hM.s0.most,hM.s0.az,hM.s0.hand,hM.s0.an,Xs hM.s0.told d2 (by omega),hM.s0.af⟩,⟨S.aX,S.aU,S.most,d1,S.hand,Xs S.an d2 (by omega),Xs S.told d2 (by omega),S.af⟩,hM.un,hM.at_⟩,by simp[Zm,hl];omega⟩
 ·rw[e];have rL:=S.az;rw[hd]at rL;obtain⟨d1,d2⟩:=ZS rL;have hl:s.s1.az.length=l.length+1:=by rw[hd];rfl
  refine⟨⟨hM.hd,hM.s0,⟨S.aX,S.aU,S.most,d1,Xs S.hand d2 (by omega),S.an,Xs S.told d2 (by omega),S.af⟩,hM.un,hM.at_⟩,by simp[Zm,hl];omega⟩
variable{u:Th}
theorem Qbx{b:Bk}(h:Zw b n u=true):Zw b (n+1) u=true:=by
 simp only[Zw,AI,fD]at h ⊢
 grind
theorem QdI{b:Bk}(h:Zw b n u=true):u.id<n:=by
 simp_all [Zw]
theorem ZcS{b:Bk}{s:St}(h:NL b s):s.next∉(s.s0.af++s.s1.af).map Th.id:=by
 intro hm;obtain⟨u,hu,e⟩:=zAh.1 hm;have:=QdI (h.1 u hu);omega
theorem YdC{v:Th}(h:l[k]?=some u)(e:v.id=u.id):(l.set k v).map Th.id=l.map Th.id:=by
 rw[zDc,e];have hk:k<l.length:=(gE h).1;have h2:(l.map Th.id)[k]?=some u.id:=by rw[zAT,h];rfl
 obtain⟨rS,h3⟩:=gE h2;rw[←h3,zDg]
theorem NQ(h:l[k]?=some u)(ha:a∈l.map Th.id)(cU:a≠u.id):a∈(l.eraseIdx k).map Th.id:=by
 obtain⟨v,hv,rfl⟩:=zAh.1 ha;obtain⟨hk,hu⟩:=gE h;obtain⟨l1,w,l2,e1,e2,e3⟩:=QcF l k hk;simp_all
theorem XcS(h0:0<=n)(h1:n<13835058055282163712)(h:iE (BY.wrap n)=true):0<=BY.wrap n:=by
 grind [IntKind.wrap,IntKind.bits,YV]
theorem Xeq(n:Int):BY.wrap n<9223372036854775808:=by
 grind [IntKind.wrap,IntKind.signed,IntKind.bits]
theorem Zdd(n:Int):0<=ja n∧ja n<=4000000:=by unfold ja;omega
theorem Qb7{b:Bk}{s:St}(hM:du b s)(h:Y2 b s 0 c=false):du b (XB s 0 c)∧Zm (XB s 0 c)=Zm s+1:=by
 simp only[Y2,zAx,s9]at h;obtain⟨⟨⟨⟨h1,h2⟩,h3⟩,h4⟩,h5⟩:=h;have h4:¬7<=(s.s0.af.length:Int):=h4;obtain⟨d1,d2,d3,d4,d5,d6,d7,d8,d9,d10,d11⟩:=hM.hd;have Vh:=ZcS hM.un;have S:=hM.s0;refine⟨⟨⟨d1,d2,d3,d4,d5,d6,d7,d8,d9,by show 1<=s.next+1;omega,by show s.next+1<=1000000;omega⟩,⟨S.aX,S.aU,S.most,S.az,S.hand,S.an,S.told,by show (s.s0.af++[_]).length<=7;simp;omega⟩,hM.s1,⟨?_,?_⟩,?_⟩,?_⟩
 ·intro u hu;show Zw b (s.next+1) u=true;have hu:u∈s.s0.af++s.s1.af∨u=(⟨s.next,c,0,true⟩:Th):=by
   have:u∈(s.s0.af++[(⟨s.next,c,0,true⟩:Th)])++s.s1.af:=hu
   grind
  rcases hu with hu|rfl
  ·exact Qbx (hM.un.1 u hu)
  ·have hc:c.toNat<b.aj.length:=by omega
   simp only[Zw,AI,fD]
   grind
 ·have e:((XB s 0 c).s0.af++(XB s 0 c).s1.af).map Th.id=s.s0.af.map Th.id++s.next::s.s1.af.map Th.id:=by
   show ((s.s0.af++[(⟨s.next,c,0,true⟩:Th)])++s.s1.af).map Th.id=_;simp
  rw[e,List.perm_middle.nodup_iff,zBr];rw[←zAa];exact⟨Vh,hM.un.2⟩
 ·refine GC hM.at_ ⟨d3,d4⟩ rfl rfl rfl (zBL _) (λa _ ha=>?_) (λa _ ha hn=>⟨?_,?_⟩)
  ·show a∈(s.s0.af++[_]).map Th.id;simp_all
  ·exact ha
  ·show a∉(s.s0.af++[_]).map Th.id;grind
 ·show ((s.s0.az.length:Int)+s.s0.hand.length+s.s0.an.length+(s.s0.af++[(⟨s.next,c,0,true⟩:Th)]).length)+(s.s1.az.length+s.s1.hand.length+s.s1.an.length+s.s1.af.length)=_;simp[Zm];omega
theorem Zb8{b:Bk}{s:St}(hM:du b s)(h:Y2 b s 1 c=false):du b (XB s 1 c)∧Zm (XB s 1 c)=Zm s+1:=by
 simp only[Y2,zAx,s9]at h;obtain⟨⟨⟨⟨h1,h2⟩,h3⟩,h4⟩,h5⟩:=h;have h4:¬7<=(s.s1.af.length:Int):=h4;obtain⟨d1,d2,d3,d4,d5,d6,d7,d8,d9,d10,d11⟩:=hM.hd;have Vh:=ZcS hM.un;have S:=hM.s1;refine⟨⟨⟨d1,d2,d3,d4,d5,d6,d7,d8,d9,by show 1<=s.next+1;omega,by show s.next+1<=1000000;omega⟩,hM.s0,⟨S.aX,S.aU,S.most,S.az,S.hand,S.an,S.told,by show (s.s1.af++[_]).length<=7;simp;omega⟩,⟨?_,?_⟩,?_⟩,?_⟩
 ·intro u hu;show Zw b (s.next+1) u=true;have hu:u∈s.s0.af++s.s1.af∨u=(⟨s.next,c,0,true⟩:Th):=by
   have:u∈s.s0.af++(s.s1.af++[(⟨s.next,c,0,true⟩:Th)]):=hu
   grind
  rcases hu with hu|rfl
  ·exact Qbx (hM.un.1 u hu)
  ·have hc:c.toNat<b.aj.length:=by omega
   simp only[Zw,AI,fD]
   grind
 ·have e:((XB s 1 c).s0.af++(XB s 1 c).s1.af).map Th.id=(s.s0.af++s.s1.af).map Th.id++s.next::[]:=by
   show (s.s0.af++(s.s1.af++[(⟨s.next,c,0,true⟩:Th)])).map Th.id=_;simp
  rw[e,List.perm_middle.nodup_iff,zBr];rw[zBE];exact⟨Vh,hM.un.2⟩
 ·refine GC hM.at_ ⟨d3,d4⟩ rfl rfl rfl (zBL _) (λa _ ha=>?_) (λa _ ha hn=>⟨?_,?_⟩)
  ·exact ha
  ·show a∈(s.s1.af++[_]).map Th.id;simp_all
  ·exact hn
 ·show ((s.s0.az.length:Int)+s.s0.hand.length+s.s0.an.length+s.s0.af.length)+(s.s1.az.length+s.s1.hand.length+s.s1.an.length+(s.s1.af++[(⟨s.next,c,0,true⟩:Th)]).length)=_;simp[Zm];omega
theorem Xbx{b:Bk}(k:Zw b n u=true)(h0:0<=h)(h1:h<=1000000):Zw b n { u with harm:=h }=true:=by
 simp only[Zw,AI,fD]at k ⊢
 grind
theorem WS{b:Bk}(k:Zw b n u=true):0<=u.harm∧u.harm<=1000000:=by
 simp_all [Zw]
theorem XcL{v:Th}(h:u∈l.set k v):u∈l∨u=v:=List.mem_or_eq_of_mem_set h
theorem Qcy{b:Bk}{s:St}(hM:du b s)(hk:s.s0.af[k]?=some u)(h0:0<=h)(h1:h<=1000000):du b { s with s0:={ s.s0 with af:=s.s0.af.set k { u with harm:=h } } }∧Zm { s with s0:={ s.s0 with af:=s.s0.af.set k { u with harm:=h } } }=Zm s:=by
 have S:=hM.s0;have hu:u∈s.s0.af:=zAI hk;have hi:(s.s0.af.set k { u with harm:=h }).map Th.id=s.s0.af.map Th.id:=YdC hk rfl;have N:gm b { s.s0 with af:=s.s0.af.set k { u with harm:=h } }:=⟨S.aX,S.aU,S.most,S.az,S.hand,S.an,S.told,by show (s.s0.af.set k _).length<=7;rw[zCf];exact S.af⟩;refine⟨⟨hM.hd,N,hM.s1,⟨λv hv=>?_,?_⟩,?_⟩,?_⟩
 ·have hv:v∈(s.s0.af.set k { u with harm:=h })++s.s1.af:=hv;rcases zAF.1 hv with hv|hv
  ·rcases XcL hv with hv|rfl;exact hM.un.1 v (zAp _ hv);exact Xbx (hM.un.1 u (zAp _ hu)) h0 h1
  ·exact hM.un.1 v (zAi _ hv)
 ·have e:((s.s0.af.set k { u with harm:=h })++s.s1.af).map Th.id=(s.s0.af++s.s1.af).map Th.id:=by rw[zAa,zAa,hi]
  show (((s.s0.af.set k { u with harm:=h })++s.s1.af).map Th.id).Nodup;rw[e];exact hM.un.2
 ·refine GC hM.at_ ⟨hM.hd.2.2.1,hM.hd.2.2.2.1⟩ rfl rfl rfl (zBL _) (λa _ ha=>?_) (λa _ ha hn=>⟨?_,?_⟩)
  ·show a∈(s.s0.af.set k _).map Th.id;rw[hi];exact ha
  ·exact ha
  ·show a∉(s.s0.af.set k _).map Th.id;rw[hi];exact hn
 ·simp[Zm]
theorem Xbo{b:Bk}{s:St}(hM:du b s)(hw:iE n=true):du b { s with s0:={ s.s0 with aX:=n } }∧Zm { s with s0:={ s.s0 with aX:=n } }=Zm s:=by
 have S:=hM.s0;exact⟨⟨hM.hd,⟨hw,S.aU,S.most,S.az,S.hand,S.an,S.told,S.af⟩,hM.s1,hM.un,hM.at_⟩,rfl⟩
theorem Qcn{b:Bk}{s:St}(hM:du b s)(hk:s.s0.af[k]?=some u)(hg:s.s0.an.length<1000000) :
  du b { s with ao:=bC u.id s.ao,s0:={ s.s0 with af:=s.s0.af.eraseIdx k,an:=s.s0.an++[u.card] } }∧Zm { s with ao:=bC u.id s.ao,s0:={ s.s0 with af:=s.s0.af.eraseIdx k,an:=s.s0.an++[u.card] } }=Zm s:=by
 have S:=hM.s0;have hu:u∈s.s0.af:=zAI hk;have lW:k<s.s0.af.length:=(gE hk).1;have oX:=zCj s.s0.af k;have hlen:(s.s0.af.eraseIdx k).length=s.s0.af.length-1:=zCH lW;have hc:=OJ (hM.un.1 u (zAp _ hu));have N:gm b { s.s0 with af:=s.s0.af.eraseIdx k,an:=s.s0.an++[u.card] }:=⟨S.aX,S.aU,S.most,S.az,S.hand,Xs S.an ⟨hc.1,by omega⟩ (by omega),S.told,by show (s.s0.af.eraseIdx k).length<=7;have:=S.af;omega⟩;refine⟨⟨hM.hd,N,hM.s1,⟨λv hv=>?_,?_⟩,?_⟩,?_⟩
 ·have hv:v∈(s.s0.af.eraseIdx k)++s.s1.af:=hv;rcases zAF.1 hv with hv|hv
  ·exact hM.un.1 v (zAp _ (oX.subset hv))
  ·exact hM.un.1 v (zAi _ hv)
 ·refine hM.un.2.sublist (zDX _ ?_);exact oX.append (zBL _)
 ·refine GC hM.at_ ⟨hM.hd.2.2.1,hM.hd.2.2.2.1⟩ rfl rfl rfl zDq (λa ha hm=>?_) (λa ha hm hn=>⟨?_,?_⟩)
  ·have ha:a∈bC u.id s.ao:=ha;simp only[bC,List.mem_filter]at ha;exact NQ hk hm (by simpa using ha.2)
  ·exact hm
  ·intro hq;exact hn ((oX.map Th.id).subset hq)
 ·have:0<s.s0.af.length:=by omega
  simp only[Zm,hlen,By,zBa];omega
theorem Zcz{b:Bk}{s:St}(hM:du b s)(hk:s.s1.af[k]?=some u)(h0:0<=h)(h1:h<=1000000):du b { s with s1:={ s.s1 with af:=s.s1.af.set k { u with harm:=h } } }∧Zm { s with s1:={ s.s1 with af:=s.s1.af.set k { u with harm:=h } } }=Zm s:=by
 have S:=hM.s1;have hu:u∈s.s1.af:=zAI hk;have hi:(s.s1.af.set k { u with harm:=h }).map Th.id=s.s1.af.map Th.id:=YdC hk rfl;have N:gm b { s.s1 with af:=s.s1.af.set k { u with harm:=h } }:=⟨S.aX,S.aU,S.most,S.az,S.hand,S.an,S.told,by show (s.s1.af.set k _).length<=7;rw[zCf];exact S.af⟩;refine⟨⟨hM.hd,hM.s0,N,⟨λv hv=>?_,?_⟩,?_⟩,?_⟩
 ·have hv:v∈s.s0.af++(s.s1.af.set k { u with harm:=h }):=hv;rcases zAF.1 hv with hv|hv
  ·exact hM.un.1 v (zAp _ hv)
  ·rcases XcL hv with hv|rfl;exact hM.un.1 v (zAi _ hv);exact Xbx (hM.un.1 u (zAi _ hu)) h0 h1
 ·have e:(s.s0.af++(s.s1.af.set k { u with harm:=h })).map Th.id=(s.s0.af++s.s1.af).map Th.id:=by rw[zAa,zAa,hi]
  show ((s.s0.af++(s.s1.af.set k { u with harm:=h })).map Th.id).Nodup;rw[e];exact hM.un.2
 ·refine GC hM.at_ ⟨hM.hd.2.2.1,hM.hd.2.2.2.1⟩ rfl rfl rfl (zBL _) (λa _ ha=>?_) (λa _ ha hn=>⟨?_,?_⟩)
  ·exact ha
  ·show a∈(s.s1.af.set k _).map Th.id;rw[hi];exact ha
  ·exact hn
 ·simp[Zm]
theorem Qbo{b:Bk}{s:St}(hM:du b s)(hw:iE n=true):du b { s with s1:={ s.s1 with aX:=n } }∧Zm { s with s1:={ s.s1 with aX:=n } }=Zm s:=by
 have S:=hM.s1;exact⟨⟨hM.hd,hM.s0,⟨hw,S.aU,S.most,S.az,S.hand,S.an,S.told,S.af⟩,hM.un,hM.at_⟩,rfl⟩
theorem Zco{b:Bk}{s:St}(hM:du b s)(hk:s.s1.af[k]?=some u)(hg:s.s1.an.length<1000000) :
  du b { s with ao:=bC u.id s.ao,s1:={ s.s1 with af:=s.s1.af.eraseIdx k,an:=s.s1.an++[u.card] } }∧Zm { s with ao:=bC u.id s.ao,s1:={ s.s1 with af:=s.s1.af.eraseIdx k,an:=s.s1.an++[u.card] } }=Zm s:=by
 have S:=hM.s1;have hu:u∈s.s1.af:=zAI hk;have lW:k<s.s1.af.length:=(gE hk).1;have oX:=zCj s.s1.af k;have hlen:(s.s1.af.eraseIdx k).length=s.s1.af.length-1:=zCH lW;have hc:=OJ (hM.un.1 u (zAi _ hu));have N:gm b { s.s1 with af:=s.s1.af.eraseIdx k,an:=s.s1.an++[u.card] }:=⟨S.aX,S.aU,S.most,S.az,S.hand,Xs S.an ⟨hc.1,by omega⟩ (by omega),S.told,by show (s.s1.af.eraseIdx k).length<=7;have:=S.af;omega⟩;refine⟨⟨hM.hd,hM.s0,N,⟨λv hv=>?_,?_⟩,?_⟩,?_⟩
 ·have hv:v∈s.s0.af++(s.s1.af.eraseIdx k):=hv;rcases zAF.1 hv with hv|hv
  ·exact hM.un.1 v (zAp _ hv)
  ·exact hM.un.1 v (zAi _ (oX.subset hv))
 ·refine hM.un.2.sublist (zDX _ ?_);exact(zBL _).append oX
 ·refine GC hM.at_ ⟨hM.hd.2.2.1,hM.hd.2.2.2.1⟩ rfl rfl rfl zDq (λa ha hm=>?_) (λa ha hm hn=>⟨?_,?_⟩)
  ·exact hm
  ·have ha:a∈bC u.id s.ao:=ha;simp only[bC,List.mem_filter]at ha;exact NQ hk hm (by simpa using ha.2)
  ·exact hn
 ·have:0<s.s1.af.length:=by omega
  simp only[Zm,hlen,By,zBa];omega
theorem XbQ{b:Bk}{s:St}(id:Int)(hM:du b s)(g0:s.s0.an.length<1000000)(g1:s.s1.an.length<1000000) :
  du b (Qn s id).1∧Zm (Qn s id).1=Zm s∧(Qn s id).1.s0.an.length<=s.s0.an.length+1∧(Qn s id).1.s1.an.length<=s.s1.an.length+1:=by
 unfold Qn;cases q0:gM s.s0.af id with
 |some k=>
  obtain⟨u,hk,e⟩:=YS q0;simp only[hk,zAt];subst e;obtain⟨h1,h2⟩:=Qcn hM hk g0;exact⟨h1,h2,by simp,by simp⟩
 |none=>
  cases q1:gM s.s1.af id with
  |some k=>
   obtain⟨u,hk,e⟩:=YS q1;simp only[hk,zAt];subst e;obtain⟨h1,h2⟩:=Zco hM hk g1;exact⟨h1,h2,by simp,by simp⟩
  |none=>exact⟨hM,rfl,by simp,by simp⟩
theorem Ya3{b:Bk}:∀(ids:List Int) {s:St},du b s→s.s0.an.length+ids.length<=1000000→s.s1.an.length+ids.length<=1000000→du b (Xl ids s).1∧Zm (Xl ids s).1=Zm s
 |[],s,hM,_,_=>⟨hM,rfl⟩
 |id::ids,s,hM,g0,g1=>by
  simp only[IS]at g0 g1;obtain⟨h1,h2,h3,h4⟩:=XbQ id hM (by omega) (by omega);obtain⟨k1,k2⟩:=Ya3 ids h1 (by omega) (by omega);exact⟨k1,k2.trans h2⟩
theorem OL:∀(ids:List Int) (s:St),ids.Nodup→(∀a∈ids,a∈s.s0.af.map Th.id∨a∈s.s1.af.map Th.id)→(Xl ids s).2.length=ids.length
 |[],_,_,_=>rfl
 |id::ids,s,hn,dc=>by
  have jT:=zBr.1 hn;have cU:∀a∈ids,a≠id:=λa ha e=>jT.1 (e▸ha);have key:(Qn s id).2.length=1∧∀a∈ids,a∈(Qn s id).1.s0.af.map Th.id∨a∈(Qn s id).1.s1.af.map Th.id:=by
   unfold Qn;cases q0:gM s.s0.af id with
   |some k=>
    obtain⟨u,hk,e⟩:=YS q0;simp only[hk,zAt];refine⟨rfl,λa ha=>?_⟩
    grind [NQ]
   |none=>
    cases q1:gM s.s1.af id with
    |some k=>
     obtain⟨u,hk,e⟩:=YS q1;simp only[hk,zAt];refine⟨rfl,λa ha=>?_⟩
     grind [NQ]
    |none=>
     grind [Tk]
  have ih:=OL ids (Qn s id).1 jT.2 key.2;simp only[Xl,By,IS,key.1,ih];omega
theorem Sc(b:Bk)(all:List Th):∀(l:List Th) (i:Int),(ZK b all l i).Sublist (l.map Th.id)
 |[],_=>zBL _
 |u::l,i=>by
  have:=Sc b all l (i+1);unfold ZK;rw[zAN];split
  ·exact this.cons_cons _
  ·exact this.cons _
theorem YG{b:Bk}{s:St}(hM:du b s):(aJ b s).Nodup∧(∀a∈aJ b s,a∈s.s0.af.map Th.id∨a∈s.s1.af.map Th.id)∧(aJ b s).length<=14:=by
 have h0:=Sc b s.s0.af s.s0.af 0;have h1:=Sc b s.s1.af s.s1.af 0;have hn:=hM.un.2;rw[zAa]at hn;have l0:=h0.length_le;have l1:=h1.length_le;rw[zAM]at l0 l1;have u0:=hM.s0.af;have u1:=hM.s1.af;have k:∀a,a∈Q2 b s.s0∨a∈Q2 b s.s1→a∈s.s0.af.map Th.id∨a∈s.s1.af.map Th.id:=by
  rintro a (h|h)
  ·exact .inl (h0.subset h)
  ·exact .inr (h1.subset h)
 unfold aJ;by_cases hm:s.mover=0
 ·rw[aI hm];exact⟨hn.sublist (h0.append h1),λa ha=>k a (zAF.1 ha),by rw[By];show (ZK b s.s0.af s.s0.af 0).length+(ZK b s.s1.af s.s1.af 0).length<=14;omega⟩
 ·rw[aB hm];exact⟨(List.perm_append_comm.nodup_iff.1 hn).sublist (h1.append h0),λa ha=>k a (zAF.1 ha).symm,by rw[By];show (ZK b s.s1.af s.s1.af 0).length+(ZK b s.s0.af s.s0.af 0).length<=14;omega⟩
theorem Xb4{b:Bk}{s:St}{kd:Int}{fP:Int→Int×Int}{fU:Th→Int×Int}(hM:du b s)(hP:∀l,0<=(fP l).2)(hU:∀u,0<=u.harm→u.harm<=1000000→0<=(fU u).2∧(iE (fU u).1=true→0<=(fU u).1))(h0:sd=0∨sd=1)(h:(ga kd fP fU s id sd).2.2=0) :
  du b (ga kd fP fU s id sd).1∧Zm (ga kd fP fU s id sd).1=Zm s∧0<=(ga kd fP fU s id sd).2.1.n:=by
 have z:∀(x:Int),x≠0→(fW,jx,x).2.2=0→False:=λx hx h=>hx h;unfold ga at h ⊢;by_cases g_:id=0
 ·rw[aI g_]at h ⊢;unfold nE at h ⊢;by_cases hw:iE (fP (s.side sd).aX).1=true
  ·rw[aI hw];rcases h0 with rfl|rfl
   ·exact⟨(Xbo hM hw).1,(Xbo hM hw).2,hP _⟩
   ·exact⟨(Qbo hM hw).1,(Qbo hM hw).2,hP _⟩
  simp_all
 rw[aB g_]at h ⊢;by_cases oP:id<0
 ·simp_all
 rw[aB oP]at h ⊢;cases q0:gM s.s0.af id with
 |some k=>
  obtain⟨u,hk,_⟩:=YS q0;rw[q0]at h;simp only[hk,zAt]at h ⊢;have hh:=WS (hM.un.1 u (zAp _ (zAI hk)));obtain⟨k1,k2⟩:=hU u hh.1 hh.2;unfold jR at h ⊢;by_cases hw:iE (fU u).1=true
  ·rw[aI hw];have:=Qcy hM hk (k2 hw) (YV.1 hw).2;exact⟨this.1,this.2,k1⟩
  simp_all
 |none=>
  rw[q0]at h;cases q1:gM s.s1.af id with
  |none=>simp_all
  |some k=>
   obtain⟨u,hk,_⟩:=YS q1;rw[q1]at h;simp only[hk,zAt]at h ⊢;have hh:=WS (hM.un.1 u (zAi _ (zAI hk)));obtain⟨k1,k2⟩:=hU u hh.1 hh.2;unfold jR at h ⊢;by_cases hw:iE (fU u).1=true
   ·rw[aI hw];have:=Zcz hM hk (k2 hw) (YV.1 hw).2;exact⟨this.1,this.2,k1⟩
   simp_all
theorem ZcY{b:Bk}{s:St}(hM:du b s)(h0:sd=0∨sd=1)(h:(jF b s id sd n).2.2=0):du b (jF b s id sd n).1∧Zm (jF b s id sd n).1=Zm s∧0<=(jF b s id sd n).2.1.n:=by
 refine Xb4 hM (λl=>(Zdd n).1) (λu h1 h2=>?_) h0 h;have hh:0<=oY b u (ja n)∧oY b u (ja n)<9223372036854775808:=by
  unfold oY;have:=Xeq (ja n-Z0 b u.card);omega
 grind [XcS]
theorem XcY{b:Bk}{s:St}(hM:du b s)(h0:sd=0∨sd=1)(h:(jK s id sd n).2.2=0):du b (jK s id sd n).1∧Zm (jK s id sd n).1=Zm s∧0<=(jK s id sd n).2.1.n:=by
 have hc:=Zdd n;refine Xb4 hM (λl=>hc.1) (λu h1 h2=>?_) h0 h
 grind [XcS]
theorem w69(x:aa)(τ:List ab)(K:KT)(h:K (.func (.func 175) [x] []) τ):g174.u VV [x] τ K:=by
 rw[H1.e];unfold g174;dsimp only;exact Za rfl h
theorem TV(m:List aa)(aX n:Int):PC 175 [.aq m 0,.fo,iv aX,iv n] (.bp [iv (BY.wrap (aX+n)),iv n]):=by
 refine Xa hP g175.ok rfl rfl ?_;rw[H4.e];unfold g175;dsimp only;exact ay rfl
theorem TW(b:Bk)(m:List aa)(u:Th)(aX n:Int):PC 175 [.aq (.aq (cq b) 0::m) 0,.aq (bc u) 0,iv aX,iv n] (.bp [iv (BY.wrap (u.harm-min n u.harm)),iv (min n u.harm)]):=by
 refine Xa hP g175.ok rfl rfl ?_;rw[H4.e];unfold g175;dsimp only;exact ax rfl
theorem c26(b:Bk)(hf:ba b=true)(bW:Yg b.aj)(s:St)(hs:aY 2000000 s)(hm:aL (bu b).1 b s true=true)(id sd n:Int)(h0:sd=0∨sd=1):PC 124 [cE b,bZ s,iv id,iv sd,iv n] (eE (jK s id sd n)):=
 cT hf bW hs hm (show GQ 124 5 (gT 6 174) from g124.ok) g174.ok w69 g175.ok.plain id sd n h0 (λm aX=>TV m aX _) (λm u aX _ _=>TW b m u aX _)
def uO(s:St):Int:=s.ao.length+(s.s0.az.length+s.s0.hand.length+s.s0.an.length+s.s0.af.length+s.s0.told.length)+(s.s1.az.length+s.s1.hand.length+s.s1.an.length+s.s1.af.length+s.s1.told.length)
theorem TQ(s:St)(hs:aY 2000000 s):PC 6 [bZ s] (.bool (decide (2000<uO s))):=by
 have a0:=hs.ao;obtain⟨d0,h0,g0,u0,t0⟩:=hs.s0;obtain⟨d1,h1,g1,u1,t1⟩:=hs.s1;have w1:BY.wrap (0+1)=1:=by decide
 have w2:BY.wrap (1+1)=2:=by decide
 refine Xa hP g6.ok rfl rfl ?_;rw[H1.e];unfold g6;dsimp only;refine Yd rfl rfl (Za rfl (Za rfl (Za (v:=iv s.ao.length) (rd:=[]) (by simp[Zf]) ?_)));refine YL 3 (Yl ?_);refine Za rfl (Xh ?_);refine Za rfl (Za rfl (Za rfl (Yd rfl rfl (Yd rfl rfl ?_))));refine Za rfl (Za rfl (Za (v:=iv s.s0.az.length) (rd:=[]) (by simp[Zf]) ?_));refine Za rfl (Za rfl (Za (v:=iv s.s0.hand.length) (rd:=[]) (by simp[Zf]) (Za (Xj ..) ?_)));rw[bw (n:=(s.s0.az.length:Int)+(s.s0.hand.length:Int)) (by omega) (by omega)];refine Za rfl (Za rfl (Za (v:=iv s.s0.an.length) (rd:=[]) (by simp[Zf]) (Za (Xj ..) ?_)));rw[bw (n:=(s.s0.az.length:Int)+(s.s0.hand.length:Int)+(s.s0.an.length:Int)) (by omega) (by omega)];refine Za rfl (Za rfl (Za (v:=iv s.s0.af.length) (rd:=[]) (by simp[Zf]) (Za (Xj ..) ?_)));rw[bw (n:=(s.s0.az.length:Int)+(s.s0.hand.length:Int)+(s.s0.an.length:Int)+(s.s0.af.length:Int)) (by omega) (by omega)];refine Za rfl (Za rfl (Za (v:=iv s.s0.told.length) (rd:=[]) (by simp[Zf]) (Za (Xj ..) ?_)));rw[bw (n:=(s.s0.az.length:Int)+(s.s0.hand.length:Int)+(s.s0.an.length:Int)+(s.s0.af.length:Int)+(s.s0.told.length:Int)) (by omega) (by omega)];refine Za (Xj ..) (Za rfl ?_);rw[w1,bw (n:=(s.ao.length:Int)+((s.s0.az.length:Int)+(s.s0.hand.length:Int)+(s.s0.an.length:Int)+(s.s0.af.length:Int)+(s.s0.told.length:Int))) (by omega) (by omega)];refine Yl (Za rfl (Xh ?_));refine Za rfl (Za rfl (Za rfl (Yd rfl rfl (Yd rfl rfl ?_))));refine Za rfl (Za rfl (Za (v:=iv s.s1.az.length) (rd:=[]) (by simp[Zf]) ?_));refine Za rfl (Za rfl (Za (v:=iv s.s1.hand.length) (rd:=[]) (by simp[Zf]) (Za (Xj ..) ?_)));rw[bw (n:=(s.s1.az.length:Int)+(s.s1.hand.length:Int)) (by omega) (by omega)];refine Za rfl (Za rfl (Za (v:=iv s.s1.an.length) (rd:=[]) (by simp[Zf]) (Za (Xj ..) ?_)));rw[bw (n:=(s.s1.az.length:Int)+(s.s1.hand.length:Int)+(s.s1.an.length:Int)) (by omega) (by omega)];refine Za rfl (Za rfl (Za (v:=iv s.s1.af.length) (rd:=[]) (by simp[Zf]) (Za (Xj ..) ?_)));rw[bw (n:=(s.s1.az.length:Int)+(s.s1.hand.length:Int)+(s.s1.an.length:Int)+(s.s1.af.length:Int)) (by omega) (by omega)];refine Za rfl (Za rfl (Za (v:=iv s.s1.told.length) (rd:=[]) (by simp[Zf]) (Za (Xj ..) ?_)));rw[bw (n:=(s.s1.az.length:Int)+(s.s1.hand.length:Int)+(s.s1.an.length:Int)+(s.s1.af.length:Int)+(s.s1.told.length:Int)) (by omega) (by omega)];refine Za (Xj ..) (Za rfl ?_);rw[w2,bw (n:=(s.ao.length:Int)+((s.s0.az.length:Int)+(s.s0.hand.length:Int)+(s.s0.an.length:Int)+(s.s0.af.length:Int)+(s.s0.told.length:Int))+((s.s1.az.length:Int)+(s.s1.hand.length:Int)+(s.s1.an.length:Int)+(s.s1.af.length:Int)+(s.s1.told.length:Int))) (by omega) (by omega)];exact Yl (ay rfl)
theorem du.le{b:Bk}{s:St}(h:du b s):aY 1000000 s:=by
 have l:∀ {x:Sd},gm b x→lz 1000000 x:=λ{x} S=>by
  have h1:=(Yh.1 S.az).1;have h2:=(Yh.1 S.hand).1;have h3:=(Yh.1 S.an).1;have h4:=(Yh.1 S.told).1;have h5:=S.af;exact⟨by omega,by omega,by omega,by omega,by omega⟩
 refine⟨?_,l h.s0,l h.s1⟩;by_cases hp:s.phase=1
 ·have:=(h.at_.2 hp).2.1;omega
 ·rw[h.at_.1 hp];simp
section
variable {b:Bk} (hf:ba b=true) (bW:Yg b.aj) {s:St} (hs:aY 2000000 s) (hm:aL (bu b).1 b s true=true)
include hf bW hs hm
end
end Go.Ah.Tz
end
section
namespace Go.Ah
def mT(D:List Deferred)(a:Act):Act:={ a with defers:=a.defers++D }
section
variable {P:Program}
theorem CK(D:List Deferred)(a:Act)(d:Option Nat)(v:Value):(mT D a).put d v=mT D (a.put d v):=by
 cases d<;>rfl
theorem SD(D:List Deferred)(a:Act):(mT D a).eval=a.eval:=by
 funext x;cases x<;>rfl
theorem RQ{ops:Array Oper}{Q Q':Exit→Act→World→Prop}(D:List Deferred)(l2:List Nat)(hn:∀a w,Q .normal a w→wpOps P ops Q' l2 (mT D a) w)(hq:∀e a w,e≠.normal→Q e a w→Q' e (mT D a) w) :
  ∀(l:List Nat) (a:Act) (w:World),wpOps P ops Q l a w→wpOps P ops Q' (l++l2) (mT D a) w
 |[],a,w,h=>hn _ _ h
 |i::rest,a,w,h=>by
  have oS:LetsOut Q→LetsOut Q':=λ⟨a,w,q⟩=>⟨_,w,hq _ _ _ (by simp) q⟩;have ih:=RQ D l2 hn hq rest;simp only[zAJ,wpOps]at h ⊢;cases ho:ops[i]? with
  |none=>simp only[ho]at h ⊢;exact ih _ _ h
  |some o=>
   simp only[ho]at h ⊢;have ht:(mT D a).tmps=a.tmps:=rfl;rw[ht];split
   ·rename_i hw;rw[aI hw]at h;rcases h with h|⟨h1,h2⟩
    ·left;unfold zEA at h ⊢;rw[SD];generalize (execOp a.eval o).run P w=r at h ⊢;cases r with
     |ok nx w'=>
      cases nx with
      |value v=>simp only[zDA]at h ⊢;rw[CK];exact ih _ _ h
      |skip=>simp only[zDA]at h ⊢;rw[CK];exact ih _ _ h
      |defer d=>
       simp only[zDA]at h ⊢;rw[show ({ mT D a with defers:=d::(mT D a).defers }:Act)=mT D { a with defers:=d::a.defers } from rfl,CK];exact ih _ _ h
      |enter f args=>
       simp only[zDA]at h ⊢;refine zDO h (λe ym k=>?_);cases e with
       |returned v=>simp only at k ⊢;rw[CK];exact ih _ _ k
       |panicked c=>exact hq _ _ _ (by simp) k
       |outgrown=>exact oS k
      |row row args=>
       simp only[zDA]at h ⊢;refine Rows.mono h (λv ym k=>?_);rw[CK];exact ih _ _ k
      |_=>exact h.elim
     |halt hh w'=>
      cases hh with
      |panic v=>exact hq _ _ _ (by simp) h
      |_=>exact h.elim
    ·right;refine⟨?_,oS h2⟩;unfold Oper.asks at h1 ⊢;rw[SD];exact h1
   ·rename_i hw;rw[aB hw]at h;rw[CK];exact ih _ _ h
end
section
variable {P:Program} {GL:aw}
theorem Nf{n:Nat}{c1 c2:Code}{m1:dB}(hc:cG P GL n c1 m1){w0:World}{L:Ln}{g:Gm}{ρ:Frame}{σ:List ab}{a:Act}{w:World}(r:bx GL w0 L g (hp σ) w)(d:cX n g ρ a){Q1:eF}{Qw:Exit→Act→World→Prop}(h:iX P GL n m1 ρ σ Q1)
 (hn:∀g' ρ' σ' a' w',g.Le g'→bx GL w0 L g' (hp σ') w'→cX n g' ρ' a'→Q1 .normal ρ' σ'→c2.wp P Qw a' w')(hx:∀i ρ σ,¬Q1 (.exit i) ρ σ)
 (hr:∀g' ρ' σ' a' w',g.Le g'→bx GL w0 L g' (hp σ') w'→cX n g' ρ' a'→Q1 .ret ρ' σ'→Qw .ret a' w'):(Code.seq c1 c2).wp P Qw a w:=by
 refine wp_seq (wp_mono (h c1 hc w0 L g a w r d) (λe a' w' hl=>?_));cases e with
 |normal=>obtain⟨g',ρ',σ',k1,k2,k3,k4⟩:=hl;exact hn g' ρ' σ' a' w' k1 k2 k3 k4
 |ret=>obtain⟨g',ρ',σ',k1,k2,k3,k4⟩:=hl;exact hr g' ρ' σ' a' w' k1 k2 k3 k4
 |exit id=>obtain⟨g',ρ',σ',k1,k2,k3,k4⟩:=hl;exact(hx _ _ _ k4).elim
 |_=>exact hl.elim
end
end Go.Ah
end
section
namespace Go.Ah.Tz
open Go.Proofs.Tryz (prog)
set_option maxRecDepth 100000
def uL{α:Type}(A:aE α)(x0 x1 x2 x3:aa)(σ:List ab)(K R:List aa→List ab→α):α:=
 A.wr (ub [x2] σ) σ λFM σ=>
 A.wr (Zs [.dw] [] σ) σ λyi σ=>
 A.wr (Zs [(.int .i64 0)] [] σ) σ λyj σ=>
 A.rd (Ql [x1] σ) λMo=>
 A.rd (Qe true 23 [Mo] σ) λxZ=>
 A.wr (Zs [(.int .i64 0),(.int .i64 0),(.int .i8 0),(.bool false),(.int .i8 0),.al,(.int .i64 0),(.int .i64 0),(.int .i64 0),(.int .i64 0),.al,.al,.al,.al,.al,(.int .i64 0),(.int .i64 0),(.int .i64 0),.al,.al,.al,.al,.al] [] σ) σ λsE σ=>
 A.wr (Zj 23 [sE,xZ] σ) σ λ_ σ=>
 A.rd (Zc 2 [sE] σ) λyb=>
 A.rd (Qe false 1 [yb] σ) λMD=>
 A.rd (Zn .eql false [MD,(.int .i8 1)] σ) λsF=>
 A.gr sF true (λk=>A.rd (Zc 5 [sE] σ) k) λMG=>
 A.gr sF true (λk=>A.rd (Qe false 1 [MG] σ) k) λEb=>
 A.gr sF true (λk=>A.rd (Yn [Eb] σ) k) λEd=>
 A.gr sF true (λk=>A.rd (Zn .eql false [Ed,(.int .i64 0)] σ) k) λEe=>
 A.rd (Yo [sF,Ee,(.bool false)] σ) λEh=>
 cP (λk14=>
 A.test Eh (
 A.rd (Zc 2 [sE] σ) λtN=>
 A.wr (Zj 1 [tN,(.int .i8 0)] σ) σ λ_ σ=>
 k14 [] σ) (
 k14 [] σ)) (λv15 σ=>
 A.pu (Ql [x0] σ) λtP=>
 A.dr (Qe true 2 [tP] σ) σ λEu l19 σ=>
 A.dr (Qe true 23 [sE] σ) σ λEy l21 σ=>
 A.eV (.call 43) [Eu,Ey] σ λEz l23 σ=>
 A.pu (Zn .neq false [Ez,(.int .i64 0)] σ) λkN=>
 A.gr kN false (λk=>A.pu (rl [x1] σ) k) λEF=>
 A.gr kN false (λk=>A.pu (Ql [EF] σ) k) λEI=>
 A.gr kN false (λk=>A.pu (Zc 2 [EI] σ) k) λEM=>
 A.gl kN false (λk=>A.dr (Qe false 1 [EM] σ) σ k) σ λEP l29 σ=>
 A.gr kN false (λk=>A.pu (Zn .eql false [EP,(.int .i8 1)] σ) k) λEU=>
 A.gr kN false (λk=>A.pu (rl [EU] σ) k) λmZ=>
 A.gr mZ true (λk=>A.pu (rl [x1] σ) k) λEY=>
 A.gr mZ true (λk=>A.pu (Ql [EY] σ) k) λEZ=>
 A.gr mZ true (λk=>A.pu (Zc 3 [EZ] σ) k) λE2=>
 A.gl mZ true (λk=>A.dr (Qe false 1 [E2] σ) σ k) σ λE5 l36 σ=>
 A.gr mZ true (λk=>A.pu (t_ .not [E5] σ) k) λE7=>
 A.gr kN false (λk=>A.pu (Yo [mZ,E7,(.bool false)] σ) k) λE9=>
 A.pu (Yo [kN,(.bool true),E9] σ) λFa=>
 A.gd (Qi [[],[0],[0,1],[],[0,1,2,3],[0,1,2,3,4],[0,1,2,3,4,5],[0,1,2,3,4,5,6],[0,1,2,3,4,5,6,7],[0,1,2,3,4,5,6,7,8],[0,1,2,3,4,5,6,7,8,9],[0,1,2,3,4,5,6,7,8,9,10],[0,1,2,3,4,5,6,7,8,9,10,11],[0,1,2,3,4,5,6,7,8,9,10,11,12],[0,1,2,3,4,5,6,7,8,9,10,11,12,13],[0,1,2,3,4,5,6,7,8,9,10,11,12,13,14],[0,1,2,3,4,5,6,7,8,9,10,11,12,13,14,15],[0,1,2,3,4,5,6,7,8,9,10,11,12,13,14,15,16],[0,1,2,3,4,5,6,7,8,9,10,11,12,13,14,15,16,17],[0,1,2,3,4,5,6,7,8,9,10,11,12,13,14,15,16,17,18],[0,1,2,3,4,5,6,7,8,9,10,11,12,13,14,15,16,17,18,19]] [([],[]),([],[]),l19,l21,l23,([],[]),([],[]),([],[]),([],[]),([],[]),l29,([],[]),([],[]),([],[]),([],[]),([],[]),l36,([],[]),([],[]),([],[]),([],[])]) <|
 A.test Fa (
 A.wr (Zj 1 [yi,.dw] σ) σ λ_ σ=>
 A.wr (Zj 1 [yj,(.int .i64 170)] σ) σ λ_ σ=>
 R [yi,yj] σ) (
 A.rd (Zc 0 [FM] σ) λFb=>
 A.rd (Qe false 1 [Fb] σ) λFf=>
 A.rd (Zn .lss false [Ff,(.int .i64 0)] σ) λqK=>
 A.gr qK false (λk=>A.rd (Zc 0 [FM] σ) k) λFl=>
 A.gr qK false (λk=>A.rd (Qe false 1 [Fl] σ) k) λFq=>
 A.gr qK false (λk=>A.rd (Zn .gtr false [Fq,(.int .i64 1)] σ) k) λFt=>
 A.rd (Yo [qK,(.bool true),Ft] σ) λFv=>
 A.test Fv (
 A.wr (Zj 1 [yi,.dw] σ) σ λ_ σ=>
 A.wr (Zj 1 [yj,(.int .i64 2)] σ) σ λ_ σ=>
 R [yi,yj] σ) (
 K [x0,x1,x3,FM,yi,yj] σ)))
def k1:Code→Code
 |.seq a _=>a
 |c=>c
def k2:Code→Code
 |.seq _ b=>b
 |c=>c
def LF:Code→Array Oper
 |.region _ ops _=>ops
 |_=>#[]
def b81(P:Program):Code:=match P.funcs[132]? with
 |some f=>f.body.getD .skip
 |none=>.skip
def Jh(P:Program):Code:=k1 (b81 P)
def IZ(P:Program):Code:=k1 (k2 (b81 P))
def IC(P:Program):Code:=k1 (k2 (k2 (b81 P)))
def Ib(P:Program):Code:=k1 (k2 (k2 (k2 (b81 P))))
def ta(P:Program):Array Oper:=LF (k1 (k2 (k2 (k2 (k2 (b81 P))))))
def qd(P:Program):Array Oper:=LF (k1 (k2 (k2 (k2 (k2 (k2 (b81 P)))))))
theorem Xer:Go.Proofs.Tryz.f132.body=some (.seq (Jh prog) (.seq (IZ prog) (.seq (IC prog) (.seq (Ib prog) (.seq (.region 8 (ta prog) false) (.seq (.region 9 (qd prog) false) .ret)))))):=by kernel_rfl
def mz(P:Program)(c:Code):dB:=(Yz P aG 62 c).getD .skip
theorem Oh{c:Code}(h:(Yz prog aG 62 c).isSome=true):cG prog aG 62 c (mz prog c):=by
 unfold mz;cases e:Yz prog aG 62 c with
 |none=>rw[e]at h;cases h
 |some m=>exact Y' e
theorem JE:cG prog aG 62 (Jh prog) (mz prog (Jh prog)):=Oh (by kernel_rfl)
theorem JF:cG prog aG 62 (IZ prog) (mz prog (IZ prog)):=Oh (by kernel_rfl)
theorem JG:cG prog aG 62 (IC prog) (mz prog (IC prog)):=Oh (by kernel_rfl)
theorem JH:cG prog aG 62 (Ib prog) (mz prog (Ib prog)):=Oh (by kernel_rfl)
def NI(P:Program):bM:=(fZ (mz P (Jh P)) []).1
def O4(P:Program):bM:=(fZ (mz P (IZ P)) []).1
def Ov(P:Program):bM:=(fZ (mz P (IC P)) [some []]).1
def N7(P:Program):bM:=(fZ (mz P (Ib P)) [none,none,none]).1
theorem Qes:(NI prog).ok=true:=by kernel_rfl
theorem Zet:(O4 prog).ok=true:=by kernel_rfl
theorem Yet:(Ov prog).ok=true:=by kernel_rfl
theorem Xet:(N7 prog).ok=true:=by kernel_rfl
theorem QdX(x0 x1 x2 x3:aa)(α:Type)(A:aE α)(σ:List ab)(K R:List aa→List ab→α) :
  dn A (NI prog) (eQ [x0,x1,x2,x3]) σ (λρ σ=>dn A (O4 prog) ρ σ (λρ σ=>dn A (Ov prog) ρ σ (λρ σ=>dn A (N7 prog) ρ σ (λρ σ=>K (iH ρ [0,1,3,6,8,9]) σ)
   (λ_ _ _=>A.stop) (λρ σ=>R (iH ρ [8,9]) σ)) (λ_ _ _=>A.stop) (λρ σ=>R (iH ρ [8,9]) σ)) (λ_ _ _=>A.stop) (λρ σ=>R (iH ρ [8,9]) σ)) (λ_ _ _=>A.stop) (λρ σ=>R (iH ρ [8,9]) σ)
  = uL A x0 x1 x2 x3 σ K R:=by kernel_rfl
attribute [local irreducible] aE.rd aE.pu aE.wr aE.dr aE.gr aE.gw aE.gl aE.gd aE.opt cP W
set_option maxHeartbeats 8000000
variable{s:St}
variable{b:Bk}
variable{e:Int}
theorem Zbq(h:aL e b s true=true)(hp:s.phase=1):s.bD=true:=by
 simp only[aL,AI]at h;obtain⟨_,_,_,_,_,_,_,_,_,_,_,_,_,h⟩:=h;rw[aB (by simp[hp])]at h;simp only[AI]at h;exact h.2.1
theorem Qcc(h:aL e b s true=true)(hp:s.phase=1)(ha:s.ao.length=0):aL e b { s with phase:=0 } false=true:=by
 simp only[aL,AI]at h ⊢;obtain⟨a1,a2,a3,a4,a5,a6,a7,a8,a9,b1,b2,b3,b4,h⟩:=h;refine⟨a1,a2,a3,a4,a5,by simp,by simp,a8,a9,?_,b2,b3,b4,?_⟩
 ·rw[hp]at b1;exact b1
 ·rw[aI (by simp)];simp[ha]
theorem P6(h:aL e b s true=true)(hp:s.phase=1→s.ao.length≠0):aL e b s false=true:=by
 simp only[aL,AI]at h ⊢;obtain⟨a1,a2,a3,a4,a5,a6,a7,a8,a9,b1,b2,b3,b4,h⟩:=h;refine⟨a1,a2,a3,a4,a5,a6,a7,a8,a9,b1,b2,b3,b4,?_⟩;split at h
 ·rename_i q;rw[aI q];exact h
 ·rename_i q;rw[aB q];simp only[AI]at h ⊢;exact⟨by simp[hp (by simpa using q)],h.2⟩
theorem ZbL(b:Bk)(hf:ba b=true)(bW:Yg b.aj)(s:St)(hs:aY 1000000000 s)(hm:aL (bu b).1 b s true=true)(sd tg:Int)(h0:0<=sd)(h1:sd<=1)(v:aa){K R:nA}
 (hK:∀z,K [.aq (cq b) 0,.aq (aF s) 0,v,.ak 0 0,.ak 1 0,.ak 2 0] [.box [iv sd,iv tg],.box [.dw],.box [iv 0],.box z]) :
  uL VV (.aq (cq b) 0) (.aq (aF s) 0) (.agg [iv sd,iv tg]) (v) [] K R:=by
 unfold uL;refine ay ?_;refine Sl (v1:=.ak 3 5) (v2:=aP s.ao) (v3:=iv s.ao.length) (d:=((s.ao.length:Int)==0)) (q3:=[]) rfl (ld (row:=aF s) rfl rfl) (by simp[aP,Yn]) rfl ?_;refine Qg λk' ek=>?_;have nK:∀t:St,aL (bu b).1 b t false=true→aY 1000000000 t→k' [] [.box [iv sd,iv tg],.box [.dw],.box [iv 0],.box (aF t)]:=by
  intro t ht Lm;have zF:=c55 b hf bW t Lm;rw[ht]at zF;subst ek;refine ay ?_;refine i_ zF g43.ok ?_;refine ay ?_;refine ZcR ?_;refine ay ?_;rcases cD (s.phase==1)with h|h
  ·rw[h];refine ay ?_;refine ZcR ?_;refine ay ?_;rw[Zbq hm (by simpa using h)];refine ay ?_;rw[show decide (sd<0)=false from gB (by omega)];refine Qa (Za rfl (Qa (Za (ld (row:=[iv sd,iv tg]) (v:=iv sd) rfl rfl) (Qa (Za (v:=.bool (decide (sd>1))) rfl ?_)))));rw[show decide (sd>1)=false from gB (by omega)];exact Za rfl (Xe (hK _))
  ·rw[h];refine ay ?_;refine Xd1 rfl ?_;refine ay ?_;rw[show decide (sd<0)=false from gB (by omega)];refine Qa (Za rfl (Qa (Za (ld (row:=[iv sd,iv tg]) (v:=iv sd) rfl rfl) (Qa (Za (v:=.bool (decide (sd>1))) rfl ?_)))));rw[show decide (sd>1)=false from gB (by omega)];exact Za rfl (Xe (hK _))
 rcases cD ((s.phase==1)&&((s.ao.length:Int)==0))with hq|hq
 ·rw[hq];simp only[AI,beq_iff_eq]at hq;exact ay (nK { s with phase:=0 } (Qcc hm hq.1 (by omega)) ⟨hs.ao,hs.s0,hs.s1⟩)
 ·rw[hq];exact Xe (nK s (P6 hm (λhp e=>by simp[hp,e]at hq)) hs)
end Go.Ah.Tz
end
section
namespace Go.Ah.Tz
open Go.Proofs.Tryz (prog)
set_option maxRecDepth 100000
set_option maxHeartbeats 4000000
theorem Aq(p q:Value)(w:World):CallsD prog 179 #[p,q] .returning w λe u' w'=>e=.returned (.tuple #[])∧u'=.returning∧w'=w:=by
 refine callsD_of_wpS Go.Proofs.Tryz.func179 rfl λc₀ cs hu=>?_;apply wpS_seq;apply wpS_region;simp[wpOpsS,go_sem,recoverD,hu,Go.Proofs.Tryz.ntmps179,Exit.thenS];refine wpS_cond (t:=false) (by simp[Act.eval,zDb,Array.replicate]) ?_;simp only[zAW,if_false];refine wpS_of_wp (wp_skip ?_);cases c₀;simp_all [bodyPostS,results,zDb,Go.Proofs.Tryz.results179]
def kK(l:Program→Array Oper)(i:Nat)(P:Program):Oper:=((l P)[i]?).getD default
theorem Mb:(ta prog).size=2:=by kernel_rfl
theorem Mc:(qd prog).size=9:=by kernel_rfl
theorem NK:(ta prog)[0]?=some (kK ta 0 prog)∧(kK ta 0 prog).op=.makeFunc (.func 179) #[] #[.tmp 8,.tmp 9]∧(kK ta 0 prog).dst=some 54∧(kK ta 0 prog).guard=none:=⟨by kernel_rfl,by kernel_rfl,by kernel_rfl,by kernel_rfl⟩
theorem O5:(ta prog)[1]?=some (kK ta 1 prog)∧(kK ta 1 prog).op=.defer ⟨.value (.tmp 54),#[],#[]⟩∧(kK ta 1 prog).dst=none∧(kK ta 1 prog).guard=none:=⟨by kernel_rfl,by kernel_rfl,by kernel_rfl,by kernel_rfl⟩
theorem Ow:(qd prog)[6]?=some (kK qd 6 prog)∧(∃ts,(kK qd 6 prog).op=.call ⟨.invoke (.tmp 55) "baize/value.ask",#[.tmp 60],ts⟩)∧(kK qd 6 prog).dst=some 61∧(kK qd 6 prog).guard=none:=⟨by kernel_rfl,⟨match (kK qd 6 prog).op with | .call c=>c.argTypes|_=>#[],by kernel_rfl⟩,by kernel_rfl,by kernel_rfl⟩
theorem C0(v:Value)(args:Array Value)(w:World):(callMethod (.iface 209 v) "baize/value.ask" args).run prog w=.ok (.enter 260 (#[v]++args)) w:=by kernel_rfl
theorem C1(v:Value)(args:Array Value)(w:World):(callMethod (.iface 213 v) "baize/value.ask" args).run prog w=.ok (.enter 279 (#[v]++args)) w:=by kernel_rfl
def HG(P:Program):List aR:=(mapM' (Ig P aG 62 (qd P).toList) ((qd P).toList.take 6)).getD []
def HH(P:Program):List aR:=(mapM' (Ig P aG 62 (qd P).toList) ((qd P).toList.drop 7)).getD []
theorem Zdu:(HG prog).length=6:=by kernel_rfl
theorem Ydu:(HH prog).length=2:=by kernel_rfl
variable{n rb:Nat}
theorem W2{α:Type}{o:Option (List α)}(h:(o.getD []).length=n+1):o=some (o.getD []):=by
 cases o with
 |none=>cases h
 |some a=>rfl
theorem YeD(j:Nat)(m:aR)(e:(HG prog)[j]?=some m):∃o,(qd prog)[0+j]?=some o∧gk prog aG 62 (qd prog) o m:=by
 obtain⟨h1,h2⟩:=OG (W2 (n:=5) Zdu);obtain⟨o,k1,k2⟩:=h2 j m e;refine⟨o,?_,R' k2⟩;rw[List.getElem?_take]at k1;split at k1
 ·simpa using k1
 ·cases k1
theorem XeD(j:Nat)(m:aR)(e:(HH prog)[j]?=some m):∃o,(qd prog)[7+j]?=some o∧gk prog aG 62 (qd prog) o m:=by
 obtain⟨h1,h2⟩:=OG (W2 (n:=1) Ydu);obtain⟨o,k1,k2⟩:=h2 j m e;refine⟨o,?_,R' k2⟩;rw[List.getElem?_drop]at k1;simpa using k1
theorem d9a(x0 x1 x3 t6 t8 t9 f:aa)(α:Type)(A:aE α)(σ:List ab)(K:List aa→List ab→α) :
  jD A (HG prog) [(54,f),(0,x0),(1,x1),(3,x3),(6,t6),(8,t8),(9,t9)] σ (λρ σ=>K (iH ρ [55,60,8,9]) σ) =
  A.rd (Qe true 2 [t6] σ) λt58=>A.rd (ZO [.fo,.fo,.int .i64 0,.int .i64 0] [(0,1),(1,1),(2,2)] [x0,x1,t58] σ) λt59=>A.wr (ub [t59] σ) σ λt60 σ=>K [x3,t60,t8,t9] σ:=by kernel_rfl
theorem d9b(t55 t60 t8 t9 y:aa)(α:Type)(A:aE α)(σ:List ab)(K:List aa→List ab→α) :
  jD A (HH prog) [(61,y),(55,t55),(60,t60),(8,t8),(9,t9)] σ (λρ σ=>K (iH ρ [8,9]) σ) =
  A.wr (Zj 1 [t8,y] σ) σ λ_ σ=>A.wr (Zj 1 [t9,.int .i64 0] σ) σ λ_ σ=>K [t8,t9] σ:=by kernel_rfl
theorem r81:lX (sZ prog) Go.Proofs.Tryz.f132.results.toList [.c 8 false 1,.c 9 false 1]:=Nh (f:=RY prog) W5 (by kernel_rfl)
theorem n81:Go.Proofs.Tryz.f132.ntmps=62:=by kernel_rfl
theorem P_{P:Program}{ops:Array Oper}{Q:Exit→Act→World→Prop}{i:Nat}{rest:List Nat}{a:Act}{w:World}{o:Oper}(ho:ops[i]?=some o)(hg:o.guard=none)(h:o.wp P a w (wpOps P ops Q rest) Q):wpOps P ops Q (i::rest) a w:=by
 simp_all [wpOps,Region.wanted]
def Co(K R:Frame→List ab→Prop):eF
 |.normal,ρ,σ=>K ρ σ
 |.ret,ρ,σ=>R ρ σ
 |.exit _,_,_=>False
variable{σ:List ab}
theorem piece(m:bM)(hm:m.ok=true){ρ:Frame}{K R:Frame→List ab→Prop}(h:dn VV m ρ σ K (λ_ _ _=>VV.stop) R):iX prog aG n m.er ρ σ (Co K R):=
 ZZ hP (zx prog aG) m (Q:=Co K R) hm (λ_ _ _ h=>h) (λ_ _ _ _ h=>h) (λ_ _ _ h=>h) h
theorem JD(bk st:List aa)(sd tg:Int)(ty:TypeId)(fn:FuncId)(nz:List aa)(j:Nat)(y:aa)(hyf:y.flat=true)(hyr:y.ro=true)(hyc:cellsOf y=some [y])
 (aat:∀(v:Value) (args:Array Value) (w:World),(callMethod (.iface ty v) "baize/value.ask" args).run prog w=.ok (.enter fn (#[v]++args)) w)
 (hw:uL VV (.aq bk 0) (.aq st 0) (.agg [iv sd,iv tg]) (.iface ty (.agg [.aq nz j])) [] (λvs σ=>vs=[.aq bk 0,.aq st 0,.iface ty (.agg [.aq nz j]),.ak 0 0,.ak 1 0,.ak 2 0]∧∃z,σ=[.box [iv sd,iv tg],.box [.dw],.box [iv 0],.box z]) (λ_ _=>False))
 (h289:PC fn [.agg [.aq nz j],.aq [.aq bk 0,.aq st 0,iv sd,iv tg] 0] y) :
  PC 132 [.aq bk 0,.aq st 0,.agg [iv sd,iv tg],.iface ty (.agg [.aq nz j])] (.bp [y,iv 0]):=by
 intro w M vs hM hg hx;have r0:=bx.start (GL:=aG) w M hM hg;have hh:hp []=pb:=by funext b;simp[hp,pb]
 rw[←hh]at r0;have d0:=Y5 hx (n:=62) (by simp);refine calls_of_wp_defers Go.Proofs.Tryz.func132 Xer ?_;rw[n81];rw[←QdX]at hw;have e0:(NI prog).er=mz prog (Jh prog):=YQ _ _;have e1:(O4 prog).er=mz prog (IZ prog):=YQ _ _;have e2:(Ov prog).er=mz prog (IC prog):=YQ _ _;have e3:(N7 prog).er=mz prog (Ib prog):=YQ _ _;refine Nf (e0▸JE) r0 d0 (piece (NI prog) Qes hw) (λg1 ρ1 σ1 a1 w1 l1 r1 d1 PB=>?_) (λ_ _ _ h=>h) (λ_ _ _ _ _ _ _ _ h=>zDK h);refine Nf (e1▸JF) r1 d1 (piece (O4 prog) Zet PB) (λg2 ρ2 σ2 a2 w2 l2 r2 d2 hw2=>?_) (λ_ _ _ h=>h) (λ_ _ _ _ _ _ _ _ h=>zDK h);refine Nf (e2▸JG) r2 d2 (piece (Ov prog) Yet hw2) (λg9993 ρ3 σ3 a3 w3 l3 r3 d3 hw3=>?_) (λ_ _ _ h=>h) (λ_ _ _ _ _ _ _ _ h=>zDK h);refine Nf (e3▸JH) r3 d3 (piece (N7 prog) Xet hw3) (λg9994 ρ4 σ4 a4 w4 l4 r4 d4 hw4=>?_) (λ_ _ _ h=>h) (λ_ _ _ _ _ _ _ _ h=>zDK h);obtain⟨hv,z,hσ⟩:=hw4;subst hσ;simp only[iH,zCL,and_true]at hv;obtain⟨q0,q1,q3,q6,q8,q9⟩:=hv;have d5:cX 62 g9994 [(0,.aq bk 0),(1,.aq st 0),(3,.iface ty (.agg [.aq nz j])),(6,.ak 0 0),(8,.ak 1 0),(9,.ak 2 0)] a4:=d4.dP (G6.le ⟨q0,q1,q3,q6,q8,q9,trivial⟩);clear d4;have le4:=((l1.trans l2).trans l3).trans l4;have k8:g9994.den (.ak 1 0) (a4.tmps.getD 8 undef):=d5.slot 8;have k9:g9994.den (.ak 2 0) (a4.tmps.getD 9 undef):=d5.slot 9;generalize hp8:a4.tmps.getD 8 undef=p8 at k8;generalize hp9:a4.tmps.getD 9 undef=p9 at k9;refine wp_seq (wp_region ?_);rw[Mb,show zAB 2=[0,1] from rfl];refine P_ NK.1 NK.2.2.2 ?_;unfold zEA;have hmf:∀(fn:Fn) (first cap:Array Value) (w:World),(Instr.makeFunc fn first cap).run prog w=.ok (.func fn first cap) w:=λ_ _ _ _=>rfl;have Wg:(execOp a4.eval (kK ta 0 prog)).run prog w4=.ok (.value (.func (.func 179) #[] #[p8,p9])) w4:=by
  simp_all [execOp,Act.eval,NK]
 rw[Wg,Oper.upon_value,NK.2.2.1];have UB:g9994.den (.func (.func 179) [] [.ak 1 0,.ak 2 0]) (.func (.func 179) #[] #[p8,p9]):=by
  refine .func _ _ _ _ _ _ rfl rfl (by simp) (λi x u e1 e2=>?_)
  match i with
  |0=>simp at e1 e2;subst e1;subst e2;exact k8
  |1=>simp at e1 e2;subst e1;subst e2;exact k9
  |i+2=>simp at e1
 have d6:=d5.put (d:=54) (by decide) UB;generalize Uv:a4.put (some 54) (.func (.func 179) #[] #[p8,p9])=a5 at d6 ⊢;have h54:a5.tmps.getD 54 undef=.func (.func 179) #[] #[p8,p9]:=by
  rw[←Uv];have eN:=d5.size;simp[zDb,Array.getD,eN]
 refine P_ O5.1 O5.2.2.2 ?_;unfold zEA;have ct:(execOp a5.eval (kK ta 1 prog)).run prog w4=.ok (.defer { target:=.fn (.func 179) #[p8,p9],args:=#[] }) w4:=by
  grind [execOp,resolve,Act.eval,Deferred.ofValue,O5,zAA]
 rw[ct,Oper.upon_defer,O5.2.2.1];have U0:({ a5 with defers:={ target:=.fn (.func 179) #[p8,p9],args:=#[] }::a5.defers }:Act).put none undef=mT [{ target:=.fn (.func 179) #[p8,p9],args:=#[] }] a5:=by
  simp[zDb,mT,d6.defers]
 rw[U0];show wpOps prog (ta prog) _ [] _ w4;simp only[wpOps];refine wp_seq (wp_region ?_);rw[Mc,show zAB 9=zBI 0 6++(6::zBI 7 2) from rfl];have VQ:jD VV (HG prog) [(54,.func (.func 179) [] [.ak 1 0,.ak 2 0]),(0,.aq bk 0),(1,.aq st 0),(3,.iface ty (.agg [.aq nz j])),(6,.ak 0 0),(8,.ak 1 0),(9,.ak 2 0)] [.box [iv sd,iv tg],.box [.dw],.box [iv 0],.box z]
   (λρ σ=>iH ρ [55,60,8,9]=[.iface ty (.agg [.aq nz j]),.ak 4 0,.ak 1 0,.ak 2 0]∧σ=[.box [iv sd,iv tg],.box [.dw],.box [iv 0],.box z,.box [.aq bk 0,.aq st 0,iv sd,iv tg]]):=by
  have:=d9a (.aq bk 0) (.aq st 0) (.iface ty (.agg [.aq nz j])) (.ak 0 0) (.ak 1 0) (.ak 2 0) (.func (.func 179) [] [.ak 1 0,.ak 2 0]) Prop VV [.box [iv sd,iv tg],.box [.dw],.box [iv 0],.box z]
   (λvs σ=>vs=[.iface ty (.agg [.aq nz j]),.ak 4 0,.ak 1 0,.ak 2 0]∧σ=[.box [iv sd,iv tg],.box [.dw],.box [iv 0],.box z,.box [.aq bk 0,.aq st 0,iv sd,iv tg]])
  rw[this];exact Za (ld (row:=[iv sd,iv tg]) rfl rfl) (Za rfl (Yd rfl rfl ⟨rfl,rfl⟩))
 have VR:=XR (zx prog aG) (fl:=false) (lg:=[]) (λe=>by cases e) VQ;have hlen:zBI 0 6=zBI 0 (HG prog).length:=by rw[Zdu]
 rw[hlen];refine RQ (P:=prog) (Q:=λe a w'=>e=.normal∧yZ aG w ⟨[],M⟩ 62 g9994 (λρ σ _=>iH ρ [55,60,8,9]=[.iface ty (.agg [.aq nz j]),.ak 4 0,.ak 1 0,.ak 2 0]∧σ=[.box [iv sd,iv tg],.box [.dw],.box [iv 0],.box z,.box [.aq bk 0,.aq st 0,iv sd,iv tg]]) a w') _ _ (λa6 w6 hq=>?_) (λe a w cU hq=>(cU hq.1).elim) _ a5 w4
  (NS _ _ (HG prog) 0 _ _ [] g9994 a5 w4 YeD VR r4 d6 (λa' w' hl=>⟨rfl,?_⟩))
 ·obtain⟨_,g9995,ρ5,σ5,lg5,l5,r5,d5',hv5,VG⟩:=hq;subst VG;simp only[iH,zCL,and_true]at hv5;obtain⟨q55,q60,q8',q9'⟩:=hv5;have d7:cX 62 g9995 [(55,.iface ty (.agg [.aq nz j])),(60,.ak 4 0),(8,.ak 1 0),(9,.ak 2 0)] a6:=d5'.dP (G6.le ⟨q55,q60,q8',q9',trivial⟩);refine P_ Ow.1 Ow.2.2.2 ?_;unfold zEA;rw[SD];have k55:=d7.slot 55;have k60:=d7.slot 60;simp only[bN]at k55 k60;obtain⟨ts,im⟩:=Ow.2.1;generalize Vm:a6.tmps.getD 55 undef=p55 at k55;generalize Vn:a6.tmps.getD 60 undef=p60 at k60;have VL:g9995.den (.iface ty (.agg [.aq nz j])) p55:=k55;have VM:g9995.den (.ak 4 0) p60:=k60;cases VL with
  |iface _ _ _ vv Ls=>
  have e60:a6.eval (.tmp 60)=p60:=Vn;have Wh:(execOp a6.eval (kK qd 6 prog)).run prog w6=.ok (.enter fn #[vv,p60]) w6:=by
   have e55:a6.eval (.tmp 55)=.iface ty vv:=Vm;simp only[execOp,im,resolve,e55,Sem.run_bind,zAA,Result.andThen_ok,invoke];simp_all
  rw[Wh,Oper.upon_enter];have mR:Xy [.box [iv sd,iv tg],.box [.dw],.box [iv 0],.box z,.box [.aq bk 0,.aq st 0,iv sd,iv tg]] 1000 [.agg [.aq nz j],.ak 4 0]=some ([.agg [.aq nz j],.aq [.aq bk 0,.aq st 0,iv sd,iv tg] 0],[4]):=rfl;have ac:=h289.qE (X4 _ _ _ _ mR _ (λ_ q=>q)) hyf;refine zDO (ac w ⟨[],M⟩ g9995 _ w6 [vv,p60] r5 ⟨Ls,VM,trivial⟩ (λ_ _=>rfl) (λ_ h=>by cases h)) ?_;rintro e w7 ⟨u,rfl,g9996,l6,r6,hu⟩;show wpOps prog (qd prog) _ (zBI 7 2) ((mT _ a6).put (kK qd 6 prog).dst u) w7;rw[Ow.2.2.1,CK];have d8:=(d7.mono l6).put (d:=61) (by decide) hu;have VS:jD VV (HH prog) [(61,y),(55,.iface ty (.agg [.aq nz j])),(60,.ak 4 0),(8,.ak 1 0),(9,.ak 2 0)] [.box [iv sd,iv tg],.box [.dw],.box [iv 0],.box z,.box [.aq bk 0,.aq st 0,iv sd,iv tg]]
    (λρ σ=>iH ρ [8,9]=[.ak 1 0,.ak 2 0]∧σ=[.box [iv sd,iv tg],.box [y],.box [iv 0],.box z,.box [.aq bk 0,.aq st 0,iv sd,iv tg]]):=by
   have:=d9b (.iface ty (.agg [.aq nz j])) (.ak 4 0) (.ak 1 0) (.ak 2 0) y Prop VV [.box [iv sd,iv tg],.box [.dw],.box [iv 0],.box z,.box [.aq bk 0,.aq st 0,iv sd,iv tg]]
    (λvs σ=>vs=[.ak 1 0,.ak 2 0]∧σ=[.box [iv sd,iv tg],.box [y],.box [iv 0],.box z,.box [.aq bk 0,.aq st 0,iv sd,iv tg]])
   rw[this];exact Yd (c8 (row:=[.dw]) rfl hyc rfl rfl) rfl (Yd (v:=.aQ) (up:=[(2,.box [iv 0])]) (rd:=[]) rfl rfl ⟨rfl,rfl⟩)
  have VT:=XR (zx prog aG) (fl:=false) (lg:=[]) (λe=>by cases e) VS;rw[show zBI 7 2=zBI 7 (HH prog).length++[] by rw[Ydu];rfl];refine RQ (P:=prog) (Q:=λe a w'=>e=.normal∧yZ aG w ⟨[],M⟩ 62 g9996 (λρ σ _=>iH ρ [8,9]=[.ak 1 0,.ak 2 0]∧σ=[.box [iv sd,iv tg],.box [y],.box [iv 0],.box z,.box [.aq bk 0,.aq st 0,iv sd,iv tg]]) a w') _ _ (λa8 w8 hq=>?_) (λe a w cU hq=>(cU hq.1).elim) _ _ w7
   (NS _ _ (HH prog) 7 _ _ [] g9996 _ w7 XeD VT r6 d8 (λa' w' hl=>⟨rfl,?_⟩))
  ·obtain⟨_,g9997,ρ7,σ7,lg7,l7,r7,d9,hv7,VH⟩:=hq;subst VH;simp only[iH,zCL,and_true]at hv7;simp only[wpOps];refine wp_ret ?_;show Leaves prog Go.Proofs.Tryz.f132 a8.tmps _ (a8.defers++[{ target:=.fn (.func 179) #[p8,p9],args:=#[] }]) .returning w8;rw[d9.defers];refine leaves_cons (f:=179) (args:=#[p8,p9]) (by simp) (by rfl) ((Aq p8 p9 w8).mono ?_);rintro e u' w9 ⟨rfl,rfl,rfl⟩;have oU:iK [.c 8 false 1,.c 9 false 1] ρ7 [.box [iv sd,iv tg],.box [y],.box [iv 0],.box z,.box [.aq bk 0,.aq st 0,iv sd,iv tg]]=some (.bp [y,iv 0]):=by
    simp_all [iK,pe,sy,pY]
   obtain⟨uo,HA,Pr⟩:=GV (P:=prog) r7 d9 r81 oU;refine⟨uo,HA,uo,rfl,r7.keeps,g9997.M,?_,r7.aZ,λb o e=>?_,Den.ro Pr (by simp[aa.ro,gh,hyr]) _⟩
   ·exact(le4.trans (l5.trans (l6.trans l7))).m
   ·rcases r7.src b o e with q|q|q<;>grind
  ·obtain⟨g',ρ',σ',jP,k1,k2,k3,k4,_⟩:=hl;exact⟨g',ρ',σ',jP,k1,k2,k3,k4⟩
 ·obtain⟨g',ρ',σ',jP,k1,k2,k3,k4,_⟩:=hl;exact⟨g',ρ',σ',jP,k1,k2,k3,k4⟩
theorem c81(b:Bk)(hf:ba b=true)(bW:Yg b.aj)(s:St)(hs:aY 1000000000 s)(hm:aL (bu b).1 b s true=true)(sd tg:Int)(h0:0<=sd)(h1:sd<=1)(nz:List aa)(j:Nat)(n:Int)
 (h289:PC 260 [.agg [.aq nz j],.aq [.aq (cq b) 0,.aq (aF s) 0,iv sd,iv tg] 0] (.iface 3 (iv n))) :
  PC 132 [.aq (cq b) 0,.aq (aF s) 0,.agg [iv sd,iv tg],.iface 209 (.agg [.aq nz j])] (.bp [.iface 3 (iv n),iv 0]):=
 JD (cq b) (aF s) sd tg 209 260 nz j (.iface 3 (iv n)) rfl rfl rfl C0 (ZbL b hf bW s hs hm sd tg h0 h1 (.iface 209 (.agg [.aq nz j])) λz=>⟨rfl,z,rfl⟩) h289
theorem T1(b:Bk)(hf:ba b=true)(bW:Yg b.aj)(s:St)(hs:aY 1000000000 s)(hm:aL (bu b).1 b s true=true)(sd tg:Int)(h0:0<=sd)(h1:sd<=1)(nz:List aa)(j:Nat)(q:Bool)
 (h289:PC 279 [.agg [.aq nz j],.aq [.aq (cq b) 0,.aq (aF s) 0,iv sd,iv tg] 0] (.iface 4 (.bool q))) :
  PC 132 [.aq (cq b) 0,.aq (aF s) 0,.agg [iv sd,iv tg],.iface 213 (.agg [.aq nz j])] (.bp [.iface 4 (.bool q),iv 0]):=
 JD (cq b) (aF s) sd tg 213 279 nz j (.iface 4 (.bool q)) rfl rfl rfl C1 (ZbL b hf bW s hs hm sd tg h0 h1 (.iface 213 (.agg [.aq nz j])) λz=>⟨rfl,z,rfl⟩) h289
attribute [local irreducible] aE.rd aE.pu aE.wr aE.dr aE.gr aE.gw aE.gl aE.gd aE.opt cP W
def pz(n:Int):Int:=min (max n (-1000000)) 1000000
theorem c290(n:Int):PC 261 [iv n] (iv (pz n)):=by
 refine Xa hP g261.ok rfl rfl ?_;rw[H1.e];unfold g261;dsimp only;exact ay rfl
@[reducible] def asR(b:Bk)(s:St)(sd tg:Int):List aa:=[.aq (cq b) 0,.aq (aF s) 0,iv sd,iv tg]
@[reducible] def ry(b:Bk)(s:St)(sd tg:Int):aa:=.aq (asR b s sd tg) 0
def bJ(sd who:Int):Int:=if who=1 then 1-sd else sd
theorem c295(b:Bk)(s:St)(sd tg who:Int)(h0:0<=sd)(h1:sd<=1):PC 266 [ry b s sd tg,aO who] (.aq (aF s) (bif bJ sd who==0 then 7 else 15)):=by
 have hs:sd=0∨sd=1:=by omega
 refine Xa hP g266.ok rfl rfl ?_;rw[H2.e];unfold g266;dsimp only;refine Za (Zt ..) (Ya (λh=>?_) (λh=>?_))
 ·have h:who=1:=by simpa using h
  subst h;rcases hs with rfl|rfl
  ·refine ay ?_;rfl
  ·refine ay ?_;rfl
 ·have h:who≠1:=by simpa using h
  rcases hs with rfl|rfl
  ·refine ay ?_;simp[bJ,h]
  ·refine ay ?_;simp[bJ,h]
def iT(s:St)(k:Int):Sd:=if k=0 then s.s0 else s.s1
variable{sd tg fu:Int}
theorem I6{who:Int}(h0:0<=sd)(h1:sd<=1):bJ sd who=0∨bJ sd who=1:=by unfold bJ;split<;>omega
theorem c293(row:List aa)(j:Nat)(x:Nm)(hx:nB row j x):PC 264 [.aq row j] (iv x.n):=by
 refine Xa hP g264.ok rfl rfl ?_;rw[H1.e];unfold g264;dsimp only;exact Za rfl (Za rfl (Za (bB hx.h1) rfl))
theorem c294(b:Bk)(s:St)(sd tg:Int)(h0:0<=sd)(h1:sd<=1)(row:List aa)(j:Nat)(x:Nm)(hx:nB row j x):PC 265 [.aq row j,.aq [ry b s sd tg] 0] (iv (iT s (bJ sd x.who)).aX):=by
 refine Xa hP g265.ok rfl rfl ?_;rw[H2.e];unfold g265;dsimp only;refine ay (Xf (bB hx.h2) rfl (i_ (c295 b s sd tg x.who h0 h1) g266.ok ?_));rcases I6 (who:=x.who) h0 h1 with h|h
 ·rw[h];exact ay rfl
 ·rw[h];exact ay rfl
theorem c296(b:Bk)(s:St)(sd tg:Int)(h0:0<=sd)(h1:sd<=1)(row:List aa)(j:Nat)(x:Nm)(hx:nB row j x):PC 267 [.aq row j,.aq [ry b s sd tg] 0] (iv (iT s (bJ sd x.who)).hand.length):=by
 refine Xa hP g267.ok rfl rfl ?_;rw[H2.e];unfold g267;dsimp only;refine ay (Xf (bB hx.h2) rfl (i_ (c295 b s sd tg x.who h0 h1) g266.ok ?_));rcases I6 (who:=x.who) h0 h1 with h|h
 ·rw[h];refine Zi rfl (Zi rfl (Xf (v:=aP s.s0.hand) (bB (row:=aF s) rfl) rfl (Zi (v:=iv s.s0.hand.length) (by simp[Yn]) (Qv (by kernel_rfl) rfl))))
 ·rw[h];refine Zi rfl (Zi rfl (Xf (v:=aP s.s1.hand) (bB (row:=aF s) rfl) rfl (Zi (v:=iv s.s1.hand.length) (by simp[Yn]) (Qv (by kernel_rfl) rfl))))
theorem c297(b:Bk)(s:St)(sd tg:Int)(h0:0<=sd)(h1:sd<=1)(row:List aa)(j:Nat)(x:Nm)(hx:nB row j x):PC 268 [.aq row j,.aq [ry b s sd tg] 0] (iv (iT s (bJ sd x.who)).az.length):=by
 refine Xa hP g268.ok rfl rfl ?_;rw[H2.e];unfold g268;dsimp only;refine ay (Xf (bB hx.h2) rfl (i_ (c295 b s sd tg x.who h0 h1) g266.ok ?_));rcases I6 (who:=x.who) h0 h1 with h|h
 ·rw[h];refine Zi rfl (Zi rfl (Xf (v:=aP s.s0.az) (bB (row:=aF s) rfl) rfl (Zi (v:=iv s.s0.az.length) (by simp[Yn]) (Qv (by kernel_rfl) rfl))))
 ·rw[h];refine Zi rfl (Zi rfl (Xf (v:=aP s.s1.az) (bB (row:=aF s) rfl) rfl (Zi (v:=iv s.s1.az.length) (by simp[Yn]) (Qv (by kernel_rfl) rfl))))
theorem c298(b:Bk)(s:St)(sd tg:Int)(h0:0<=sd)(h1:sd<=1)(row:List aa)(j:Nat)(x:Nm)(hx:nB row j x):PC 269 [.aq row j,.aq [ry b s sd tg] 0] (iv (iT s (bJ sd x.who)).af.length):=by
 refine Xa hP g269.ok rfl rfl ?_;rw[H2.e];unfold g269;dsimp only;refine ay (Xf (bB hx.h2) rfl (i_ (c295 b s sd tg x.who h0 h1) g266.ok ?_));rcases I6 (who:=x.who) h0 h1 with h|h
 ·rw[h];refine Zi rfl (Zi rfl (Xf (v:=gS s.s0.af) (bB (row:=aF s) rfl) rfl (Zi (v:=iv s.s0.af.length) (by simp[Yn]) (Qv (by kernel_rfl) rfl))))
 ·rw[h];refine Zi rfl (Zi rfl (Xf (v:=gS s.s1.af) (bB (row:=aF s) rfl) rfl (Zi (v:=iv s.s1.af.length) (by simp[Yn]) (Qv (by kernel_rfl) rfl))))
theorem c299(b:Bk)(s:St)(sd tg:Int)(h0:0<=sd)(h1:sd<=1)(y:aa):PC 270 [y,.aq [ry b s sd tg] 0] (iv (iT s sd).aU):=by
 refine Xa hP g270.ok rfl rfl ?_;rw[H2.e];unfold g270;dsimp only;refine ay (a_ (c295 b s sd tg 0 h0 h1) g266.ok ?_);have hs:sd=0∨sd=1:=by omega
 rcases hs with rfl|rfl
 ·exact ay rfl
 ·exact ay rfl
def tX(b:Bk)(d:Sd):Int:=match d.az with
 |[]=>0
 |c::_=>match b.aj[c.toNat]? with
  |some k=>k.cost
  |none=>0
theorem c300(b:Bk)(s:St)(sd tg:Int)(h0:0<=sd)(h1:sd<=1)(hd:∀c∈(iT s sd).az,0<=c∧c.toNat<b.aj.length)(y:aa):PC 271 [y,.aq [ry b s sd tg] 0] (iv (tX b (iT s sd))):=by
 refine Xa hP g271.ok rfl rfl ?_;rw[H2.e];unfold g271;dsimp only;refine ay ?_;refine a_ (c295 b s sd tg 0 h0 h1) g266.ok ?_;have go:∀(j:Nat),aK false (j+3) 1 (aF s)=some (aP (iT s sd).az)→∀t:aa,t=.aq (aF s) j →
   VV.rd (Ql [t] []) λWz=>
   VV.rd (Zc 3 [Wz] []) λWB=>
   VV.rd (Qe false 1 [WB] []) λMP=>
   VV.rd (Yn [MP] []) λMn=>
   VV.rd (Zn .gtr false [Mn,(.int .i64 0)] []) λMq=>
   VV.test Mq (
   VV.rd (Qe false 1 [.aq [ry b s sd tg] 0] []) λMv=>
   VV.rd (Ql [Mv] []) λMz=>
   VV.rd (Zc 0 [Mz] []) λME=>
   VV.rd (Qe false 1 [ME] []) λD9=>
   VV.rd (Ql [D9] []) λD'=>
   VV.rd (Zc 0 [D'] []) λEa=>
   VV.rd (Qe false 1 [Ea] []) λEc=>
   VV.rd (Xi 1 [MP,(.int .i64 0)] []) λEg=>
   VV.rd (Qe false 1 [Eg] []) λEi=>
   VV.rd (Xi 12 [Ec,Ei] []) λtN=>
   VV.rd (Zc 2 [tN] []) λEl=>
   VV.rd (Qe false 1 [El] []) λEo=>
   Eo=iv (tX b (iT s sd))) (
   (aa.int .i64 0)=iv (tX b (iT s sd))):=by
  rintro j hj t rfl;refine Za rfl (Za rfl (Za (bB hj) (Za (v:=iv (iT s sd).az.length) (rd:=[]) (by simp[Yn]) (Za rfl ?_))));cases rL:(iT s sd).az with
  |nil=>refine Ya (λh=>by simp at h) (λ_=>?_);simp[tX,rL]
  |cons c l=>
   obtain⟨q1,q2⟩:=hd c (by rw[rL];simp);refine Ya (λ_=>?_) (λh=>by simp at h);refine ay ?_;refine Za (s_ _ cN _ _ _ b.aj _ c q1 q2) ?_;refine ax ?_;simp[tX,rL,q2]
 have hs:sd=0∨sd=1:=by omega
 rcases hs with rfl|rfl
 ·exact go 7 rfl _ rfl
 ·exact go 15 rfl _ rfl
def SU(b:Bk)(s:St)(sd tg op n who:Int):Int:=
 if op=0 then n else if op=1 then (iT s (bJ sd who)).aX else if op=2 then (iT s (bJ sd who)).hand.length else if op=3 then (iT s (bJ sd who)).az.length
 else if op=4 then (iT s (bJ sd who)).af.length else if op=5 then (iT s sd).aU else if op=6 then tX b (iT s sd)else (mB b s tg).1
def vZ(op y z:Int):Int:=if op=8 then y+z else if op=9 then y-z else if op=10 then y*z else if op=11 then min y z else max y z
def ue(op:Int):List Int→Int
 |y::z::_=>vZ op y z
 |_=>0
mutual
def dT (b:Bk) (s:St) (sd tg:Int):Nm→Int
 |.mk op n who kids=>pz (if op<8 then SU b s sd tg op n who else ue op (kJ b s sd tg kids))
def kJ (b:Bk) (s:St) (sd tg:Int):List Nm→List Int
 |[]=>[]
 |x::l=>dT b s sd tg x::kJ b s sd tg l
end
theorem SN(b:Bk)(s:St)(sd tg:Int)(x:Nm):dT b s sd tg x=pz (if x.op<8 then SU b s sd tg x.op x.n x.who else ue x.op (kJ b s sd tg x.kids)):=by cases x;rfl
theorem Zes(n:Int):-1000000<=pz n∧pz n<=1000000:=by unfold pz;omega
theorem GD(b:Bk)(s:St)(sd tg:Int)(x:Nm):-1000000<=dT b s sd tg x∧dT b s sd tg x<=1000000:=by rw[SN];exact Zes _
theorem c302(y z:Int)(hy:-1000000<=y∧y<=1000000)(hz:-1000000<=z∧z<=1000000):PC 274 [iv y,iv z] (iv (y+z)):=by
 refine Xa hP g274.ok rfl rfl ?_;rw[H2.e];unfold g274;dsimp only;refine Za rfl ?_;rw[bw (by omega) (by omega)]
theorem c303(y z:Int)(hy:-1000000<=y∧y<=1000000)(hz:-1000000<=z∧z<=1000000):PC 275 [iv y,iv z] (iv (y-z)):=by
 refine Xa hP g275.ok rfl rfl ?_;rw[H2.e];unfold g275;dsimp only;refine Za rfl ?_;rw[bw (by omega) (by omega)]
theorem Qd7{y z:Int}(hy:-1000000<=y∧y<=1000000)(hz:-1000000<=z∧z<=1000000):-1000000000000<=y*z∧y*z<=1000000000000:=by
 have h1:(y*z).natAbs<=1000000*1000000:=by rw[Int.natAbs_mul];exact Nat.mul_le_mul (by omega) (by omega)
 omega
theorem c304(y z:Int)(hy:-1000000<=y∧y<=1000000)(hz:-1000000<=z∧z<=1000000):PC 276 [iv y,iv z] (iv (y*z)):=by
 refine Xa hP g276.ok rfl rfl ?_;rw[H2.e];unfold g276;dsimp only;refine Za rfl ?_;have:=Qd7 hy hz;rw[bw (by omega) (by omega)]
theorem c305(y z:Int):PC 277 [iv y,iv z] (iv (min y z)):=by
 refine Xa hP g277.ok rfl rfl ?_;rw[H2.e];unfold g277;dsimp only;exact Za (XV ..) rfl
theorem c306(y z:Int):PC 278 [iv y,iv z] (iv (max y z)):=by
 refine Xa hP g278.ok rfl rfl ?_;rw[H2.e];unfold g278;dsimp only;exact Za (vT ..) rfl
theorem c301(b:Bk)(hf:ba b=true)(bW:Yg b.aj)(s:St)(hs:aY 1000000000 s)(hm:aL (bu b).1 b s true=true)(sd tg:Int)(y:aa):PC 272 [y,.aq [ry b s sd tg] 0] (iv (mB b s tg).1):=by
 refine Xa hP g272.ok rfl rfl ?_;rw[H2.e];unfold g272;dsimp only;refine ay (i_ (c54 b hf bW s hs hm tg) g273.ok ?_);exact ay rfl
@[reducible] def ti(b:Bk)(s:St)(sd tg:Int):aa:=.aq [ry b s sd tg] 0
@[reducible] def clA(b:Bk)(s:St)(sd tg:Int):aa:=.agg [.func (.func 264) [] [],.func (.func 265) [] [ti b s sd tg],.func (.func 267) [] [ti b s sd tg],.func (.func 268) [] [ti b s sd tg],.func (.func 269) [] [ti b s sd tg],.func (.func 270) [] [ti b s sd tg],.func (.func 271) [] [ti b s sd tg],.func (.func 272) [] [ti b s sd tg]]
theorem c291(b:Bk)(s:St)(sd tg:Int):PC 262 [ry b s sd tg] (clA b s sd tg):=by
 refine SG hP g262.ok rfl ⟨.agg [.func (.func 264) [] [],.func (.func 265) [] [.ak 0 0],.func (.func 267) [] [.ak 0 0],.func (.func 268) [] [.ak 0 0],.func (.func 269) [] [.ak 0 0],.func (.func 270) [] [.ak 0 0],.func (.func 271) [] [.ak 0 0],.func (.func 272) [] [.ak 0 0]],
  [.box [ry b s sd tg],.box [.func (.func 264) [] [],.func (.func 265) [] [.ak 0 0],.func (.func 267) [] [.ak 0 0],.func (.func 268) [] [.ak 0 0],.func (.func 269) [] [.ak 0 0],.func (.func 270) [] [.ak 0 0],.func (.func 271) [] [.ak 0 0],.func (.func 272) [] [.ak 0 0]]],rfl,?_⟩
 rw[H1.e];unfold g262;dsimp only;refine ay ?_;exact⟨rfl,rfl⟩
@[reducible] def clB:aa:=.agg [.func (.func 274) [] [],.func (.func 275) [] [],.func (.func 276) [] [],.func (.func 277) [] [],.func (.func 278) [] []]
theorem c292:PC 263 [] clB:=by
 refine Xa hP g263.ok rfl rfl ?_;unfold g263;dsimp only[H0.u];exact ay rfl
set_option maxHeartbeats 8000000
theorem pL(b:Bk)(hf:ba b=true)(bW:Yg b.aj)(s:St)(hs:aY 1000000000 s)(hm:aL (bu b).1 b s true=true)(sd tg:Int)(h0:0<=sd)(h1:sd<=1)(hd:∀c∈(iT s sd).az,0<=c∧c.toNat<b.aj.length)(t:Bool) :
  ∀(k:Nat) (x:Nm) (row:List aa) (j:Nat),nB row j x→SizeOf.sizeOf x<=k→c7 x=true→eR t x=true→PC 260 [.agg [.aq row j],ry b s sd tg] (.iface 3 (iv (dT b s sd tg x)))
 |0,x,_,_,_,h,_,_=>by cases x;simp at h
 |k+1,x,row,j,hx,hk,jN,bR=>by
  have ni:=bR;rw[Nv]at ni;simp only[AI]at ni;obtain⟨k1,k2,k3⟩:=ni;simp only[iS,AI,fD]at k1;obtain⟨ka,kb,kc⟩:=k1;refine Xa hP g260.ok rfl rfl ?_;rw[H2.e];unfold g260;dsimp only;refine ay (Za (bB hx.h0) ?_);refine ay (Ya (λh=>?_) (λh=>?_))
  ·have h:x.op<8:=by simpa using h
   have hv:dT b s sd tg x=pz (SU b s sd tg x.op x.n x.who):=by rw[SN,aI h]
   rw[hv];refine i_ (c291 b s sd tg) g262.ok (ay (Xf (bB hx.h0) rfl ?_));have im:x.op=0∨x.op=1∨x.op=2∨x.op=3∨x.op=4∨x.op=5∨x.op=6∨x.op=7:=by omega
   rcases im with e|e|e|e|e|e|e|e<;>rw[e]
   ·refine ay (Xt (c293 row j x hx) rfl g264.ok.plain rfl (i_ (c290 _) g261.ok ?_));exact ay rfl
   ·refine ay (Xt (c294 b s sd tg h0 h1 row j x hx) rfl g265.ok.plain rfl (i_ (c290 _) g261.ok ?_));exact ay rfl
   ·refine ay (Xt (c296 b s sd tg h0 h1 row j x hx) rfl g267.ok.plain rfl (i_ (c290 _) g261.ok ?_));exact ay rfl
   ·refine ay (Xt (c297 b s sd tg h0 h1 row j x hx) rfl g268.ok.plain rfl (i_ (c290 _) g261.ok ?_));exact ay rfl
   ·refine ay (Xt (c298 b s sd tg h0 h1 row j x hx) rfl g269.ok.plain rfl (i_ (c290 _) g261.ok ?_));exact ay rfl
   ·refine ay (Xt (c299 b s sd tg h0 h1 _) rfl g270.ok.plain rfl (i_ (c290 _) g261.ok ?_));exact ay rfl
   ·refine ay (Xt (c300 b s sd tg h0 h1 hd _) rfl g271.ok.plain rfl (i_ (c290 _) g261.ok ?_));exact ay rfl
   ·refine ay (Xt (c301 b hf bW s hs hm sd tg _) rfl g272.ok.plain rfl (i_ (c290 _) g261.ok ?_));exact ay rfl
  ·have h:¬x.op<8:=by simpa using h
   have hl:x.kids.length=2:=by rw[kc];simp[xC];omega
   have Hx:x.kids[0]∈x.kids:=AT (by omega);have U':x.kids[1]∈x.kids:=AT (by omega);have hks:∀y∈x.kids,eR t y=true:=by
    have:∀l:List Nm,cA t l=true→∀y∈l,eR t y=true:=by
     intro l
     induction l with
     |nil=>intro _ y hy;simp at hy
     |cons a l ih=>
      intro hh y hy;simp only[cA,AI]at hh;simp only[zAS]at hy;rcases hy with rfl|hy
      ·exact hh.1
      ·exact ih hh.2 y hy
    exact this _ k2
   have hv:dT b s sd tg x=pz (vZ x.op (dT b s sd tg x.kids[0]) (dT b s sd tg x.kids[1])):=by
    rw[SN,aB h];have wY:x.kids=[x.kids[0],x.kids[1]]:=by
     apply List.ext_getElem (by simp[hl]);intro i h1 h2;have:i=0∨i=1:=by simp at h2;omega
     rcases this with rfl|rfl<;>rfl
    conv=>lhs;rw[wY]
    simp[kJ,ue]
   rw[hv];have r0:=pL b hf bW s hs hm sd tg h0 h1 hd t k x.kids[0] (dd x.kids[0]) 0 (qG _) (by have:=Bf Hx;omega) (Y0 jN Hx) (hks _ Hx);have r1:=pL b hf bW s hs hm sd tg h0 h1 hd t k x.kids[1] (dd x.kids[1]) 0 (qG _) (by have:=Bf U';omega) (Y0 jN U') (hks _ U');have b0:=GD b s sd tg x.kids[0];have b1:=GD b s sd tg x.kids[1];refine ay (Za (bB hx.h3) (Za (Ym _ dd _ _ _ x.kids _ 0 (by omega)) (Za rfl (a_ r0 g260.ok ?_))));refine ay (Za (bB hx.h3) (Za (Ym _ dd _ _ _ x.kids _ 1 (by omega)) (Za rfl (a_ r1 g260.ok (Za rfl ?_)))));refine i_ c292 g263.ok (ay (Xf (bB hx.h0) rfl ?_));have im:x.op=8∨x.op=9∨x.op=10∨x.op=11∨x.op=12:=by omega
   rcases im with e|e|e|e|e<;>rw[e]
   ·refine Zi rfl (Zi rfl (Xt (c302 _ _ b0 b1) rfl g274.ok.plain rfl (i_ (c290 _) g261.ok ?_)));exact ay rfl
   ·refine Zi rfl (Zi rfl (Xt (c303 _ _ b0 b1) rfl g275.ok.plain rfl (i_ (c290 _) g261.ok ?_)));exact ay rfl
   ·refine Zi rfl (Zi rfl (Xt (c304 _ _ b0 b1) rfl g276.ok.plain rfl (i_ (c290 _) g261.ok ?_)));exact ay rfl
   ·refine Zi rfl (Zi rfl (Xt (c305 _ _) rfl g277.ok.plain rfl (i_ (c290 _) g261.ok ?_)));exact ay rfl
   ·refine Zi rfl (Zi rfl (Xt (c306 _ _) rfl g278.ok.plain rfl (i_ (c290 _) g261.ok ?_)));exact ay rfl
theorem c125(cs:List Cd)(hf:QG cs=true)(l:List Ef)(hl:bF l=true):PC 180 [iM cs,gZ l] (.bool (bE cs true 1 l)):=by
 simp only[QG,AI,fD]at hf;obtain⟨f0,f1⟩:=hf;rw[c9]at f0;refine Xa hP g180.ok rfl rfl ?_;rw[H2.e];unfold g180;dsimp only;refine ay ?_;refine Xg (ι:=Nat) (λi vs σ=>∃m,vs=[iv i]∧ai σ 0=.map (jv m)∧0<σ.length∧i<=cs.length∧ig m (cs.take i)) (λi=>cs.length-i) 0 ⟨[],rfl,rfl,by simp,by omega,λt=>by simp[cy,lf]⟩ ?_;rintro i vs σ again ⟨m,rfl,hm,jr,hi,hu⟩ bj;refine Za rfl (Ya (λh=>?_) (λh=>?_))
 ·have qp:i<cs.length:=by simpa using h
  have cB:=λ(s:List ab)=>Ym s cN false false 12 cs .i64 i qp;have lq:cs.take (i+1)=cs.take i++[cs[i]]:=Yu cs i qp;generalize cs[i]=c at cB lq;refine Qg λk10 rR=>?_;have kk:∀m' σ',ig m' (cs.take i++[c])→ai σ' 0=.map (jv m')→0<σ'.length→k10 [] σ':=by
   intro m' σ' q1 q3 q4;rw[rR];refine Za (Xj ..) ?_;rw[Xc (n:=i) (by omega)];exact bj (i+1) _ _ (by omega) ⟨m',rfl,q3,q4,by omega,by rw[lq];exact q1⟩
  clear rR bj;refine Za (cB _) (Za (bB (qg _)) (Zv (row:=cN c) (row':=cN c) rfl rfl rfl ?_));have dM:=Yc σ (ab.box (cN c));have nM:ai (σ++[ab.box (cN c)]) 0=.map (jv m):=Qb _ hm;have ml:0<(σ++[ab.box (cN c)]).length:=by simp
  generalize σ++[ab.box (cN c)]=base at dM nM ml ⊢;generalize σ.length=b at dM ⊢;refine Za rfl (Za (ld dM rfl) (Za (Zdo nM _) ?_));refine ay (Ya (λh=>?_) (λh=>?_))
  ·have h:(cy c.name m).isSome=false:=by simpa using h
   refine Za rfl (Za (ld dM rfl) (Za rfl (Za (ld dM rfl) (Yd (Hd nM _ _) (Ze _ ml) ?_))));exact kk _ _ (hu.new h) (Zd _ ml) (by simpa using ml)
  ·have h:(cy c.name m).isSome=true:=by simpa using h
   exact kk _ _ (hu.fS h) nM ml
 have h:i=cs.length:=by simp at h;omega
 subst h;rw[zAl]at hu;refine Za rfl (Yd (v:=.ak σ.length 0) (rd:=[]) (up:=[(σ.length,.box [.map 0,.bool true])]) rfl (Ye _ _) ?_);have hB:=Yc σ (ab.box [.map 0,.bool true]);have nM:ai (σ++[ab.box [.map 0,.bool true]]) 0=.map (jv m):=Qb _ hm;refine Xu (rd:=[0,σ.length]) (c157 m cs hu.af true l 1 hl (by omega)) rfl g169.ok.plain (.cons (aA.box (ZR hB) (by simp) (.cons (aA.map (Ii nM) (by simp) (R0 (N0 m))) (bd.ro rfl))) (bd.ro rfl)) rfl ?_;rfl
def T3:Cn:=.mk 0 0 [] [] []
def lh(x:Nm):Ef:=.mk 3 0 x [] T3 [] []
def IU(x:Nm):Cd:=⟨[80,114,111,98,101],false,0,0,0,0,0,0,[lh x],[],[],0⟩
@[reducible] def rJ(x:Nm):List aa:=[aO 3,aO 0,aO x.op,iv x.n,aO x.who,.aW false false 4 (x.kids.map dd),.str [],aO 0,aO 0,.str [],.al,.al,.al,.al]
variable{rd:List Nat}
theorem YdU{h0:Hp}(x:Nm):bd h0 rd (rJ x) (bq (lh x)):=by
 rw[Qr];exact .cons (aA.ro rfl) <| .cons (aA.ro rfl) <| .cons (aA.ro rfl) <| .cons (aA.ro rfl) <| .cons (aA.ro rfl) <| .cons (aA.ro rfl) <| .cons (aA.ro rfl) <| .cons (aA.ro rfl) <| .cons (aA.ro rfl) <| .cons (aA.ro rfl) <|
  .cons (aA.nl 4) <| .cons (aA.nl 5) <| .cons (aA.nl 14) <| .cons (aA.nl 14) .nil
theorem Ydr{h0:Hp}(x:Nm){b:Nat}(hb:h0 b=some (.rows 14 [rJ x]))(dc:b∈rd):aA h0 rd (.sl b 0 1 true) (gZ [lh x]):=by
 refine aA.dP (y:=.aW true false 14 [bq (lh x)]) (aA.sl hb dc (by simp) rfl (λi row row' e1 e2=>?_)) (λM u d=>d.gp)
 match i with
 |0=>simp at e1 e2;subst e1;subst e2;exact YdU x
 |i+1=>simp at e2
theorem YcJ{x:Nm}(h:c7 x=true):bF [lh x]=true:=by
 simp[bF,lh,yr,dW,h,cK,T3,c9,zf,CL,B9]
theorem c82(b:Bk)(hf:ba b=true)(x:Nm)(hx:c7 x=true)(bR:eR true x=true)(hw:mA x<=200):PC 133 [.aq (dd x) 0,.fo,.aq (cq b) 0] (.bool true):=by
 have gH:QG b.aj=true:=by
  simp only[ba,AI]at hf;exact hf.1
 have hlen:((rf x).length:Int)=mA x:=by have:=I0 x;omega
 have Kf:(pM (IU x)).length=1+(rf x).length:=by simp[pM,IU,bz,lh,iG,cw];omega
 have hW:pr (IU x)=1+mA x:=by rw[IB,Kf];omega
 have U6:bE b.aj true 1 [lh x]=true:=by
  simp[bE,bY,yz,lh,Ef.op,Ef.c,Ef.bQ,Ef.bV,Ef.n,Ef.name,Ef.who,cw,bR,fh,T3,iO,pS,Cn.op,Cn.who,Cn.name,Cn.aC,Cn.kids]
 have PB:decide (pr (IU x)-1>200)=false:=gB (by omega);have h124:=c124 (IU x) (YcJ hx) rfl rfl (by rw[Kf];omega);have h125:=c125 b.aj gH [lh x] (YcJ hx);rw[U6]at h125;rw[QA];refine Xa hP g133.ok rfl rfl ?_;rw[H3.e];unfold g133;dsimp only;refine Za rfl (Yd (v:=.ak 0 0) rfl rfl (Yd (v:=.aQ) (rd:=[]) (up:=[(0,.box [aO 3,aO 0,aO 0,iv 0,aO 0,.al,.str [],aO 0,aO 0,.str [],.al,.al,.al,.al])]) rfl rfl (Za rfl (GA (Xh (Za rfl (Za (bB rfl) (Za rfl ?_))))))));refine Yd (v:=.aQ) (rd:=[]) (up:=[(0,.box (rJ x))]) rfl rfl (Za (ld (row:=rJ x) rfl rfl) (Yd (v:=.sl 1 0 1 true) (rd:=[]) (up:=[(1,.rows 14 [rJ x])]) rfl rfl (Za rfl (Yd (v:=.ak 2 0) rfl rfl ?_))));refine Yd (v:=.aQ) (rd:=[]) (up:=[(2,.box [.str [80,114,111,98,101],.bool false,iv 0,iv 0,iv 0,iv 0,iv 0,iv 0,.sl 1 0 1 true,.al,.al,iv 0])]) rfl rfl (Za (ld (row:=[.str [80,114,111,98,101],.bool false,iv 0,iv 0,iv 0,iv 0,iv 0,iv 0,.sl 1 0 1 true,.al,.al,iv 0]) rfl rfl) (Xu (rd:=[1]) h124 rfl g168.ok.plain (.cons (aA.agg ?_) .nil) rfl ?_))
 ·exact .cons (aA.ro rfl) <| .cons (aA.ro rfl) <| .cons (aA.ro rfl) <| .cons (aA.ro rfl) <| .cons (aA.ro rfl) <| .cons (aA.ro rfl) <| .cons (aA.ro rfl) <| .cons (aA.ro rfl) <| .cons (Ydr x rfl (by simp)) <|
   .cons (aA.nl 14) <| .cons (aA.nl 14) <| .cons (aA.ro rfl) .nil
 refine Za (CX ..) ?_;rw[bw (by omega) (by omega)];refine ay ?_;rw[PB];refine ay ?_;exact GY (rd:=[1]) h125 rfl g180.ok.plain (.cons (aA.ro rfl) (.cons (Ydr x rfl (by simp)) .nil)) rfl (Qv (by kernel_rfl) rfl)
variable{b:Bk}
variable{s:St}
theorem Xcc{e:Int}(h:aL e b s false=true):aL e b s true=true:=by
 simp only[aL,AI]at h ⊢;obtain⟨a1,a2,a3,a4,a5,a6,a7,a8,a9,b1,b2,b3,b4,h⟩:=h;refine⟨a1,a2,a3,a4,a5,a6,a7,a8,a9,b1,b2,b3,b4,?_⟩;split at h
 ·rename_i q;rw[aI q];exact h
 ·rename_i q;rw[aB q];simp only[AI]at h ⊢;exact⟨by simp,h.2⟩
def D3:Nm:=.mk 0 0 0 []
theorem kQ:Zh prog 132=true:=by kernel_rfl
theorem c31(b:Bk)(hf:ba b=true)(bW:Yg b.aj)(s:St)(hs:aY 1000000000 s)(hm:aL (bu b).1 b s true=true)(sd tg:Int)(h0:0<=sd)(h1:sd<=1)(hd:∀c∈(iT s sd).az,0<=c∧c.toNat<b.aj.length)
 (x:Nm)(hx:c7 x=true)(bR:eR true x=true)(hw:mA x<=200):PC 90 [cE b,bZ s,.agg [iv sd,iv tg],.agg (dd x)] (.bp [iv (dT b s sd tg x),iv 0]):=by
 have hz:=pL b hf bW s hs hm sd tg h0 h1 hd true _ D3 (dd D3) 0 (qG _) (No _) rfl rfl;have h289:=pL b hf bW s hs hm sd tg h0 h1 hd true _ x (dd x) 0 (qG _) (No _) hx bR;have a0:=c81 b hf bW s hs hm sd tg h0 h1 _ _ _ hz;have a1:=c81 b hf bW s hs hm sd tg h0 h1 _ _ _ h289;have h82:=c82 b hf x hx bR hw;refine Xa hP g90.ok rfl rfl ?_;rw[H4.e];unfold g90;dsimp only;refine ay ?_;refine Yd (v:=.ak 3 0) (rd:=[]) (up:=[(3,.box (dd x))]) (by rw[QA];rfl) rfl ?_;refine ay ?_;have B0:∀ {σ:List ab} {rd:List Nat},ai σ 0=.box (cq b)→0∈rd→aA (hp σ) rd (.ak 0 0) (.aq (cq b) 0):=λh dc=>aA.box (ZR h) dc (bd.ro rfl);have B1:∀ {σ:List ab} {rd:List Nat},ai σ 1=.box (aF s)→1∈rd→aA (hp σ) rd (.ak 1 0) (.aq (aF s) 0):=λh dc=>aA.box (ZR h) dc (bd.ro rfl);have B3:∀ {σ:List ab} {rd:List Nat},ai σ 3=.box (dd x)→3∈rd→aA (hp σ) rd (.ak 3 0) (.aq (dd x) 0):=λh dc=>aA.box (ZR h) dc (bd.ro (by have:=mX x;simpa[gh,aa.ro]using this));refine Xu (rd:=[0,1,4]) a0 rfl kQ (.cons (B0 rfl (by simp)) <| .cons (B1 rfl (by simp)) <| .cons (aA.ro rfl) <| .cons (aA.iface (aA.agg (.cons (aA.box (row:=[aO 0,iv 0,aO 0,.al]) rfl (by simp) ?_) .nil))) .nil) rfl ?_
 ·exact .cons (aA.ro rfl) <| .cons (aA.ro rfl) <| .cons (aA.ro rfl) <| .cons (aA.nl 4) .nil
 refine ay ?_;refine Xu (rd:=[0,3]) h82 rfl g133.ok.plain (.cons (B3 rfl (by simp)) <| .cons (aA.ro rfl) <| .cons (B0 rfl (by simp)) .nil) rfl ?_;refine ay ?_;refine Xu (rd:=[0,1,3]) a1 rfl kQ (.cons (B0 rfl (by simp)) <| .cons (B1 rfl (by simp)) <| .cons (aA.ro rfl) <| .cons (aA.iface (aA.agg (.cons (B3 rfl (by simp)) .nil))) .nil) rfl ?_;refine ay ?_;exact rfl
@[reducible] def dA(b:Bk)(s:St)(sd tg:Int)(lv:aa)(fu:Int)(mv:aa):List aa:=cq b++(aF s++[iv sd,iv tg,lv,iv fu,mv])
@[reducible] def cp(e:Ev)(cv:aa):List aa:=[aO e.kind,iv e.side,iv e.card,iv e.id,iv e.other,iv e.n,cv]
def vN(cv:aa)(l:List Int):Prop:=cv=aP l∨(cv=.al∧l=[])
inductive eY:List (List aa)→List Ev→Prop
 |nil:eY [] []
 |snoc (rows:List (List aa)) (l:List Ev) (e:Ev) (cv:aa):eY rows l→vN cv e.aj→eY (rows++[cp e cv]) (l++[e])
variable{l:List Ev}
theorem eY.len{rows:List (List aa)}(h:eY rows l):rows.length=l.length:=by
 induction h with
 |nil=>rfl
 |snoc _ _ _ _ _ _ ih=>simp[ih]
def LV(rb:Nat)(l:List Ev)(lv:aa)(σ:List ab):Prop:=(l=[]∧lv=.al)∨(l≠[]∧∃c rows,c≠rb∧lv=.sl c 0 l.length false∧ai σ c=.rows 7 rows∧eY rows l)
structure Fr (rb:Nat) (lv cJ:aa) (σ σ':List ab):Prop where
 len:σ.length<=σ'.length
 bU:∀k,k<σ.length→k≠rb→(∀n,lv≠.sl k 0 n false)→ai σ' k=ai σ k
 new:∀k n,cJ=.sl k 0 n false→σ.length<=k∨∃m,lv=.sl k 0 m false
theorem Fr.trans{a b c:aa}{τ υ:List ab}(h:Fr rb a b σ τ)(q:Fr rb b c τ υ):Fr rb a c σ υ:=by
 refine⟨zAX h.len q.len,λk hk hr hn=>?_,λk n e=>?_⟩
 ·rw[q.bU k (zAK hk h.len) hr (λn e=>?_),h.bU k hk hr hn];rcases h.new k n e with h1|⟨m,h1⟩
  ·omega
  ·exact hn m h1
 ·rcases q.new k n e with h1|⟨m,h1⟩
  ·exact .inl (zAX h.len h1)
  ·exact h.new k m h1
variable{lv mv:aa}
theorem Fr.app(l:List ab)(B2:∀k n,lv=.sl k 0 n false→k<σ.length):Fr rb lv lv σ (σ++l):=
 ⟨by simp,λk hk _ _=>Yf l hk,λk n h=>.inr ⟨n,h⟩⟩
theorem Fr.set(lv:aa)(x:ab):Fr rb lv lv σ (σ.set rb x):=
 ⟨by simp,λk hk hr _=>Xb x hk hr,λk n h=>.inr ⟨n,h⟩⟩
theorem LV.lt(h:LV rb l lv σ){k:Nat}(e:lv=.sl k 0 n false):k<σ.length:=by
 rcases h with ⟨_,h⟩|⟨_,c,rows,_,h,hc,_⟩
 ·rw[h]at e;cases e
 ·rw[h]at e;cases e;exact Zb hc
theorem LV.fS{σ':List ab}(h:LV rb l lv σ)(hk:∀k,k<σ.length→k≠rb→ai σ' k=ai σ k):LV rb l lv σ':=by
 rcases h with h|⟨h0,c,rows,h1,h2,hc,h3⟩
 ·exact .inl h
 ·exact .inr ⟨h0,c,rows,h1,h2,by rw[hk c (Zb hc) h1];exact hc,h3⟩
theorem Yew(n by_:Nat){c:Nat}{row:List aa}(hc:ai σ c=.rows n [row])(hr:row.all aa.cell=true)(bH:194*by_<=2 ^ 48) :
  Qf n by_ [.al,.sl c 0 1 true] σ=.ok (.sl σ.length 0 1 false) [c] [(σ.length,.rows n [row])]:=by
 have h1:Zk n σ (.sl c 0 1 true)=some ([row],[c]):=by
  simp only[Zk,hc];simp[cut];rfl
 show YB n by_ σ [] [] (.sl c 0 1 true)=_;unfold YB;simp only[h1,ZT hr];simp;rw[show zAR (194*by_) 281474976710656=true from sh (by simpa using bH)];rfl
theorem N8{e:Ev}{cv:aa}{l:List Int}(nI:vN cv l)(σ:List ab):Xq 7 1 [.int .i8 0,.int .i64 0,.int .i64 0,.int .i64 0,.int .i64 0,.int .i64 0,.al] [(0,7)] [.agg (cp e cv)] σ=.ok (.sl σ.length 0 1 true) [] [(σ.length,.rows 7 [cp e cv])]:=by
 rcases nI with rfl|⟨rfl,_⟩<;>rfl
theorem Zd5{e:Ev}{cv:aa}{l:List Int}(nI:vN cv l)(σ:List ab):ub [.agg (cp e cv)] σ=.ok (.ak σ.length 0) [] [(σ.length,.box (cp e cv))]:=by
 rcases nI with rfl|⟨rfl,_⟩<;>rfl
variable{K:KT}
theorem vB(hr:ai σ rb=.box (dA b s sd tg lv fu mv))(hl:LV rb l lv σ)(hn:l.length<=1000000000)(e:Ev)(cv:aa)(nI:vN cv e.aj)
 (hK:∀σ' cJ,Fr rb lv cJ σ σ'→ai σ' rb=.box (dA b s sd tg cJ fu mv)→LV rb (l++[e]) cJ σ'→K (.bp []) σ'):g126.u VV [.ak rb 0,.agg (cp e cv)] σ K:=by
 have vj:=Zb hr;have kR:(cp e cv).all aa.cell=true:=by rcases nI with rfl|⟨rfl,_⟩<;>rfl
 rw[H2.e];unfold g126;dsimp only;generalize hX:cp e cv=X at *;have r1:=Qb [.box (cp e cv)] hr;have r2:=Qb [.rows 7 [cp e cv]] r1;have f1:=Yc σ (.box (cp e cv));have f2:=Yc (σ++[.box (cp e cv)]) (.rows 7 [cp e cv]);subst hX;refine Yd (Zd5 (e:=e) nI _) (Ye σ _) (Zi rfl (Zi rfl (Xf (ld r1 rfl) (Zg _) (Xf (ld f1 (show aK true 0 7 (cp e cv)=some (.agg (cp e cv)) from rfl)) (Zg _) (Xf (N8 (e:=e) nI _) (Ye _ _) ?_)))));have o7:(σ++[ab.box (cp e cv)]).length=σ.length+1:=by simp
 have kD:(σ++[ab.box (cp e cv)]++[ab.rows 7 [cp e cv]]).length=σ.length+2:=by simp
 rcases hl with ⟨rfl,rfl⟩|⟨h0,c,rows,pC,rfl,hc,hR⟩
 ·refine Xf (Yew 7 72 f2 kR (by decide)) (Ye _ _) (Zi rfl (Zi rfl ?_));have r3:=Qb [.rows 7 [cp e cv]] r2;have oQ:=Zb r3;refine Xf (c8 r3 rfl rfl rfl) (Ze _ oQ) (Qv (by have cU:rb≠σ.length+1:=(by omega);simp[Qi,Xm,Xn,Yv,cf,dS,zAB,zAd,cU,cU.symm]) ?_);refine hK _ (.sl (σ++[ab.box (cp e cv)]++[ab.rows 7 [cp e cv]]).length 0 1 false) ⟨by simp,λk hk gN _=>?_,λk n h=>.inl ?_⟩ ?_ (.inr ⟨by simp,(σ++[ab.box (cp e cv)]++[ab.rows 7 [cp e cv]]).length,[]++[cp e cv],by rw[kD];omega,rfl,?_,eY.snoc [] [] e cv .nil nI⟩)
  ·rw[Xb _ (by simp;omega) gN,Yf _ (by simp;omega),Yf _ (by simp;omega),Yf _ hk]
  ·cases h;rw[kD];omega
  ·exact Yq (zAe oQ)
  ·have:=Yc (σ++[ab.box (cp e cv)]++[ab.rows 7 [cp e cv]]) (.rows 7 [cp e cv]);rw[Xb _ (by simp) (by rw[kD];omega),this];rfl
 ·have u9:=Zb hc;have c2:=Qb [.rows 7 [cp e cv]] (Qb [.box (cp e cv)] hc (by simp));have uw:c<(σ++[ab.box (cp e cv)]++[ab.rows 7 [cp e cv]]).length:=by rw[kD];omega
  refine Xf (QL 7 72 (rs:=rows) c2 f2 hR.len kR (by omega)) (QC _ _ uw) (Zi rfl (Zi rfl ?_));have r3:=Qb [.rows 7 (rows++[cp e cv])] (Yb (x:=.dead) r2 (by simp) pC);have oQ:=Zb r3;refine Xf (c8 r3 rfl rfl rfl) (Ze _ oQ) (Qv (by have cU:rb≠σ.length+1:=(by omega);simp[Qi,Xm,Xn,Yv,cf,dS,zAB,zAd,cU,cU.symm]) ?_);refine hK _ (.sl (σ++[ab.box (cp e cv)]++[ab.rows 7 [cp e cv]]).length 0 (l.length+1) false) ⟨by simp;omega,λk hk gN Ab=>?_,λk n h=>.inl ?_⟩ ?_ (.inr ⟨by simp,(σ++[ab.box (cp e cv)]++[ab.rows 7 [cp e cv]]).length,rows++[cp e cv],by rw[kD];omega,by simp,?_,eY.snoc rows l e cv hR nI⟩)
  ·have DD:k≠c:=λe=>Ab l.length (by rw[e]);rw[Xb _ (by simp;omega) gN,Yf _ (by simp;omega),Xb _ (by simp;omega) DD,Yf _ (by simp;omega),Yf _ hk]
  ·cases h;rw[kD];omega
  ·exact Yq (zAe oQ)
  ·have:=Yc ((σ++[ab.box (cp e cv)]++[ab.rows 7 [cp e cv]]).set c .dead) (ab.rows 7 (rows++[cp e cv]));simp only[zCf]at this;rw[Xb _ (by simp) (by rw[kD];omega),this]
theorem Qd9(hr:ai σ rb=.box (dA b s sd tg lv fu mv))(h01:sd=0∨sd=1)(who:Int)(hK:K (iv (bJ sd who)) σ):g127.u VV [.ak rb 0,aO who] σ K:=by
 rw[H2.e];unfold g127;dsimp only;refine Za (Zt ..) (Ya (λh=>?_) (λh=>?_))
 ·have h:who=1:=by simpa using h
  refine Za rfl (Za rfl (Za rfl (Za (ld hr rfl) (Za (CX ..) ?_))));rw[zAY _ (by omega)];unfold bJ at hK;rwa [aI h]at hK
 ·have h:who≠1:=by simpa using h
  refine Za rfl (Za rfl (Za rfl (Za (ld hr rfl) ?_)));unfold bJ at hK;rwa [aB h]at hK
section
variable {P:Program} {GL:aw}
theorem RH{f:FuncId}{xs:List aa}{v y:aa}{bs:List ab}(h:dh P GL f xs v bs)(hy:∃rd,aA (hp bs) rd v y):di P GL f xs y:=by
 obtain⟨rd,hR⟩:=hy;intro w M vs hM hg hx;refine(h w M vs hM hg hx).mono ?_;rintro e w' ⟨u,he,g',hle,r,hd⟩
 let M2:Nat→Option Obj:=λb=>if b<w.heap.size then g'.M b else w'.heap[b]?
 have qR:yq g' (hp bs) w' M2:=by
  refine⟨λb o e=>?_,λb blk cb o e1 e2 e3 e4 e5=>?_⟩
  ·show (if b<w.heap.size then g'.M b else w'.heap[b]?)=some o;split
   ·exact e
   ·exact r.aZ b o e
  ·obtain⟨_,dc,_⟩:=r.own b blk cb e1 e2 e3 e4
   grind
 have sN:=hR GL w ⟨[],M⟩ g' (hp bs) w' M2 r qR (λ_ _=>rfl) u hd;refine⟨u,he,r.keeps,M2,λb o e=>qR.1 b o (hle b o e),λb o e=>?_,λb o e=>?_,sN⟩
 ·have e':(if b<w.heap.size then g'.M b else w'.heap[b]?)=some o:=e;split at e'
  ·exact r.aZ b o e'
  ·exact e'
 ·have e':(if b<w.heap.size then g'.M b else w'.heap[b]?)=some o:=e;split at e'
  ·rcases r.src b o e' with q|q|q<;>simp_all
  ·exact .inr (by omega)
end
@[reducible] def BC(l:List Int):aa:=.aW true false 1 (l.map aS)
theorem Zex(nn:Bool)(rows:List (List aa))(h:rows≠[])(σ:List ab):QH 1 [.aW false nn 1 rows,.int .i64 rows.length,.int .i64 rows.length] σ=.ok (.aW true nn 1 rows) [] []:=by
 cases rows with
 |nil=>exact(h rfl).elim
 |cons r rs=>
  have hb:zAR (r::rs).length (r::rs).length=true:=sh (No _);have hc:cut 0 (r::rs).length (r::rs)=r::rs:=by unfold cut;simp
  show (bif IT 1 1&&(IT (r::rs).length (r::rs).length&&zAR (r::rs).length (r::rs).length)then aN.ok (.aW true nn 1 (cut 0 (r::rs).length (r::rs))) [] []else .stop)=_;simp only[hb,hc,zBf];rfl
theorem c405(l:List Int):PC 128 [aP l] (BC l):=by
 refine Yi hP g128.ok rfl ?_;rw[H1.e];unfold g128;dsimp only;refine Za rfl (Za rfl ?_);cases l with
 |nil=>
  refine Za (v:=.cY) rfl ⟨[],aA.dP (aA.ro rfl) (λM u d=>?_)⟩;cases d with
  |cY _ a=>exact .aW _ _ _ _ [] a 0 0 0 (λ_ _=>undef) (λ_=>rfl) (λh=>by cases h) (λh=>(h rfl).elim) (λ_=>rfl) (by simp) (by simp) (by simp) (by simp)
 |cons x l=>exact Za (Zex false ((x::l).map aS) (by simp) _) ⟨[],aA.ro rfl⟩
theorem pK(l:List Int)(hl:l.length<=1000000000):PC 44 [aP l] (aP l):=
 RH (c96 l hl) ⟨[0],RI.own (b:=0) rfl (by simp) rfl⟩
theorem QcZ(l:List Int):zu (l.map aS)=true:=by
 induction l<;>simp_all [zu,aS]
theorem Ng(l m:List Int){y:aa}(hy:Zk 1 σ y=some (m.map aS,rd))(hl:l.length+m.length<=1000000000):Qf 1 8 [BC l,y] σ=.ok (aP (l++m)) rd []:=by
 show (match Zk 1 σ y with
   |some (ys,rd)=>bif IT 1 1&&(zu (l.map aS++ys)&&zAR ((2*((l.map aS).length+ys.length)+192)*8) (2 ^ 48))then aN.ok (.aW false false 1 (l.map aS++ys)) rd []else .stop
   | none=>.stop)=_
 rw[hy];simp only;rw[←zAa,QcZ,show zAR ((2*((l.map aS).length+(m.map aS).length)+192)*8) (2 ^ 48)=true from sh (by simp only[zAM];omega)];rfl
def iV(m:List Int)(s:St)(i:Int):St:=s.put i { s.side i with told:=(s.side i).told++m }
def dt(s:St)(m:List Int)(is:List Int):St:=is.foldl (iV m) s
theorem Zc4(s:St)(m is:List Int)(i:Nat)(h:i<is.length):dt s m (is.take (i+1))=iV m (dt s m (is.take i)) is[i]:=by
 grind [dt,List.take_succ_eq_append_getElem]
def TB(N:Nat)(s:St):Prop:=s.s0.told.length<=N∧s.s1.told.length<=N
theorem TB.tell{N:Nat}(h:TB N s)(m:List Int){i:Int}(hi:i=0∨i=1):TB (N+m.length) (iV m s i):=by
 obtain⟨h1,h2⟩:=h;rcases hi with rfl|rfl
 ·refine⟨?_,?_⟩<;>simp[iV,St.put,St.side]<;>omega
 ·refine⟨?_,?_⟩<;>simp[iV,St.put,St.side]<;>omega
theorem Xem{x:ab}(h:ai σ rb=x)(hx:x≠.dead):σ.set rb x=σ:=by
 have hl:=Zb h hx;have:=Xv h hx
 grind [zDg]
theorem GN(hr:ai σ rb=.box (dA b s sd tg lv fu mv))(m:List Int)(y:aa)(rd:List Nat)(hy:∀x:ab,Zk 1 (σ.set rb x) y=some (m.map aS,rd))
 (is:List Int)(k:Nat)(hk:ai σ k=.rows 1 (is.map aS))(gN:k≠rb)(h01:∀i∈is,i=0∨i=1)(N:Nat)(hT:TB N s)(hN:N+is.length*m.length+m.length<=1000000000)(his:is.length<=1000000000)
 (hK:K (.bp []) (σ.set rb (.box (dA b (dt s m is) sd tg lv fu mv)))):g129.u VV [.ak rb 0,y,.sl k 0 is.length true] σ K:=by
 have vj:=Zb hr;have lW:=Zb hk;rw[H3.e];unfold g129;dsimp only;refine Za rfl (Xg (ι:=Nat) (λi vs τ=>vs=[iv i]∧i<=is.length∧TB (N+i*m.length) (dt s m (is.take i))∧τ=σ.set rb (.box (dA b (dt s m (is.take i)) sd tg lv fu mv))) (λi=>is.length-i) 0 ⟨rfl,by omega,by simpa[dt]using hT,?_⟩ ?_)
 ·simp_all [dt,Xem]
 rintro i vs τ again ⟨rfl,hi,hT,rfl⟩ bj;refine Za rfl (QM (λh=>?_) (λh=>?_))
 ·have KR:=Yb (x:=.box (dA b (dt s m (is.take i)) sd tg lv fu mv)) hk (by simp) gN.symm;have hg:(is.map aS)[i]?=some [iv is[i]]:=by simp[h,aS]
  refine Za (rr _ k 0 is.length true 1 (is.map aS) .i64 i h KR) (Za (Ar KR (by rw[IN];exact hg) rfl) (Za rfl (Za rfl (Za rfl ?_))));have Aj:ai (σ.set rb (.box (dA b (dt s m (is.take i)) sd tg lv fu mv))) rb=.box (dA b (dt s m (is.take i)) sd tg lv fu mv):=Yq (by simp[vj]);have hlen:rb<(σ.set rb (.box (dA b (dt s m (is.take i)) sd tg lv fu mv))).length:=by simpa using vj
  have hmul:i*m.length<=is.length*m.length:=Nat.mul_le_mul_right _ hi;have hd:=h01 is[i] (AT h);have rV:dt s m (is.take (i+1))=iV m (dt s m (is.take i)) is[i]:=Zc4 s m is i h;have hT':TB (N+(i+1)*m.length) (dt s m (is.take (i+1))):=by
   rw[rV];have:=hT.tell m hd
   grind
  generalize dt s m (is.take i)=t at *;generalize is[i]=d at *;have Di:∀l:List Int,l.length<=N+i*m.length→l.length+m.length<=1000000000:=λl hl=>by omega
  rcases hd with rfl|rfl
  ·refine Za rfl (Za rfl (Za rfl (Za (ld Aj rfl) (a_ (c405 t.s0.told) g128.ok ?_))));refine Yd (Ng t.s0.told m (hy _) (Di _ hT.1)) rfl (Za rfl (Yd (c8 Aj rfl rfl rfl) (Ze _ hlen) (Za (Xj ..) ?_)));rw[Xc (n:=i) (by omega),zDB];exact bj (i+1) _ _ (by omega) ⟨rfl,by omega,hT',by rw[rV];rfl⟩
  ·refine Za rfl (Za rfl (Za rfl (Za (ld Aj rfl) (a_ (c405 t.s1.told) g128.ok ?_))));refine Yd (Ng t.s1.told m (hy _) (Di _ hT.2)) rfl (Za rfl (Yd (c8 Aj rfl rfl rfl) (Ze _ hlen) (Za (Xj ..) ?_)));rw[Xc (n:=i) (by omega),zDB];exact bj (i+1) _ _ (by omega) ⟨rfl,by omega,hT',by rw[rV];rfl⟩
 grind
def Dn(rb:Nat)(b:Bk)(sd tg fu:Int)(l:List Ev)(lv:aa)(σ:List ab)(r:Int×St×List Ev)(v:aa)(σ':List ab):Prop:=
 ∃cJ lP,Fr rb lv cJ σ σ'∧ai σ' rb=.box (dA b r.2.1 sd tg cJ fu lP)∧v=iv r.1∧LV rb (l++r.2.2) cJ σ'
def el(s:St)(sd n:Int):Int×St×List Ev:=
 if n<0 then (0,s,[])else if 1000000<(s.side sd).aU+n then (171,s,[])else (0,s.put sd { s.side sd with aU:=(s.side sd).aU+n },[⟨7,sd,0,0,0,n,[]⟩])
theorem XeA(hr:ai σ rb=.box (dA b s sd tg lv fu mv))(hl:LV rb l lv σ)(hn:l.length<=1000000000)(h01:sd=0∨sd=1)
 (hm:0<=(s.side sd).aU∧(s.side sd).aU<=1000000)(x:Ef)(n:Int)(hb:n<=1000000)(hK:∀v σ',Dn rb b sd tg fu l lv σ (el s sd n) v σ'→K v σ'):g84.u VV [.ak rb 0,.agg (bq x),iv n] σ K:=by
 have vj:=Zb hr;have f0:Fr rb lv lv σ (σ++[ab.box (bq x)]):=Fr.app _ (λk n e=>hl.lt e);have r1:=Qb [ab.box (bq x)] hr;have jI:rb<(σ++[ab.box (bq x)]).length:=by simp;omega
 have l1:LV rb l lv (σ++[ab.box (bq x)]):=hl.fS (λk hk _=>Yf _ hk);rw[H3.e];unfold g84;dsimp only;refine Yd (QN _ _) (Ye σ _) (Za rfl (Za rfl (Za rfl (Za (ld r1 rfl) (Za rfl (Za rfl (Za rfl ?_)))))));rcases h01 with rfl|rfl
 ·have hm:0<=s.s0.aU∧s.s0.aU<=1000000:=hm;refine Za rfl (Za rfl (Ya (λh=>?_) (λh=>?_)))
  ·have h:n<0:=by simpa using h
   exact hK _ _ ⟨lv,mv,f0,by rw[el,aI h];exact r1,by rw[el,aI h],by rw[el,aI h];simpa using l1⟩
  have h:¬n<0:=by simpa using h
  refine Za rfl (Za rfl (Za (ld r1 rfl) (Za (Xj ..) (Za rfl ?_))));rw[zAY _ (by omega)];refine Ya (λh2=>?_) (λh2=>?_)
  ·have h2:1000000<s.s0.aU+n:=by simpa using h2
   have e:el s 0 n=(171,s,[]):=by rw[el,aB h];exact aI h2
   exact hK _ _ ⟨lv,mv,f0,by rw[e];exact r1,by rw[e],by rw[e];simpa using l1⟩
  have h2:¬1000000<s.s0.aU+n:=by simpa using h2
  have e:el s 0 n=(0,s.put 0 { s.side 0 with aU:=s.s0.aU+n },[⟨7,0,0,0,0,n,[]⟩]):=by rw[el,aB h];exact aB h2
  refine Za rfl (Za rfl (Za (ld r1 rfl) (Za (Xj ..) (Za rfl (Za rfl ?_)))));rw[zAY _ (by omega)];refine Yd (c8 r1 rfl rfl rfl) (Ze _ jI) ?_;have r2:ai ((σ++[ab.box (bq x)]).set rb (.box (dA b (s.put 0 { s.side 0 with aU:=s.s0.aU+n }) 0 tg lv fu mv))) rb=.box (dA b (s.put 0 { s.side 0 with aU:=s.s0.aU+n }) 0 tg lv fu mv):=Yq (zAe jI);refine Za rfl (Za rfl (Za rfl (Za (ld r2 rfl) (Za (v:=.agg (cp ⟨7,0,0,0,0,n,[]⟩ .al)) rfl ?_))));refine Xd hP (f:=126) rfl g126.ok rfl (vB r2 (l1.fS (λk hk gN=>Xb _ hk gN)) hn _ _ (.inr ⟨rfl,rfl⟩) (λσ' cJ q1 q2 q3=>hK _ _ ⟨cJ,mv,(f0.trans (Fr.set lv _)).trans q1,by rw[e];exact q2,by rw[e],by rw[e];exact q3⟩))
 ·have hm:0<=s.s1.aU∧s.s1.aU<=1000000:=hm;refine Za rfl (Za rfl (Ya (λh=>?_) (λh=>?_)))
  ·have h:n<0:=by simpa using h
   exact hK _ _ ⟨lv,mv,f0,by rw[el,aI h];exact r1,by rw[el,aI h],by rw[el,aI h];simpa using l1⟩
  have h:¬n<0:=by simpa using h
  refine Za rfl (Za rfl (Za (ld r1 rfl) (Za (Xj ..) (Za rfl ?_))));rw[zAY _ (by omega)];refine Ya (λh2=>?_) (λh2=>?_)
  ·have h2:1000000<s.s1.aU+n:=by simpa using h2
   have e:el s 1 n=(171,s,[]):=by rw[el,aB h];exact aI h2
   exact hK _ _ ⟨lv,mv,f0,by rw[e];exact r1,by rw[e],by rw[e];simpa using l1⟩
  have h2:¬1000000<s.s1.aU+n:=by simpa using h2
  have e:el s 1 n=(0,s.put 1 { s.side 1 with aU:=s.s1.aU+n },[⟨7,1,0,0,0,n,[]⟩]):=by rw[el,aB h];exact aB h2
  refine Za rfl (Za rfl (Za (ld r1 rfl) (Za (Xj ..) (Za rfl (Za rfl ?_)))));rw[zAY _ (by omega)];refine Yd (c8 r1 rfl rfl rfl) (Ze _ jI) ?_;have r2:ai ((σ++[ab.box (bq x)]).set rb (.box (dA b (s.put 1 { s.side 1 with aU:=s.s1.aU+n }) 1 tg lv fu mv))) rb=.box (dA b (s.put 1 { s.side 1 with aU:=s.s1.aU+n }) 1 tg lv fu mv):=Yq (zAe jI);refine Za rfl (Za rfl (Za rfl (Za (ld r2 rfl) (Za (v:=.agg (cp ⟨7,1,0,0,0,n,[]⟩ .al)) rfl ?_))));refine Xd hP (f:=126) rfl g126.ok rfl (vB r2 (l1.fS (λk hk gN=>Xb _ hk gN)) hn _ _ (.inr ⟨rfl,rfl⟩) (λσ' cJ q1 q2 q3=>hK _ _ ⟨cJ,mv,(f0.trans (Fr.set lv _)).trans q1,by rw[e];exact q2,by rw[e],by rw[e];exact q3⟩))
theorem R4(l:List Int)(j:Nat)(h:j<=l.length)(σ:List ab):YJ 1 [aP l,iv j] σ=.ok (aP (l.take j)) [] []:=by
 have h1:zAR j (l.map aS).length=true:=sh (by simpa using h);have h2:cut 0 j (l.map aS)=(l.take j).map aS:=by unfold cut;rw[List.drop_zero,List.map_take]
 show (bif IT 1 1&&zAR j (l.map aS).length then aN.ok (.aW false false 1 (cut 0 j (l.map aS))) [] []else .stop)=_;rw[h1,h2];rfl
theorem Xdn(x:Int)(l:List Int)(σ:List ab):Zz 1 [aP (x::l),iv 1] σ=.ok (aP l) [] []:=by
 have h1:zAR 1 ((x::l).map aS).length=true:=sh (by simp);have h2:cut 1 ((x::l).map aS).length ((x::l).map aS)=l.map aS:=by unfold cut;rw[zAl];rfl
 show (bif IT 1 1&&zAR 1 ((x::l).map aS).length then aN.ok (.aW false false 1 (cut 1 ((x::l).map aS).length ((x::l).map aS))) [] []else .stop)=_;rw[h1,h2];rfl
def gI(s:St)(sd n:Int):Int×St×List Ev:=
 match (s.side sd).az.take (min (max n 0) (s.side sd).az.length).toNat with
 |[]=>(0,s,[])
 |c::cs=>(0,dt s (c::cs) [sd],[⟨9,sd,0,0,0,0,c::cs⟩])
theorem XeC(hr:ai σ rb=.box (dA b s sd tg lv fu mv))(hl:LV rb l lv σ)(hn:l.length<=1000000000)(h01:sd=0∨sd=1)
 (hT:TB 100000000 s)(hd:(s.side sd).az.length<=100000000)(x:Ef)(n:Int)(hK:∀v σ',Dn rb b sd tg fu l lv σ (gI s sd n) v σ'→K v σ'):g86.u VV [.ak rb 0,.agg (bq x),iv n] σ K:=by
 have vj:=Zb hr;have f0:Fr rb lv lv σ (σ++[ab.box (bq x)]):=Fr.app _ (λk n e=>hl.lt e);have r1:=Qb [ab.box (bq x)] hr;have l1:LV rb l lv (σ++[ab.box (bq x)]):=hl.fS (λk hk _=>Yf _ hk);have hF:∀cs,(s.side sd).az.take (min (max n 0) (s.side sd).az.length).toNat=cs→gI s sd n=match cs with | []=>(0,s,[])|c::cs=>(0,dt s (c::cs) [sd],[⟨9,sd,0,0,0,0,c::cs⟩]):=by
  intro cs h;rw[gI,h]
 obtain⟨j,hj,uC⟩:∃j:Nat,min (max n 0) ((s.side sd).az.length:Int)=j∧j<=(s.side sd).az.length:=⟨(min (max n 0) ((s.side sd).az.length:Int)).toNat,by omega,by omega⟩;rw[hj,Int.toNat_natCast]at hF;rw[H3.e];unfold g86;dsimp only;refine Yd (QN _ _) (Ye σ _) (Za rfl (Za rfl (Za rfl (Za (ld r1 rfl) (Za rfl (Za rfl (Za rfl ?_)))))));rcases h01 with rfl|rfl
 ·refine Za rfl (Za rfl (Za (ld r1 rfl) (Za (vT ..) (Za rfl (Za (XV ..) ?_)))));have uC:j<=s.s0.az.length:=uC;have hd:s.s0.az.length<=100000000:=hd;rw[show min (max n 0) ((s.s0.az.map aS).length:Int)=j from by rw[zAM];exact hj];refine Za (R4 _ j uC _) (a_ (pK _ (by rw[zAk];omega)) g44.ok (Za rfl (Za (Q7 ..) ?_)));have hle:(s.s0.az.take j).length<=100000000:=by rw[zAk];omega
  have hF:=hF (s.s0.az.take j) rfl;generalize s.s0.az.take j=cs at *;refine Ya (λh=>?_) (λh=>?_)
  ·obtain⟨c,cs,rfl⟩:∃c BG,cs=c::BG:=by
    cases cs with
    |nil=>simp at h
    |cons c cs=>exact⟨c,cs,rfl⟩
   have hF:gI s 0 n=(0,dt s (c::cs) [0],[⟨9,0,0,0,0,0,c::cs⟩]):=hF;refine Yd (v:=.sl (σ++[ab.box (bq x)]).length 0 1 true) (rd:=[]) (up:=[((σ++[ab.box (bq x)]).length,.rows 1 [[iv 0]])]) rfl (Ye _ _) ?_;have jI:rb<(σ++[ab.box (bq x)]).length:=by simp;omega
   have r2:=Qb [.rows 1 [[iv 0]]] r1;have f1:Fr rb lv lv (σ++[ab.box (bq x)]) (σ++[ab.box (bq x)]++[.rows 1 [[iv 0]]]):=Fr.app _ (λk n e=>l1.lt e);have l2:LV rb l lv (σ++[ab.box (bq x)]++[.rows 1 [[iv 0]]]):=l1.fS (λk hk _=>Yf _ hk);refine Xd hP (f:=129) rfl g129.ok rfl (GN r2 (c::cs) (aP (c::cs)) [] (λ_=>rfl) [0] _ (Yc _ _) (by omega) (by simp) 100000000 hT (by simp at hle ⊢;omega) (by simp) (Za (v:=.agg (cp ⟨9,0,0,0,0,0,c::cs⟩ (aP (c::cs)))) rfl (Xd hP (f:=126) rfl g126.ok rfl (vB (Yq (zAe (by simp;omega))) (l2.fS (λk hk gN=>Xb _ hk gN)) hn _ _ (.inl rfl) (λσ' cJ q1 q2 q3=>?_)))));exact(hK _ _ ⟨cJ,mv,((f0.trans f1).trans (Fr.set lv _)).trans q1,by rw[hF];exact q2,by rw[hF],by rw[hF];exact q3⟩)
  ·have:cs=[]:=by
    cases cs with
    |nil=>rfl
    |cons c cs=>simp at h
   subst this;have hF:gI s 0 n=(0,s,[]):=hF;exact hK _ _ ⟨lv,mv,f0,by rw[hF];exact r1,by rw[hF],by rw[hF];simpa using l1⟩
 ·refine Za rfl (Za rfl (Za (ld r1 rfl) (Za (vT ..) (Za rfl (Za (XV ..) ?_)))));have uC:j<=s.s1.az.length:=uC;have hd:s.s1.az.length<=100000000:=hd;rw[show min (max n 0) ((s.s1.az.map aS).length:Int)=j from by rw[zAM];exact hj];refine Za (R4 _ j uC _) (a_ (pK _ (by rw[zAk];omega)) g44.ok (Za rfl (Za (Q7 ..) ?_)));have hle:(s.s1.az.take j).length<=100000000:=by rw[zAk];omega
  have hF:=hF (s.s1.az.take j) rfl;generalize s.s1.az.take j=cs at *;refine Ya (λh=>?_) (λh=>?_)
  ·obtain⟨c,cs,rfl⟩:∃c BG,cs=c::BG:=by
    cases cs with
    |nil=>simp at h
    |cons c cs=>exact⟨c,cs,rfl⟩
   have hF:gI s 1 n=(0,dt s (c::cs) [1],[⟨9,1,0,0,0,0,c::cs⟩]):=hF;refine Yd (v:=.sl (σ++[ab.box (bq x)]).length 0 1 true) (rd:=[]) (up:=[((σ++[ab.box (bq x)]).length,.rows 1 [[iv 1]])]) rfl (Ye _ _) ?_;have jI:rb<(σ++[ab.box (bq x)]).length:=by simp;omega
   have r2:=Qb [.rows 1 [[iv 1]]] r1;have f1:Fr rb lv lv (σ++[ab.box (bq x)]) (σ++[ab.box (bq x)]++[.rows 1 [[iv 1]]]):=Fr.app _ (λk n e=>l1.lt e);have l2:LV rb l lv (σ++[ab.box (bq x)]++[.rows 1 [[iv 1]]]):=l1.fS (λk hk _=>Yf _ hk);refine Xd hP (f:=129) rfl g129.ok rfl (GN r2 (c::cs) (aP (c::cs)) [] (λ_=>rfl) [1] _ (Yc _ _) (by omega) (by simp) 100000000 hT (by simp at hle ⊢;omega) (by simp) (Za (v:=.agg (cp ⟨9,1,0,0,0,0,c::cs⟩ (aP (c::cs)))) rfl (Xd hP (f:=126) rfl g126.ok rfl (vB (Yq (zAe (by simp;omega))) (l2.fS (λk hk gN=>Xb _ hk gN)) hn _ _ (.inl rfl) (λσ' cJ q1 q2 q3=>?_)))));exact(hK _ _ ⟨cJ,mv,((f0.trans f1).trans (Fr.set lv _)).trans q1,by rw[hF];exact q2,by rw[hF],by rw[hF];exact q3⟩)
  ·have:cs=[]:=by
    cases cs with
    |nil=>rfl
    |cons c cs=>simp at h
   subst this;have hF:gI s 1 n=(0,s,[]):=hF;exact hK _ _ ⟨lv,mv,f0,by rw[hF];exact r1,by rw[hF],by rw[hF];simpa using l1⟩
theorem GU(h:sd=0∨sd=1)(w:Int):bJ sd w=0∨bJ sd w=1:=by
 unfold bJ;split<;>omega
theorem AA{k:Nat}{c:Int}(h:ai σ k=.rows 1 [[iv c]]):Zk 1 σ (.sl k 0 1 true)=some ([c].map aS,[k]):=by
 simp only[Zk,h];simp[cut];rfl
def mD(s:St)(i:Int):Int×St×List Ev:=(0,dt s (s.side i).hand [0,1],[⟨10,i,0,0,0,0,(s.side i).hand⟩])
theorem ZeG(hr:ai σ rb=.box (dA b s sd tg lv fu mv))(hl:LV rb l lv σ)(hn:l.length<=1000000000)(h01:sd=0∨sd=1)
 (hT:TB 100000000 s)(zW:s.s0.hand.length<=100000000)(BU:s.s1.hand.length<=100000000)(x:Ef)(n:Int)(hK:∀v σ',Dn rb b sd tg fu l lv σ (mD s (bJ sd x.who)) v σ'→K v σ'):g87.u VV [.ak rb 0,.agg (bq x),iv n] σ K:=by
 have vj:=Zb hr;have f0:Fr rb lv lv σ (σ++[ab.box (bq x)]):=Fr.app _ (λk n e=>hl.lt e);have r1:=Qb [ab.box (bq x)] hr;have l1:LV rb l lv (σ++[ab.box (bq x)]):=hl.fS (λk hk _=>Yf _ hk);rw[H3.e];unfold g87;dsimp only;refine Yd (QN _ _) (Ye σ _) (Za rfl (Za (ld (Yc _ _) (oE x)) ?_));refine Xd hP (f:=127) rfl g127.ok rfl (Qd9 r1 h01 _ ?_);have hw:=GU h01 x.who;generalize bJ sd x.who=i at *;refine ay ?_;have jI:rb<(σ++[ab.box (bq x)]).length:=by simp;omega
 have f1:Fr rb lv lv (σ++[ab.box (bq x)]) (σ++[ab.box (bq x)]++[.rows 1 [[iv 0],[iv 1]]]):=Fr.app _ (λk n e=>l1.lt e);have l2:LV rb l lv (σ++[ab.box (bq x)]++[.rows 1 [[iv 0],[iv 1]]]):=l1.fS (λk hk _=>Yf _ hk);have r2:=Qb [.rows 1 [[iv 0],[iv 1]]] r1;rcases hw with rfl|rfl
 ·refine Za rfl (Za rfl (Za (ld r1 rfl) (a_ (pK s.s0.hand (by omega)) g44.ok ?_)));refine Yd (v:=.sl (σ++[ab.box (bq x)]).length 0 2 true) (rd:=[]) (up:=[((σ++[ab.box (bq x)]).length,.rows 1 [[iv 0],[iv 1]])]) rfl (Ye _ _) (Xd hP (f:=129) rfl g129.ok rfl (GN r2 s.s0.hand (aP s.s0.hand) [] (λ_=>rfl) [0,1] _ (Yc _ _) (by omega) (by simp) 100000000 hT (by simp;omega) (by simp) (Za (v:=.agg (cp ⟨10,0,0,0,0,0,s.s0.hand⟩ (aP s.s0.hand))) rfl (Xd hP (f:=126) rfl g126.ok rfl (vB (Yq (zAe (by simp;omega))) (l2.fS (λk hk gN=>Xb _ hk gN)) hn _ _ (.inl rfl) (λσ' cJ q1 q2 q3=>?_))))));exact hK _ _ ⟨cJ,mv,((f0.trans f1).trans (Fr.set lv _)).trans q1,q2,rfl,q3⟩
 ·refine Za rfl (Za rfl (Za (ld r1 rfl) (a_ (pK s.s1.hand (by omega)) g44.ok ?_)));refine Yd (v:=.sl (σ++[ab.box (bq x)]).length 0 2 true) (rd:=[]) (up:=[((σ++[ab.box (bq x)]).length,.rows 1 [[iv 0],[iv 1]])]) rfl (Ye _ _) (Xd hP (f:=129) rfl g129.ok rfl (GN r2 s.s1.hand (aP s.s1.hand) [] (λ_=>rfl) [0,1] _ (Yc _ _) (by omega) (by simp) 100000000 hT (by simp;omega) (by simp) (Za (v:=.agg (cp ⟨10,1,0,0,0,0,s.s1.hand⟩ (aP s.s1.hand))) rfl (Xd hP (f:=126) rfl g126.ok rfl (vB (Yq (zAe (by simp;omega))) (l2.fS (λk hk gN=>Xb _ hk gN)) hn _ _ (.inl rfl) (λσ' cJ q1 q2 q3=>?_))))));exact hK _ _ ⟨cJ,mv,((f0.trans f1).trans (Fr.set lv _)).trans q1,q2,rfl,q3⟩
def cZ(s:St)(i:Int):Int×St×List Ev:=
 match (s.side i).hand with
 |[]=>(0,s,[])
 |c::h=>(0,dt (s.put i { s.side i with hand:=h,an:=(s.side i).an++[c] }) [c] [0,1],[⟨8,i,c,0,0,0,[]⟩])
theorem Qev(hr:ai σ rb=.box (dA b s sd tg lv fu mv))(hl:LV rb l lv σ)(hn:l.length<=1000000000)(h01:sd=0∨sd=1)
 (hT:TB 100000000 s)(zW:s.s0.hand.length<=100000000∧s.s0.an.length<=100000000)(BU:s.s1.hand.length<=100000000∧s.s1.an.length<=100000000)(x:Ef)(n:Int)(hK:∀v σ',Dn rb b sd tg fu l lv σ (cZ s (bJ sd x.who)) v σ'→K v σ'):g85.u VV [.ak rb 0,.agg (bq x),iv n] σ K:=by
 have vj:=Zb hr;have f0:Fr rb lv lv σ (σ++[ab.box (bq x)]):=Fr.app _ (λk n e=>hl.lt e);have r1:=Qb [ab.box (bq x)] hr;have l1:LV rb l lv (σ++[ab.box (bq x)]):=hl.fS (λk hk _=>Yf _ hk);rw[H3.e];unfold g85;dsimp only;refine Yd (QN _ _) (Ye σ _) (Za rfl (Za (ld (Yc _ _) (oE x)) ?_));refine Xd hP (f:=127) rfl g127.ok rfl (Qd9 r1 h01 _ ?_);have hw:=GU h01 x.who;generalize bJ sd x.who=i at *;refine ay ?_;have jI:rb<(σ++[ab.box (bq x)]).length:=by simp;omega
 generalize hσ:σ++[ab.box (bq x)]=τ at *;rcases hw with rfl|rfl
 ·refine ay ?_;refine Za (ld r1 rfl) ?_;refine ae ?_;obtain⟨hd,hg⟩:=zW;have hF:∀h,s.s0.hand=h→cZ s 0=match h with | []=>(0,s,[])|c::h=>(0,dt (s.put 0 { s.s0 with hand:=h,an:=s.s0.an++[c] }) [c] [0,1],[⟨8,0,c,0,0,0,[]⟩]):=by
   intro h e;subst e;rfl
  have We:=r1;generalize hh:s.s0.hand=h at *;cases h with
  |nil=>
   have hF:=hF [] rfl;refine Xh ?_;exact hK _ _ ⟨lv,mv,f0,by rw[hF];exact We,by rw[hF],by rw[hF];simpa using l1⟩
  |cons c h=>
  have hF:cZ s 0=(0,dt (s.put 0 { s.s0 with hand:=h,an:=s.s0.an++[c] }) [c] [0,1],[⟨8,0,c,0,0,0,[]⟩]):=hF _ rfl;refine Ya (λh=>by simp at h;omega) (λ_=>?_);refine Za rfl (Za rfl (Za (ld r1 rfl) ?_));rw[hh];refine ay (Za (ld r1 rfl) ?_);rw[hh];have US:h.length<=1000000000:=by simp at hd;omega
  refine Za (Xdn c h _) (a_ (pK h US) g44.ok (Za rfl (Za rfl ?_)));refine Yd (c8 (row':=dA b (s.put 0 { s.s0 with hand:=h }) sd tg lv fu mv) r1 rfl rfl rfl) (Ze _ jI) ?_;have r2:ai (τ.set rb (.box (dA b (s.put 0 { s.s0 with hand:=h }) sd tg lv fu mv))) rb=.box (dA b (s.put 0 { s.s0 with hand:=h }) sd tg lv fu mv):=Yq (zAe jI);have f2:Fr rb lv lv σ (τ.set rb (.box (dA b (s.put 0 { s.s0 with hand:=h }) sd tg lv fu mv))):=f0.trans (Fr.set lv _);have l2:LV rb l lv (τ.set rb (.box (dA b (s.put 0 { s.s0 with hand:=h }) sd tg lv fu mv))):=l1.fS (λk hk gN=>Xb _ hk gN);have Vp:rb<(τ.set rb (.box (dA b (s.put 0 { s.s0 with hand:=h }) sd tg lv fu mv))).length:=by simpa using jI
  generalize τ.set rb (.box (dA b (s.put 0 { s.s0 with hand:=h }) sd tg lv fu mv))=τ2 at *;refine Za rfl (Za rfl (Za (ld r2 rfl) (a_ (c405 s.s0.an) g128.ok ?_)));refine Yd (v:=.sl τ2.length 0 1 true) (rd:=[]) (up:=[(τ2.length,.rows 1 [[iv c]])]) rfl (Ye _ _) ?_;have r3:=Qb [ab.rows 1 [[iv c]]] r2;have f3:Fr rb lv lv σ (τ2++[ab.rows 1 [[iv c]]]):=f2.trans (Fr.app _ (λk n e=>l2.lt e));have l3:LV rb l lv (τ2++[ab.rows 1 [[iv c]]]):=l2.fS (λk hk _=>Yf _ hk);have n3:=Yc τ2 (.rows 1 [[iv c]]);have tA:rb<(τ2++[ab.rows 1 [[iv c]]]).length:=by simp;omega
  refine Yd (Ng s.s0.an [c] (AA n3) (by simp;omega)) rfl (Za rfl (Za rfl ?_));generalize τ2++[ab.rows 1 [[iv c]]]=τ3 at *;refine Yd (c8 (row':=dA b (s.put 0 { s.s0 with hand:=h,an:=s.s0.an++[c] }) sd tg lv fu mv) r3 rfl rfl rfl) (Ze _ tA) ?_;have r4:ai (τ3.set rb (.box (dA b (s.put 0 { s.s0 with hand:=h,an:=s.s0.an++[c] }) sd tg lv fu mv))) rb=.box (dA b (s.put 0 { s.s0 with hand:=h,an:=s.s0.an++[c] }) sd tg lv fu mv):=Yq (zAe tA);have f4:Fr rb lv lv σ (τ3.set rb (.box (dA b (s.put 0 { s.s0 with hand:=h,an:=s.s0.an++[c] }) sd tg lv fu mv))):=f3.trans (Fr.set lv _);have l4:LV rb l lv (τ3.set rb (.box (dA b (s.put 0 { s.s0 with hand:=h,an:=s.s0.an++[c] }) sd tg lv fu mv))):=l3.fS (λk hk gN=>Xb _ hk gN);have Vq:rb<(τ3.set rb (.box (dA b (s.put 0 { s.s0 with hand:=h,an:=s.s0.an++[c] }) sd tg lv fu mv))).length:=by simpa using tA
  have Uq:TB 100000000 (s.put 0 { s.s0 with hand:=h,an:=s.s0.an++[c] }):=hT;generalize τ3.set rb (.box (dA b (s.put 0 { s.s0 with hand:=h,an:=s.s0.an++[c] }) sd tg lv fu mv))=τ4 at *;generalize s.put 0 { s.s0 with hand:=h,an:=s.s0.an++[c] }=s4 at *;refine Yd (v:=.sl τ4.length 0 1 true) (rd:=[]) (up:=[(τ4.length,.rows 1 [[iv c]])]) rfl (Ye _ _) ?_;have r5:=Qb [ab.rows 1 [[iv c]]] r4;have f5:Fr rb lv lv σ (τ4++[ab.rows 1 [[iv c]]]):=f4.trans (Fr.app _ (λk n e=>l4.lt e));have l5:LV rb l lv (τ4++[ab.rows 1 [[iv c]]]):=l4.fS (λk hk _=>Yf _ hk);have n5:=Yc τ4 (.rows 1 [[iv c]]);have Vr:rb<(τ4++[ab.rows 1 [[iv c]]]).length:=by simp;omega
  have V_:τ4.length≠rb:=by omega
  generalize τ4++[ab.rows 1 [[iv c]]]=τ5 at *;refine Yd (v:=.sl τ5.length 0 2 true) (rd:=[]) (up:=[(τ5.length,.rows 1 [[iv 0],[iv 1]])]) rfl (Ye _ _) ?_;have r6:=Qb [ab.rows 1 [[iv 0],[iv 1]]] r5;have f6:Fr rb lv lv σ (τ5++[ab.rows 1 [[iv 0],[iv 1]]]):=f5.trans (Fr.app _ (λk n e=>l5.lt e));have l6:LV rb l lv (τ5++[ab.rows 1 [[iv 0],[iv 1]]]):=l5.fS (λk hk _=>Yf _ hk);have n6:=Qb [ab.rows 1 [[iv 0],[iv 1]]] n5;have m6:=Yc τ5 (.rows 1 [[iv 0],[iv 1]]);have DQ:rb<(τ5++[ab.rows 1 [[iv 0],[iv 1]]]).length:=by simp;omega
  refine Xd hP (f:=129) rfl g129.ok rfl (GN r6 [c] (.sl τ4.length 0 1 true) [τ4.length] (λy=>AA (Yb n6 (by simp) V_.symm)) [0,1] _ m6 (by omega) (by simp) 100000000 Uq (by simp) (by simp) (Za (v:=.agg (cp ⟨8,0,c,0,0,0,[]⟩ .al)) rfl (Xd hP (f:=126) rfl g126.ok rfl (vB (Yq (zAe DQ)) (l6.fS (λk hk gN=>Xb _ hk gN)) hn _ _ (.inr ⟨rfl,rfl⟩) (λσ' cJ q1 q2 q3=>?_)))));exact hK _ _ ⟨cJ,mv,(f6.trans (Fr.set lv _)).trans q1,by rw[hF];exact q2,by rw[hF],by rw[hF];exact q3⟩
 ·refine ay ?_;refine Za (ld r1 rfl) ?_;refine ae ?_;obtain⟨hd,hg⟩:=BU;have hF:∀h,s.s1.hand=h→cZ s 1=match h with | []=>(0,s,[])|c::h=>(0,dt (s.put 1 { s.s1 with hand:=h,an:=s.s1.an++[c] }) [c] [0,1],[⟨8,1,c,0,0,0,[]⟩]):=by
   intro h e;subst e;rfl
  have We:=r1;generalize hh:s.s1.hand=h at *;cases h with
  |nil=>
   have hF:=hF [] rfl;refine Xh ?_;exact hK _ _ ⟨lv,mv,f0,by rw[hF];exact We,by rw[hF],by rw[hF];simpa using l1⟩
  |cons c h=>
  have hF:cZ s 1=(0,dt (s.put 1 { s.s1 with hand:=h,an:=s.s1.an++[c] }) [c] [0,1],[⟨8,1,c,0,0,0,[]⟩]):=hF _ rfl;refine Ya (λh=>by simp at h;omega) (λ_=>?_);refine Za rfl (Za rfl (Za (ld r1 rfl) ?_));rw[hh];refine ay (Za (ld r1 rfl) ?_);rw[hh];have US:h.length<=1000000000:=by simp at hd;omega
  refine Za (Xdn c h _) (a_ (pK h US) g44.ok (Za rfl (Za rfl ?_)));refine Yd (c8 (row':=dA b (s.put 1 { s.s1 with hand:=h }) sd tg lv fu mv) r1 rfl rfl rfl) (Ze _ jI) ?_;have r2:ai (τ.set rb (.box (dA b (s.put 1 { s.s1 with hand:=h }) sd tg lv fu mv))) rb=.box (dA b (s.put 1 { s.s1 with hand:=h }) sd tg lv fu mv):=Yq (zAe jI);have f2:Fr rb lv lv σ (τ.set rb (.box (dA b (s.put 1 { s.s1 with hand:=h }) sd tg lv fu mv))):=f0.trans (Fr.set lv _);have l2:LV rb l lv (τ.set rb (.box (dA b (s.put 1 { s.s1 with hand:=h }) sd tg lv fu mv))):=l1.fS (λk hk gN=>Xb _ hk gN);have Vp:rb<(τ.set rb (.box (dA b (s.put 1 { s.s1 with hand:=h }) sd tg lv fu mv))).length:=by simpa using jI
  generalize τ.set rb (.box (dA b (s.put 1 { s.s1 with hand:=h }) sd tg lv fu mv))=τ2 at *;refine Za rfl (Za rfl (Za (ld r2 rfl) (a_ (c405 s.s1.an) g128.ok ?_)));refine Yd (v:=.sl τ2.length 0 1 true) (rd:=[]) (up:=[(τ2.length,.rows 1 [[iv c]])]) rfl (Ye _ _) ?_;have r3:=Qb [ab.rows 1 [[iv c]]] r2;have f3:Fr rb lv lv σ (τ2++[ab.rows 1 [[iv c]]]):=f2.trans (Fr.app _ (λk n e=>l2.lt e));have l3:LV rb l lv (τ2++[ab.rows 1 [[iv c]]]):=l2.fS (λk hk _=>Yf _ hk);have n3:=Yc τ2 (.rows 1 [[iv c]]);have tA:rb<(τ2++[ab.rows 1 [[iv c]]]).length:=by simp;omega
  refine Yd (Ng s.s1.an [c] (AA n3) (by simp;omega)) rfl (Za rfl (Za rfl ?_));generalize τ2++[ab.rows 1 [[iv c]]]=τ3 at *;refine Yd (c8 (row':=dA b (s.put 1 { s.s1 with hand:=h,an:=s.s1.an++[c] }) sd tg lv fu mv) r3 rfl rfl rfl) (Ze _ tA) ?_;have r4:ai (τ3.set rb (.box (dA b (s.put 1 { s.s1 with hand:=h,an:=s.s1.an++[c] }) sd tg lv fu mv))) rb=.box (dA b (s.put 1 { s.s1 with hand:=h,an:=s.s1.an++[c] }) sd tg lv fu mv):=Yq (zAe tA);have f4:Fr rb lv lv σ (τ3.set rb (.box (dA b (s.put 1 { s.s1 with hand:=h,an:=s.s1.an++[c] }) sd tg lv fu mv))):=f3.trans (Fr.set lv _);have l4:LV rb l lv (τ3.set rb (.box (dA b (s.put 1 { s.s1 with hand:=h,an:=s.s1.an++[c] }) sd tg lv fu mv))):=l3.fS (λk hk gN=>Xb _ hk gN);have Vq:rb<(τ3.set rb (.box (dA b (s.put 1 { s.s1 with hand:=h,an:=s.s1.an++[c] }) sd tg lv fu mv))).length:=by simpa using tA
  have Uq:TB 100000000 (s.put 1 { s.s1 with hand:=h,an:=s.s1.an++[c] }):=hT;generalize τ3.set rb (.box (dA b (s.put 1 { s.s1 with hand:=h,an:=s.s1.an++[c] }) sd tg lv fu mv))=τ4 at *;generalize s.put 1 { s.s1 with hand:=h,an:=s.s1.an++[c] }=s4 at *;refine Yd (v:=.sl τ4.length 0 1 true) (rd:=[]) (up:=[(τ4.length,.rows 1 [[iv c]])]) rfl (Ye _ _) ?_;have r5:=Qb [ab.rows 1 [[iv c]]] r4;have f5:Fr rb lv lv σ (τ4++[ab.rows 1 [[iv c]]]):=f4.trans (Fr.app _ (λk n e=>l4.lt e));have l5:LV rb l lv (τ4++[ab.rows 1 [[iv c]]]):=l4.fS (λk hk _=>Yf _ hk);have n5:=Yc τ4 (.rows 1 [[iv c]]);have Vr:rb<(τ4++[ab.rows 1 [[iv c]]]).length:=by simp;omega
  have V_:τ4.length≠rb:=by omega
  generalize τ4++[ab.rows 1 [[iv c]]]=τ5 at *;refine Yd (v:=.sl τ5.length 0 2 true) (rd:=[]) (up:=[(τ5.length,.rows 1 [[iv 0],[iv 1]])]) rfl (Ye _ _) ?_;have r6:=Qb [ab.rows 1 [[iv 0],[iv 1]]] r5;have f6:Fr rb lv lv σ (τ5++[ab.rows 1 [[iv 0],[iv 1]]]):=f5.trans (Fr.app _ (λk n e=>l5.lt e));have l6:LV rb l lv (τ5++[ab.rows 1 [[iv 0],[iv 1]]]):=l5.fS (λk hk _=>Yf _ hk);have n6:=Qb [ab.rows 1 [[iv 0],[iv 1]]] n5;have m6:=Yc τ5 (.rows 1 [[iv 0],[iv 1]]);have DQ:rb<(τ5++[ab.rows 1 [[iv 0],[iv 1]]]).length:=by simp;omega
  refine Xd hP (f:=129) rfl g129.ok rfl (GN r6 [c] (.sl τ4.length 0 1 true) [τ4.length] (λy=>AA (Yb n6 (by simp) V_.symm)) [0,1] _ m6 (by omega) (by simp) 100000000 Uq (by simp) (by simp) (Za (v:=.agg (cp ⟨8,1,c,0,0,0,[]⟩ .al)) rfl (Xd hP (f:=126) rfl g126.ok rfl (vB (Yq (zAe DQ)) (l6.fS (λk hk gN=>Xb _ hk gN)) hn _ _ (.inr ⟨rfl,rfl⟩) (λσ' cJ q1 q2 q3=>?_)))));exact hK _ _ ⟨cJ,mv,(f6.trans (Fr.set lv _)).trans q1,by rw[hF];exact q2,by rw[hF],by rw[hF];exact q3⟩
end Go.Ah.Tz
end
