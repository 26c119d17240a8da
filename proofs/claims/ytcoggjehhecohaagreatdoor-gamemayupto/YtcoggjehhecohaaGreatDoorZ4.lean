/- Part of the proof of GameMay, for arguments of at most 1048576 values and letters together. -/
import Derived.Test.YtcoggjehhecohaaGreatDoorZ3
import Derived.Sort.OwnSortedInts
import Derived.Recover
set_option linter.all false
open Bool renaming and_assoc->FL,and_eq_true->AA,and_self->C2,and_true->DZ,eq_false_iff->D9,eq_iff_iff->C6,false_eq_true->B8,false_or->FD,not_eq_false'->FI,not_eq_true->KY,not_eq_true'->B9,not_false->Ej,or_eq_false_iff->Ct,or_false->L0,true_and->Ax
open Classical renaming axiomOfChoice->E6
open Decidable renaming not_not->NC
open Function renaming comp_def->F8
open Go.IntKind renaming bits->LD,i64->AF,wrap->LC
open Go.IntWalk renaming i64_in->Bb
open Go.Oper renaming upon->Ge
open Go.Sort renaming ahead->GM,grow->Ms,heap_grow_old->Hs,mapBlock->Lt,putRow->Gh
open Go.Value renaming int->Eo
open List renaming all_eq_true->C1,any_append->Gn,any_eq_true->FV,append_assoc->Cp,append_nil->DR,cons_append->Cz,contains_cons->Hy,drop_left->HA,drop_length->As,eraseIdx_sublist->F7,filter_sublist->Hq,findIdx?_cons->Hx,findIdx?_eq_some_iff_getElem->GU,forall_mem_cons->F6,getElem?_append_left->Bi,getElem?_eq_getElem->Cv,getElem?_map->Ba,getElem_mem->AI,length_append->AT,length_cons->A1,length_eq_zero_iff->Ck,length_eraseIdx_le->HE,length_eraseIdx_of_lt->E2,length_map->Be,length_nil->Cb,length_pos_iff->Ho,length_set->Fu,length_singleton->EJ,length_take->EM,map_append->A8,map_cons->B7,map_drop->Lx,map_nil->E4,map_set->Ga,mem_append->Bd,mem_append_left->DS,mem_append_right->DO,mem_cons->Az,mem_cons_of_mem->DI,mem_filter->K8,mem_map->By,mem_of_getElem?->Au,mem_range->DW,mem_take_iff_getElem->Ff,nil_append->Cm,nodup_append->Gf,nodup_cons->EX,nodup_iff_pairwise_ne->FX,pairwise_iff_getElem->EV,perm_middle->IT,range->Ao,replicate->CD,take_add_one->GV,take_length->C5,take_succ_eq_append_getElem->Cq
open List.Sublist renaming map->HC,refl->EE
open List.range renaming loop->B0
open Nat renaming add_comm->Hv,beq->AJ,beq_refl->EK,ble->BY,ble_eq_true_of_le->AH,blt->C3,le_refl->AO,le_succ_of_le->C7,le_trans->CI,mul_one->Mn,zero_add->Al
open Option renaming getD_some->Cw,map_some->E8
open Option.some renaming inj->GC,injEq->E7
open Prod.mk renaming injEq->F0
open SizeOf renaming sizeOf->B3
section
namespace Go.Ah.Tz
open Go.Proofs.Tryz (prog)
attribute [local irreducible] aI.rd aI.pu aI.wr aI.dr aI.gr aI.gw aI.gl aI.gd aI.opt c8 W
set_option maxHeartbeats 1000000
variable{r1:aL}
variable{c d bare ex:Bool}
variable{GL:aw}
variable{P:Program}
variable{J:List U}
theorem YdL{K:I->Prop}(h1:r1=.ok (.bool d) [] [])(b:K (.bool (c&&d))) :
  (W P GL).gr (.bool c) true (λk=>(W P GL).rd r1 k) λt1=>(W P GL).rd (Xk [.bool c,t1,.bool false] J) K:=by
 cases c with
 |true=>exact Xb (Z h1 (Z rfl b))
 |false=>exact Yc rfl (Z rfl b)
variable{v1 v2 v3 v:I}
variable{q1 q2 q3 q4 rd:List Nat}
theorem QdL{K:I->Prop}{r2:aL}{f3:I->I->aL}{f4:I->aL}(h1:r1=.ok v1 q1 [])(h2:r2=.ok v2 q2 [])(h3:f3 v1 v2=.ok v3 q3 [])(h4:f4 v3=.ok (.bool d) q4 [])(b:K (.bool (c&&d))) :
  (W P GL).gr (.bool c) true (λk=>(W P GL).rd r1 k) λt1=>(W P GL).gr (.bool c) true (λk=>(W P GL).rd r2 k) λf=>(W P GL).gr (.bool c) true (λk=>(W P GL).rd (f3 t1 f) k) λi=>(W P GL).gr (.bool c) true (λk=>(W P GL).rd (f4 i) k) λt4=>(W P GL).rd (Xk [.bool c,t4,.bool false] J) K:=by
 cases c with
 |true=>exact Xb (Z h1 (Xb (Z h2 (Xb (Z h3 (Xb (Z h4 (Z rfl b))))))))
 |false=>exact Yc rfl (Yc rfl (Yc rfl (Yc rfl (Z rfl b))))
theorem ZdM{K:I->Prop}{r3:aL}{f2 f4:I->aL}{f5:I->I->aL}{v4:I}{q5:List Nat}(h1:r1=.ok v1 q1 [])(h2:f2 v1=.ok v2 q2 [])(h3:r3=.ok v3 q3 [])(h4:f4 v3=.ok v4 q4 [])(h5:f5 v2 v4=.ok (.bool d) q5 [])(b:K (.bool (c&&d))) :
  (W P GL).gr (.bool c) true (λk=>(W P GL).rd r1 k) λt1=>(W P GL).gr (.bool c) true (λk=>(W P GL).rd (f2 t1) k) λf=>(W P GL).gr (.bool c) true (λk=>(W P GL).rd r3 k) λi=>(W P GL).gr (.bool c) true (λk=>(W P GL).rd (f4 i) k) λj=>(W P GL).gr (.bool c) true (λk=>(W P GL).rd (f5 f j) k) λt5=>(W P GL).rd (Xk [.bool c,t5,.bool false] J) K:=by
 cases c with
 |true=>exact Xb (Z h1 (Xb (Z h2 (Xb (Z h3 (Xb (Z h4 (Xb (Z h5 (Z rfl b))))))))))
 |false=>exact Yc rfl (Yc rfl (Yc rfl (Yc rfl (Yc rfl (Z rfl b)))))
theorem YdM{K:I->Prop}{r2:aL}{f3:I->aL}{f4:I->I->aL}{f5:I->aL}{v4:I}{q5:List Nat}(h1:r1=.ok v1 q1 [])(h2:r2=.ok v2 q2 [])(h3:f3 v2=.ok v3 q3 [])(h4:f4 v1 v3=.ok v4 q4 [])(h5:f5 v4=.ok (.bool d) q5 [])(b:K (.bool (c&&d))) :
  (W P GL).gr (.bool c) true (λk=>(W P GL).rd r1 k) λt1=>(W P GL).gr (.bool c) true (λk=>(W P GL).rd r2 k) λf=>(W P GL).gr (.bool c) true (λk=>(W P GL).rd (f3 f) k) λi=>(W P GL).gr (.bool c) true (λk=>(W P GL).rd (f4 t1 i) k) λj=>(W P GL).gr (.bool c) true (λk=>(W P GL).rd (f5 j) k) λt5=>(W P GL).rd (Xk [.bool c,t5,.bool false] J) K:=by
 cases c with
 |true=>exact Xb (Z h1 (Xb (Z h2 (Xb (Z h3 (Xb (Z h4 (Xb (Z h5 (Z rfl b))))))))))
 |false=>exact Yc rfl (Yc rfl (Yc rfl (Yc rfl (Yc rfl (Z rfl b)))))
theorem XdL{K:List U->I->Prop}{f2:I->aL}{f3:I->(KT)->Prop}{g:List U->List U}(h1:r1=.ok v1 q1 [])(h2:f2 v1=.ok v2 q2 [])(h3:∀k:KT,k (.bool d) J->f3 v2 k)(b:K J (.bool (c&&d))) :
  (W P GL).gr (.bool c) true (λk=>(W P GL).rd r1 k) λt1=>(W P GL).gr (.bool c) true (λk=>(W P GL).rd (f2 t1) k) λf=>(W P GL).gw (.bool c) true (λk=>f3 f k) J λt3 σ'=>(W P GL).rd (Xk [.bool c,t3,.bool false] (g σ')) (K σ'):=by
 cases c with
 |true=>exact Xb (Z h1 (Xb (Z h2 (Xq (h3 _ (Z rfl b))))))
 |false=>exact Yc rfl (Yc rfl (Xu rfl (Z rfl b)))
def Old(J σ':List U):Prop:=J.length<=σ'.length/\∀c,c<J.length->ai σ' c=ai J c
theorem Old.trans{a b c:List U}(h:Old a b)(k:Old b c):Old a c:=⟨CI h.1 k.1,λi f=>by rw[k.2 i (by have:=h.1;omega),h.2 i f]⟩
theorem Old.app(J l:List U):Old J (J++l):=⟨by simp,λ_ h=>Zg l h⟩
theorem Old.get{σ':List U}(h:Old J σ'){c:Nat}{x:U}(hx:ai J c=x)(hd:x≠.dead):ai σ' c=x:=by
 rw[h.2 c (Yb hx hd)];exact hx
theorem Bt.M_{σ':List U}{x:U}(h:Bt J.length (J++[x]) σ'):Old J σ':=by
 obtain⟨h1,h2⟩:=h;simp only[AT,EJ]at h1 h2;exact⟨by omega,λc b=>by rw[h2 c (by omega) (by omega),Zg _ b]⟩
def oB(m:List (Tx×Bool))(l:List Tx):Prop:=∀t,(cA t m).getD false=l.any λd=>d==t
theorem oB.nil:oB [] []:=λt=>by simp[cA]
theorem oB.put{m:List (Tx×Bool)}{l:List Tx}(h:oB m l)(c:Tx):oB (mg c true m) (l++[c]):=by
 intro t;rw[Y7,Gn,<-h t]
 grind
variable{α:Type}
theorem QdB(l:List α)(f:α->Bool):(!l.any f)=l.all λx=>!f x:=by
 grind
theorem Qel(b:Bk)(hc:b.aj.length<=iC)(l:List Tx)(hl:l.length<=iC)(ok:Bool)(Ch:ai J 0=.box [iX b.aj,oT b.ar]){K:n_}
 (A:∀w σ',Old J σ'->K [w,.bool (ok&&iz b.aj [] l)] σ') :
  VV.loop (λB v57 f=>VV.rd (Qn .lss false [(h0 v57),O l.length] f) λC=>VV.test C (
   VV.rd (Zi 1 [I9 l,(h0 v57)] f) λD=>VV.rd (Xf false 1 [D] f) λp=>VV.rd (Xf true 2 [.ak 0 0] f) λE=>
   VV.call (.call 90) [E,p] f λx f=>VV.rd (Zk 0 [x] f) λaa5=>VV.rd (Zk 1 [x] f) λF=>
   VV.gr (h1 v57) true (λk=>VV.rd (mi [F] f) k) λG=>VV.rd (Xk [(h1 v57),G,(.bool false)] f) λj=>
   VV.gr j true (λk=>VV.rd (mi [.map J.length] f) k) λH=>VV.gr j true (λk=>VV.rd (mi [p] f) k) λL=>
   VV.gr j true (λk=>VV.rd (Yu true false (.bool false) [H,L] f) k) λN=>VV.gr j true (λk=>VV.rd (qH .not [N] f) k) λQ=>
   VV.rd (Xk [j,Q,(.bool false)] f) λR=>VV.wr (XD true [.map J.length,p,(.bool true)] f) f λ_ f=>
   VV.rd (Qn .add false [(h0 v57),(.int .i64 1)] f) λS=>B [S,R] f) (K v57 f)) [(.int .i64 0),.bool ok] (J ++ [.map []]):=by
 rw[de]at hl;have T:ai (J++[.map []]) J.length=.map (jn []):=Xc _ _;have hlen:J.length<(J++[U.map []]).length:=by simp
 refine Zh (ι:=Nat) (λi y s=>∃ok' m,y=[O i,.bool ok']/\i<=l.length/\ai s J.length=.map (jn m)/\oB m (l.take i)/\Bt J.length (J++[.map []]) s/\(ok&&iz b.aj [] l)=(ok'&&iz b.aj (l.take i) (l.drop i))) (λi=>l.length-i) 0 ⟨ok,[],rfl,by omega,T,by simpa using oB.nil,Bt.refl _ _,by simp⟩ ?_;rintro i y s again ⟨ok',m,rfl,hi,o,z,r,hr⟩ V;have X:ai s 0=.box [iX b.aj,oT b.ar]:=r.M_.get Ch (by simp);refine Z rfl (ZT (λh=>?_) (λh=>?_))
 ·refine Z (Zm _ vR _ _ _ l _ i h) (Z (bg (yK _)) (Z (ld X rfl) ?_));refine bD (c224 b hc _) g90.ok (Z rfl (Z rfl (YdL rfl ?_)));refine QdL rfl rfl (TP o _) rfl (Qd (HS o _ _) (Ye _ (Yb o)) (Z (Qi ..) ?_));rw[Zd (n:=i) (by omega)];have Y:=Yb o;refine V (i+1) _ _ (by omega) ⟨_,_,rfl,by omega,Zc _ Y,by rw[Yv _ _ h];exact z.put _,r.trans ⟨by simp,λc hc cC=>Qb _ hc cC⟩,?_⟩;rw[hr,gB h,iz,Yv _ _ h,z,QdB];simp only[FL]
 ·subst h;rw[As,iz,DZ]at hr;have:=A (O (l.length:Int)) s r.M_;rw[hr]at this;exact this
def uH(m:List (Tx×Bool))(l:List Fo):Prop:=∀t,(cA t m).getD false=l.any λd=>d.name==t
theorem uH.put{m:List (Tx×Bool)}{l:List Fo}(h:uH m l)(c:Fo):uH (mg c.name true m) (l++[c]):=by
 intro t;rw[Y7,Gn,<-h t]
 grind
theorem c184(b:Bk)(hf:aN b=true):PC 59 [dd b] (.agg [O (gy b [] b.ar).1,O (gy b [] b.ar).2]):=by
 simp only[aN,QE,AA,fe]at hf;obtain⟨⟨C,_⟩,Q,R⟩:=hf;have fl':=Q;rw[de]at fl';refine Xa hP g59.ok rfl rfl ?_;rw[H1.e];unfold g59;dsimp only;refine Qd rfl rfl (Qd rfl rfl (Qd rfl rfl (Z rfl (Z rfl ?_))));refine Z (v:=O b.ar.length) (rd:=[]) (by simp[Qe]) (Zh (ι:=Nat) (λi D J=>∃m,D=[O i]/\i<=b.ar.length/\ai J 0=.box [iX b.aj,oT b.ar]/\ai J 1=.box [O 0,O 0]/\ai J 2=.map (jn m)/\uH m (b.ar.take i)/\gy b [] b.ar=gy b (b.ar.take i) (b.ar.drop i)) (λi=>b.ar.length-i) 0 ⟨[],rfl,by omega,rfl,rfl,rfl,λt=>by simp[cA],by simp⟩ ?_);rintro i D J again ⟨m,rfl,hi,E,p,F,G,hr⟩ S;refine Z rfl (Ya (λh=>?_) (λh=>?_));rotate_left
 ·have h:i=b.ar.length:=by simp at h;omega
  subst h;rw[As,gy]at hr;refine Z rfl (Qd (cO p rfl rfl rfl) (Ye _ (Yb p)) (Zp (Qr (Yb p) rfl) ?_));rw[hr]
 have h:i<b.ar.length:=by simpa using h
 have H:=λ(s:List U)=>Zm s oR false false 7 b.ar .i64 i h;have y:=C1.1 R _ (AI h);have z:=Yv _ _ h;rw[gB h,gy]at hr;generalize b.ar[i]=f at H y z hr;simp only[oS,AA,fe]at y;obtain⟨fo1,fo2,fo3⟩:=y;refine Z (H _) (Z (bg (Lg f)) (Zq (row:=oR f) (row':=oR f) rfl rfl rfl ?_));have j:=Xc J (U.box (oR f));have r:ai (J++[U.box (oR f)]) 0=.box [iX b.aj,oT b.ar]:=Zb _ E;have K:ai (J++[U.box (oR f)]) 1=.box [O 0,O 0]:=Zb _ p;have A:ai (J++[U.box (oR f)]) 2=.map (jn m):=Zb _ F;generalize J++[U.box (oR f)]=T at j r K A ⊢;generalize J.length=c at j ⊢;clear E p F;refine Z (Xy ..) (XdL (g:=λs=>s) (J:=T) (d:=ej f.name) rfl (ld j rfl) (λk V=>bD (c223 _ fo1) g89.ok V) (YdM rfl rfl (ld j rfl) (TP A _) rfl (HN rfl (ld j rfl) (pL ..) (ZdM rfl (ld j rfl) rfl (ld j rfl) (JQ ..) (HN rfl (ld j rfl) (JQ ..) (HN rfl (ld j rfl) (pL ..) (HN rfl (ld j rfl) (JQ ..) (Z rfl (Z (ld j rfl) (Z rfl (Z (ld j rfl) (Z rfl ?_))))))))))));refine ZM 3 (Yk (Z rfl (Xg (Z rfl (Qd rfl (Qf _ _) ?_)))));refine Z (v:=O f.jk.length) (rd:=[]) (by simp[Qe]) (Qel b C f.jk fo2 _ r (λw τ2 L=>?_));refine Z rfl (Yk (Z rfl (Xg (Z rfl (Qd rfl (Qf _ _) ?_)))));refine Z (v:=O f.single.length) (rd:=[]) (by simp[Qe]) (Qel b C f.single fo3 _ (L.get r (by simp)) (λw τ3 X=>?_));have o:=L.trans X;refine Z rfl (Yk (Z rfl (Yf ?_)));have Y:((((((((((decide ((i:Int)<240)&&ej f.name) && !(cA f.name m).getD false)&&decide (0<=f.least))&&decide (f.least<=f.most))&&decide (f.most<=60))&&decide (0<=f.jJ))&&decide (f.jJ<=999))&&iz b.aj [] f.jk)&&iz b.aj [] f.single))=mH b (b.ar.take i) f:=by
  have hti:(b.ar.take i).length=i:=by rw[EM];omega
  have e:decide ((i:Int)<240)=decide (i<240):=by congr 1;simp;omega
  rw[mH,hti,G,e];generalize (List.take i b.ar).any (λg=>g.name==f.name)=x1;generalize decide (i<240)=x2;generalize ej f.name=x3;cases x1<;>cases x2<;>cases x3<;>simp[FL]
 have x:=o.get K (by simp);have B:=o.get A (by simp);have N:=o.get j (by simp);have LA:=o.get r (by simp);refine Z (v:=.bool (!mH b (b.ar.take i) f)) (rd:=[]) (by rw[<-Y];rfl) (Ya (λh2=>?_) (λh2=>?_))
 ·have h2:mH b (b.ar.take i) f=false:=by simpa using h2
  rw[h2,aB (by simp)]at hr;refine Z rfl (Z (ld N rfl) (Z rfl (Qd (cO x rfl rfl rfl) (Ye _ (Yb x)) (Zp (Qr (Yb x) rfl) ?_))));rw[hr]
 ·have h2:mH b (b.ar.take i) f=true:=by simpa using h2
  rw[h2,aE rfl]at hr;refine Z rfl (Z (ld N rfl) (Qd (HS B _ _) (Ye _ (Yb B)) (Z (Qi ..) ?_)));rw[Zd (n:=i) (by omega)];refine S (i+1) _ _ (by omega) ⟨_,rfl,by omega,?_,?_,Zc _ (Yb B),by rw[z];exact G.put f,by rw[z];exact hr⟩
  ·exact Qa LA (by simp) (by omega)
  ·exact Qa x (by simp) (by omega)
def Yg(l:List Cd):Prop:=∀c∈l,(od c).length<=500000000
theorem BI(cs:List Cd)(hf:QE cs=true)(hs:Yg cs):PC 55 [iX cs] (.agg [O (dD cs).1,O (dD cs).2]):=by
 refine c180 cs hf (λm i c j=>?_);have b:gq c=true:=by
  simp_all [QE]
 have f:=b;simp only[gq,AA,fe]at f;obtain⟨o,q1,q2,q3⟩:=f;exact c221 m cs i c b (c223 _ o) (c124 c q1 q2 q3 (hs c j))
theorem c143(b:Bk)(hf:aN b=true)(hs:Yg b.aj):PC 31 [dd b] (.agg [O (bO b).1,O (bO b).2]):=by
 have f:=hf;simp only[aN,AA]at f;have i:=f.1;have p179:PC 54 [.al [iX b.aj,oT b.ar] 0] (.agg [O (dD b.aj).1,O (dD b.aj).2]):=by
  refine Xa hP g54.ok rfl rfl ?_;rw[H1.e];unfold g54;dsimp only;refine ay (bD (BI _ i hs) g55.ok ?_);exact ay rfl
 have p181:PC 56 [.al [iX b.aj,oT b.ar] 0] (.agg [O (ju b.aj).1,O (ju b.aj).2]):=by
  refine Xa hP g56.ok rfl rfl ?_;rw[H1.e];unfold g56;dsimp only;refine ay (bD (c182 _ i) g57.ok ?_);exact ay rfl
 have p183:PC 58 [.al [iX b.aj,oT b.ar] 0] (.agg [O (gy b [] b.ar).1,O (gy b [] b.ar).2]):=by
  refine Xa hP g58.ok rfl rfl ?_;rw[H1.e];unfold g58;dsimp only;refine ay (bD (c184 b hf) g59.ok ?_);exact ay rfl
 refine Xa hP g31.ok rfl rfl ?_;rw[H1.e];unfold g31;dsimp only;refine ay ?_;refine ZM 4 (Yk ?_);refine ay (ZH p179 rfl g54.ok.plain rfl rfl ?_);refine ae (Ya (λh=>?_) (λh=>Z rfl ?_))
 ·refine ay ?_;rw[bO,aE (by simpa using h)]
 refine Yk (ay (ZH p181 rfl g56.ok.plain rfl rfl ?_));refine ae ?_;refine Ya (λh2=>?_) (λh2=>Z rfl ?_)
 ·refine ay ?_;simp_all [bO]
 refine Yk (ay (ZH p183 rfl g58.ok.plain rfl rfl ?_));refine ae (Ya (λh3=>?_) (λh3=>Z rfl ?_))
 ·refine ay ?_;simp_all [bO]
 refine Yk (ay ?_);rw[bO,aB (by simpa using h),aB (by simpa using h2)];have h3:(gy b [] b.ar).1=0:=by simpa using h3
 have key:∀(l pre:List Fo),(gy b pre l).1=0->(gy b pre l).2=0:=by
  intro l
  induction l<;>grind [gy]
 rw[h3,key _ _ h3]
theorem dH.xl{f:FuncId}{e:Bool}{sz:Nat}{bs:List U}(h1:dH P GL f [.aq] v bs)(h2:dH P GL f [.aX e true sz []] v bs):dH P GL f [.aX e false sz []] v bs:=by
 intro w M j b i o
 match j,o with
 |[u],⟨hu,_⟩=>
  have hu':Den M bE (.aX e false sz []) u:=hu;cases hu' with
  |aX _ _ _ _ _ a cap aD off f q1 q2 q3 q4 r s x y=>
   cases a with
   |none=>
    have:=q4 rfl;subst this;exact h1 w M _ b i ⟨.aq _,trivial⟩
   |some p=>exact h2 w M _ b i ⟨.aX _ e true sz [] (some p) cap aD off f q1 (λ_=>rfl) q3 q4 r s x y,trivial⟩
theorem c96(l:List Int)(hl:l.length<=1000000000):dH prog aQ 30 [aM l] (.sl 0 0 l.length false) [.rows 1 (l.map aK)]:=by
 cases l with
 |nil=>
  refine dH.xl ?_ ?_
  ·refine QC hP g30.ok rfl ?_;rw[H1.e];unfold g30;dsimp only;exact Z rfl (Xg (Tidy.ghost 1 (.inl rfl)))
  ·refine QC hP g30.ok rfl ?_;rw[H1.e];unfold g30;dsimp only;exact ay (Tidy.trans (Tidy.d_ λM c u d=>Q0 (.aX true true 1 []) ⟨M,c⟩ u d) (Tidy.ghost 1 (.inr rfl)))
 |cons x l=>
  refine QC hP g30.ok rfl ?_;rw[H1.e];unfold g30;dsimp only;refine ay (Qd (v:=.sl 0 0 (x :: l).length false) (rd:=[]) (up:=[(0,.rows 1 ((x :: l).map aK))]) ?_ rfl (Tidy.refl _ _));show (match Yl 1 [] (aM (x :: l))with
   |some (b,rd)=>bif a_ b&&BY ((2*(([]:List (List I)).length+b.length)+192)*8) (2 ^ 48)then aL.ok (.sl 0 0 (([]:List (List I)).length+b.length) false) rd ([]++[(0,U.rows 1 ([]++b))])else aL.stop
   | none=>.stop)=_
  have h1:Yl 1 [] (aM (x::l))=some ((x::l).map aK,[]):=rfl;have h2:∀q:List Int,a_ (q.map aK)=true:=by
   intro q;induction q with
   |nil=>rfl
   |cons y q f=>simp only[B7,a_,f,DZ];rfl
  have h3:BY ((2*(([]:List (List I)).length+((x::l).map aK).length)+192)*8) (2 ^ 48)=true:=AH (by simp only[Be,Cb];omega);simp only[h1,h2,h3,C2,cond_true];simp
variable{K:KT}
variable{l:List Int}
theorem w96(hl:l.length<=1000000000)(b:K (.sl J.length 0 l.length false) (J++[.rows 1 (l.map aK)])):VV.call (.call 30) [aM l] J K:=by
 refine J9 (c96 l hl) rfl g30.ok.plain rfl ?_;simp only[Zx,B7,E4,Du,I.cy,ZG,Al];exact b
theorem d96(hl:l.length<=1000000000){K:I->List Nat×List Nat->List U->Prop}(b:K (.sl J.length 0 l.length false) ([],[J.length]) (J++[.rows 1 (l.map aK)])):VV.dT (.call 30) [aM l] J K:=by
 refine Qb5 (c96 l hl) rfl g30.ok.plain rfl ?_;simp only[Zx,B7,E4,Du,I.cy,ZG,Al,zQ];exact b
theorem c112(l:List Th)(hl:l.length<=1000000000):dH prog aQ 37 [ly l] (.sl 0 0 l.length false) [.rows 4 (l.map br)]:=by
 cases l with
 |nil=>
  refine dH.xl ?_ ?_
  ·refine QC hP g37.ok rfl ?_;rw[H1.e];unfold g37;dsimp only;exact Z rfl (Xg (Tidy.ghost 4 (.inl rfl)))
  ·refine QC hP g37.ok rfl ?_;rw[H1.e];unfold g37;dsimp only;exact ay (Tidy.trans (Tidy.d_ λM c u d=>Q0 (.aX true true 4 []) ⟨M,c⟩ u d) (Tidy.ghost 4 (.inr rfl)))
 |cons x l=>
  refine QC hP g37.ok rfl ?_;rw[H1.e];unfold g37;dsimp only;refine ay (Qd (v:=.sl 0 0 (x :: l).length false) (rd:=[]) (up:=[(0,.rows 4 ((x :: l).map br))]) ?_ rfl (Tidy.refl _ _));show (match Yl 4 [] (ly (x :: l))with
   |some (b,rd)=>bif a_ b&&BY ((2*(([]:List (List I)).length+b.length)+192)*32) (2 ^ 48)then aL.ok (.sl 0 0 (([]:List (List I)).length+b.length) false) rd ([]++[(0,U.rows 4 ([]++b))])else aL.stop
   | none=>.stop)=_
  have h1:Yl 4 [] (ly (x::l))=some ((x::l).map br,[]):=rfl;have h2:∀q:List Th,a_ (q.map br)=true:=by
   intro q;induction q with
   |nil=>rfl
   |cons y q f=>simp only[B7,a_,f,DZ];rfl
  have h3:BY ((2*(([]:List (List I)).length+((x::l).map br).length)+192)*32) (2 ^ 48)=true:=AH (by simp only[Be,Cb];omega);simp only[h1,h2,h3,C2,cond_true];simp
theorem d112{l:List Th}(hl:l.length<=1000000000){K:I->List Nat×List Nat->List U->Prop}(b:K (.sl J.length 0 l.length false) ([],[J.length]) (J++[.rows 4 (l.map br)])):VV.dT (.call 37) [ly l] J K:=by
 refine Qb5 (c112 l hl) rfl g37.ok.plain rfl ?_;simp only[Zx,B7,E4,Ro,I.cy,ZG,Al,zQ];exact b
theorem c59(s:St)(hs:ba 1000000000 s):dH prog aQ 17 [bN s] (.agg (jL s 0)) (hJ s):=by
 refine QC hP g17.ok rfl ?_;rw[H1.e];unfold g17;dsimp only;have b:AF.wrap (0+1)=1:=by decide
 have f:AF.wrap (1+1)=2:=by decide
 refine ay (w96 hs.an ?_);simp only[A1,Cb,Cm,Cz,Al,Nat.reduceAdd];refine ay (ZM 3 (Yk ?_));refine ay (d96 hs.s0.az ?_);simp only[A1,Cb,Cm,Cz,Al,Nat.reduceAdd];refine ay (d96 hs.s0.hand ?_);simp only[A1,Cb,Cm,Cz,Al,Nat.reduceAdd];refine ay (d96 hs.s0.ao ?_);simp only[A1,Cb,Cm,Cz,Al,Nat.reduceAdd];refine ay (d96 hs.s0.told ?_);simp only[A1,Cb,Cm,Cz,Al,Nat.reduceAdd];refine ay (d112 hs.s0.af ?_);simp only[A1,Cb,Cm,Cz,Al,Nat.reduceAdd];repeat first|refine Z rfl ?_|refine Qd rfl rfl ?_|refine Xd rfl ?_|refine Ze rfl rfl ?_
 refine Xo (by kernel_rfl) (Z rfl ?_);rw[b];refine Yk (ay (d96 hs.s1.az ?_));simp only[A1,Cb,Cm,Cz,Al,Nat.reduceAdd];refine ay (d96 hs.s1.hand ?_);simp only[A1,Cb,Cm,Cz,Al,Nat.reduceAdd];refine ay (d96 hs.s1.ao ?_);simp only[A1,Cb,Cm,Cz,Al,Nat.reduceAdd];refine ay (d96 hs.s1.told ?_);simp only[A1,Cb,Cm,Cz,Al,Nat.reduceAdd];refine ay (d112 hs.s1.af ?_);simp only[A1,Cb,Cm,Cz,Al,Nat.reduceAdd];repeat first|refine Z rfl ?_|refine Qd rfl rfl ?_|refine Xd rfl ?_|refine Ze rfl rfl ?_
 refine Xo (by kernel_rfl) (Z rfl ?_);rw[f];refine Yk ?_;refine ay ?_;refine Tidy.gc [2,3,4,5,7,6,8,9,10,12,11] (by decide) (by simp) ?_ rfl;simp only[RQ,B7,E4,ai,Du,Ro]
def c7{α:Type}(t:Int):List (Int×α)->Option α
 |[]=>none
 |p::l=>if t==p.1 then some p.2 else c7 t l
def jq{α:Type}(f:α->I)(l:List (Int×α)):List (I×I):=l.map λp=>(O p.1,f p.2)
theorem Xb6(f:α->I)(t:Int):∀l:List (Int×α),js (O t) (jq f l)=some ((c7 t l).map f)
 |[]=>rfl
 |p::l=>by
  simp only[jq,B7,js,jA,c7,j4,cond_true];cases h:t==p.1 with
  |true=>rfl
  |false=>exact Xb6 f t l
theorem QcG(f:α->I)(t:Int)(v:α):∀l:List (Int×α),c7 t l=none->oE (O t) (f v) (jq f l)=some (jq f (l++[(t,v)]))
 |[],_=>rfl
 |p::l,h=>by
  rw[c7]at h;split at h
  ·cases h
  ·rename_i h2;have h2:(t==p.1)=false:=by simpa using h2
   have:=QcG f t v l h;simp only[jq]at this;simp only[jq,B7,Cz,oE,jA,j4,cond_true,h2,this]
theorem Za8(t:Int):∀ (a b:List (Int × α)),c7 t (a ++ b)=(match c7 t a with
 |some v=>some v
 | none=>c7 t b)
 |[],b=>rfl
 |p::a,b=>by
  simp only[Cz,c7];split
  ·rfl
  ·exact Za8 t a b
theorem Rc(t:Int):∀l:List (Int×α),(c7 t l).isSome=(l.map (·.1)).contains t
 |[]=>rfl
 |p::l=>by
  simp only[c7,B7,Hy];cases h:t==p.1 with
  |true=>simp
  |false=>simp only[B8,if_false,FD];exact Rc t l
variable{b m n:Nat}
theorem Dl(f:α->I)(z:I)(ok:Bool){l:List (Int×α)}(h:ai J b=.map (jq f l))(t:Int):Yu false ok z [.map b,O t] J=.ok (lK ok z ((c7 t l).map f)) [b] []:=by
 simp only[Yu,zG,mapOf,h,Xb6,cond_true]
theorem H_(f:α->I){l:List (Int×α)}(h:ai J b=.map (jq f l))(t:Int)(v:α)(hn:c7 t l=none):XD false [.map b,O t,f v] J=.ok .aP [] [(b,.map (jq f (l++[(t,v)])))]:=by
 simp only[XD,zG,h,QcG f t v l hn,cond_true]
structure wJ (row:List I) (j:Nat) (x:Sd):Prop where
 h0:aO false (j+0) 1 row=some (O x.aY)
 h1:aO false (j+1) 1 row=some (O x.aW)
 h2:aO false (j+2) 1 row=some (O x.most)
 h3:aO false (j+3) 1 row=some (aM x.az)
 h4:aO false (j+4) 1 row=some (aM x.hand)
 h5:aO false (j+5) 1 row=some (aM x.ao)
 h6:aO false (j+6) 1 row=some (ly x.af)
 h7:aO false (j+7) 1 row=some (aM x.told)
theorem CX(s:St):wJ (aH s) 7 s.s0:=⟨rfl,rfl,rfl,rfl,rfl,rfl,rfl,rfl⟩
theorem CY(s:St):wJ (aH s) 15 s.s1:=⟨rfl,rfl,rfl,rfl,rfl,rfl,rfl,rfl⟩
set_option maxHeartbeats 2000000
theorem c120(l:List Int)(hl:l.length<=iC)(id:FuncId)(o cs:List I)(hp:Qh prog id=true)(f:Int->Bool)(hc:∀x∈l,PC id (o++[O x]++cs) (.bool (f x)))(hr:∀x,fV (o++[O x]++cs)=true) :
  PC 60 [aM l,.func (.func id) o cs] (O (ea f l 0)):=by
 rw[de]at hl;refine Xa hP g60.ok rfl rfl ?_;rw[H2.e];unfold g60;dsimp only;refine Z (v:=O l.length) (rd:=[]) (by simp[Qe]) (Zh (ι:=Nat) (λi p s=>p=[O i]/\i<=l.length/\ea f l 0=ea f (l.drop i) i) (λi=>l.length-i) 0 ⟨rfl,by omega,by simp⟩ ?_);rintro i p s again ⟨rfl,y,j⟩ r;refine Z rfl (ZT (λh=>?_) (λh=>?_))
 ·refine Z (Zm _ aK _ _ _ l _ i h) (Z (bg rfl) ?_);refine Qm (hc _ (AI h)) rfl hp (hr _) ?_;rw[gB h,ea]at j;refine Ya (λh2=>?_) (λh2=>?_)
  ·rw[aE h2]at j;rw[j];rfl
  ·rw[aB (by rw[h2];simp)]at j;refine Z (Qi ..) ?_;rw[Zd (n:=i) (by omega)];exact r (i+1) _ _ (by omega) ⟨rfl,by omega,by rw[j];push_cast;rfl⟩
 ·subst h;rw[As,ea]at j;rw[j]
theorem c185(l:List Int)(hl:l.length<=iC)(id:FuncId)(i cs:List I)(hp:Qh prog id=true)(f:Int->Bool)(hc:∀x∈l,PC id (i++[O x]++cs) (.bool (f x)))(hr:∀x,fV (i++[O x]++cs)=true)(j:fV [aM l,.func (.func id) i cs]=true) :
  PC 32 [aM l,.func (.func id) i cs] (.bool (l.any f)):=by
 refine Xa hP g32.ok rfl rfl ?_;rw[H2.e];unfold g32;dsimp only;refine Qm (c120 l hl id i cs hp f hc hr) rfl g60.ok.plain j (Z (pL ..) ?_);rw[Ph f l 0 (by omega)]
theorem c186(b:Bk)(x:Int):PC 147 [O x,.al [.al [iX b.aj,oT b.ar] 0] 0] (.bool (decide (x<0)||decide ((b.aj.length:Int)<=x))):=by
 refine Xa hP g147.ok rfl rfl ?_;rw[H2.e];unfold g147;dsimp only;refine Z (Xy ..) (HU (λ_=>rfl) (λ_=>bg rfl) (λ_=>rfl) (λ_=>rfl) (λ_=>bg rfl) (v6:=O b.aj.length) (q6:=[]) (λ_=>by simp[Qe]) (λ_=>pL ..) rfl)
theorem Yc2(n:Nat)(l:List Int)(most:Int):(!(decide ((l.length:Int)>most)||l.any λx=>decide (x<0)||decide ((n:Int)<=x)))=Zn n l most:=by
 rw[Zn,Bool.not_or,QdB]
 congr 1
 ·rw[C6];simp
 ·congr 1;funext x
  rw[C6];simp
theorem Xd7(f:Int->I)(z:I)(o:Option Int):lK true z (o.map f)=.bw [(o.map f).getD z,.bool o.isSome]:=by cases o<;>rfl
variable{row cs:List I}
theorem Qdg(h:ai J b=.box [.al row 0])(l:List Int)(id:FuncId):Qx J 1000 [aM l,.func (.func id) [] [.ak b 0]]=some ([aM l,.func (.func id) [] [.al [.al row 0] 0]],[b]):=by
 simp_all [Qx]
set_option maxHeartbeats 4000000
@[reducible] def cf(b:Bk):List I:=[iX b.aj,oT b.ar]
theorem Pp(b:Bk)(l:List Int)(hl:l.length<=iC)(most:Int){b4:Nat}(hb:ai J b4=.box [.al (cf b) 0]){R K:List U->Prop}(hR:Zn b.aj.length l most=false->∀σ',Old J σ'->R σ')(r:Zn b.aj.length l most=true->∀σ',Old J σ'->K σ') :
  VV.wr (Zt [.aq,(.int .i64 0)] [] J) J λj J=>VV.wr (Xh 2 [j,.agg [aM l,O most]] J) J λ_ J=>
  VV.rd (Qc 0 [j] J) λs=>VV.rd (Xf false 1 [s] J) λw=>VV.rd (Yn [w] J) λy=>
  VV.rd (Qc 1 [j] J) λz=>VV.rd (Xf false 1 [z] J) λA=>VV.rd (Qn .gtr false [y,A] J) λf=>
  VV.gr f false (λk=>VV.rd (Qc 0 [j] J) k) λB=>VV.gr f false (λk=>VV.rd (Xf false 1 [B] J) k) λC=>
  VV.gr f false (λk=>VV.rd (ZN (.func 147) 0 [.ak b4 0] J) k) λD=>VV.gw f false (λk=>VV.call (.call 32) [C,D] J k) J λE J=>
  VV.rd (Xk [f,(.bool true),E] J) λF=>VV.test F (R J) (K J):=by
 refine Zq (row:=[aM l,O most]) rfl rfl rfl ?_;have i:=Xc J (U.box [aM l,O most]);have p:ai (J++[U.box [aM l,O most]]) b4=.box [.al (cf b) 0]:=Zb _ hb;have o:=Old.app J [U.box [aM l,O most]];generalize J++[U.box [aM l,O most]]=H at i p o ⊢;generalize J.length=c at i ⊢;refine Z rfl (Z (ld i rfl) (Z (v:=O l.length) (rd:=[]) (by simp[Qe]) (Z rfl (Z (ld i rfl) (Z (Y4 ..) ?_)))));refine ZdN (d:=l.any λx=>decide (x<0)||decide ((b.aj.length:Int)<=x)) (λ_=>rfl) (λ_=>ld i rfl) (λ_=>rfl) (λ_ k G=>?_) ?_
 ·exact ZH (c185 l hl 147 [] [.al [.al (cf b) 0] 0] g147.ok.plain (λx=>decide (x<0)||decide ((b.aj.length:Int)<=x)) (λx _=>c186 b x) (λx=>rfl) rfl) rfl g32.ok.plain (Qdg p l 147) rfl G
 have he:=Yc2 b.aj.length l most;refine Ya (λh=>hR ?_ _ o) (λh=>r ?_ _ o)
 ·rw[<-he,h];rfl
 ·rw[<-he,h];rfl
theorem YeJ(b:Bk)(next:Int)(u:Th)(met:Bool) :
  (!((((((((met||decide (u.card<0))||decide ((b.aj.length:Int)<=u.card)) || !((b.aj[u.card.toNat]?).getD default).unit)||decide (u.harm<0))||decide (1000000<u.harm))||decide (u.id<1))||decide (next<=u.id))))=(Qv b next u && !met):=by
 rw[Qv]
 grind
theorem c144(b:Bk)(s:St)(side:Int)(j:Nat)(x:Sd)(hx:wJ (aH s) j x)(hj:∀J,Qo 2 8 [.al (aH s) (0+7),O side] J=.ok (.al (aH s) j) [] [])(hs:mX 1000000000 x)(ids:List (Int×Int))(hm:ai J m=.map (jq O ids))
 (hF:(Yx b.aj.length x&&QA b s.next (ids.map (·.1)) x.af)=false->∀σ',K (.bool false) σ')
 (hT:(Yx b.aj.length x&&QA b s.next (ids.map (·.1)) x.af)=true->∀σ',Bt m J σ'->ai σ' m=.map (jq O (ids++x.af.map λu=>(u.id,side)))->K (.bool true) σ') :
  g99.u VV [.al (cf b) 0,.al (aH s) 0,O side,.map m] J K:=by
 rw[H4.e];unfold g99;dsimp only;refine Qd rfl (Qf _ _) ?_;have p:=Xc J (U.box [.al (cf b) 0]);have r:ai (J++[U.box [.al (cf b) 0]]) m=.map (jq O ids):=Zb _ hm;have N:=Old.app J [U.box [.al (cf b) 0]];have sF:=Yb hm;have C:m≠J.length:=by omega
 generalize J++[U.box [.al (cf b) 0]]=D at p r N ⊢;generalize J.length=c at p C ⊢;refine Z rfl (Z rfl (Z (hj _) (Z rfl (Z rfl (Z (bg hx.h0) ?_)))));refine bD (c57 _) g91.ok (Z rfl ?_);refine J5 (λ_=>rfl) (λ_=>rfl) (λ_=>rfl) (λ_=>bg hx.h1) (λ_=>Xy ..) (Xcp (λ_=>rfl) (λ_=>rfl) (λ_=>rfl) (λ_=>bg hx.h1) (λ_ k E=>bD (c57 _) g91.ok E) (λ_=>rfl) (J5 (λ_=>rfl) (λ_=>rfl) (λ_=>rfl) (λ_=>bg hx.h2) (λ_=>Xy ..) (J5 (λ_=>rfl) (λ_=>rfl) (λ_=>rfl) (λ_=>bg hx.h2) (λ_=>Y4 ..) (Ia (λ_=>rfl) (λ_=>rfl) (λ_=>rfl) (λ_=>bg hx.h6) (v5:=O x.af.length) (q5:=[]) (λ_=>by simp[Qe]) (λ_=>Y4 ..) (Ya (λh=>hF ?_ _) (λh=>?_))))))
 ·have:Yx b.aj.length x=false:=by
   rw[D9];intro y;simp only[Yx,AA,fe]at y;obtain⟨F,V,G,X,Y,_,_,_,_,p6⟩:=y;simp only[F,G,Bool.not_true,FD,L0,Bool.or_eq_true,fe]at h;omega
  rw[this];rfl
 simp only[Ct,FI,pI]at h;obtain⟨⟨⟨⟨⟨F,V⟩,G⟩,X⟩,Y⟩,p6⟩:=h;have y:Yx b.aj.length x=(Zn b.aj.length x.az 60&&(Zn b.aj.length x.hand 10&&(Zn b.aj.length x.ao 1000000&&Zn b.aj.length x.told 1000000))):=by
  have q2:decide (0<=x.aW)=true:=by simp;omega
  have q4:decide (0<=x.most)=true:=by simp;omega
  have T:decide (x.most<=10)=true:=by simp;omega
  have q6:decide (x.af.length<=7)=true:=by simp;omega
  rw[Yx,F,G,q2,q4,T,q6];simp
 rw[y]at hF hT;clear y F V G X Y p6;refine Z rfl (Z rfl (Z (bg hx.h3) (Z rfl (Z rfl (Z rfl (Z (bg hx.h4) (Z rfl (Z rfl (Z rfl (Z (bg hx.h5) (Z rfl (Z rfl (Z rfl (Z (bg hx.h7) (Z rfl (Z rfl ?_))))))))))))))));have d1:=hs.az;have d2:=hs.hand;have d3:=hs.ao;have d4:=hs.told;have d5:=hs.af;refine ZM 5 (Yk (Z rfl (Xg (Z rfl ?_))));refine Pp b x.az (by rw[de];omega) 60 p (λh _ _=>hF (by rw[h];rfl) _) (λH σ1 Q=>Z rfl (Yk (Z rfl (Xg (Z rfl ?_)))));refine Pp b x.hand (by rw[de];omega) 10 (Q.get p (by simp)) (λh _ _=>hF (by rw[H,h];rfl) _) (λa2 σ2 z=>Z rfl (Yk (Z rfl (Xg (Z rfl ?_)))))
 replace z:=Q.trans z
 refine Pp b x.ao (by rw[de];omega) 1000000 (z.get p (by simp)) (λh _ _=>hF (by rw[H,a2,h];rfl) _) (λa3 σ3 A=>Z rfl (Yk (Z rfl (Xg (Z rfl ?_)))))
 replace A:=z.trans A
 refine Pp b x.told (by rw[de];omega) 1000000 (A.get p (by simp)) (λh _ _=>hF (by rw[H,a2,a3,h];rfl) _) (λa4 σ4 w=>Z rfl (Yk (Z rfl (Yf ?_))))
 replace w:=A.trans w
 rw[H,a2,a3,a4]at hF hT;simp only[C2,Ax]at hF hT;have hB4:=w.get p (by simp);have hm4:=w.get r (by simp);have R:=N.trans w;clear Q z A w N p r hm;refine Z rfl (Z rfl (Z (bg hx.h6) (Z (v:=O x.af.length) (rd:=[]) (by simp[Qe]) ?_)));refine Zh (ι:=Nat) (λi vs D=>vs=[O i]/\i<=x.af.length/\ai D c=.box [.al (cf b) 0]/\ai D m=.map (jq O (ids++(x.af.take i).map λu=>(u.id,side)))/\Bt m J D/\QA b s.next (ids.map (·.1)) x.af=QA b s.next ((ids++(x.af.take i).map λu=>(u.id,side)).map (·.1)) (x.af.drop i)) (λi=>x.af.length-i) 0
  ⟨rfl,by omega,hB4,by simpa using hm4,⟨R.1,λc B _=>R.2 c B⟩,by simp⟩ ?_
 clear hB4 hm4 R;rintro i vs τ1 again ⟨rfl,hi,p,hm,rM,hr⟩ bj;refine Z rfl (Ya (λh=>?_) (λh=>?_));rotate_left
 ·have h:i=x.af.length:=by simp at h;omega
  subst h;rw[As,QA]at hr;rw[C5]at hm;exact hT hr _ rM hm
 have h:i<x.af.length:=by simpa using h
 have cJ:=λ(s:List U)=>Zm s br false false 4 x.af .i64 i h;have ij:=Yv _ _ h;rw[gB h,QA]at hr;generalize x.af[i]=u at cJ ij hr;generalize hq:ids++(x.af.take i).map (λu=>(u.id,side))=cur at hm hr;have LH:ids++(x.af.take (i+1)).map (λu=>(u.id,side))=cur++[(u.id,side)]:=by rw[ij,A8,<-Cp,hq];rfl
 refine Z (cJ _) (Z (bg rfl) (Zq (row:=br u) (row':=br u) rfl rfl rfl ?_));have o:=Xc τ1 (U.box (br u));have L:ai (τ1++[U.box (br u)]) c=.box [.al (cf b) 0]:=Zb _ p;have r:ai (τ1++[U.box (br u)]) m=.map (jq O cur):=Zb _ hm;have S:=Yb r;have Am:Bt m J (τ1++[U.box (br u)]):=rM.trans (Bt.gr m (Old.app _ _).1 (Old.app _ _).2);generalize τ1++[U.box (br u)]=τ2 at o L r S Am ⊢;generalize τ1.length=d at o ⊢;refine Z rfl (Z (ld o rfl) (Z (Dl O _ _ r _) ?_));rw[Xd7];refine Z rfl (Z rfl ?_);refine vl (λ_=>rfl) (λ_=>ld o rfl) (λ_=>Xy ..) (Ye1 (λ_=>rfl) (λ_=>ld o rfl) (λ_=>ld L rfl) (λ_=>rfl) (λ_=>rfl) (λ_=>bg rfl) (v7:=O b.aj.length) (q7:=[]) (λ_=>by simp[Qe]) (λ_=>pL ..) (XeG (d:=!((b.aj[u.card.toNat]?).getD default).unit) (λ_=>ld L rfl) (λ_=>rfl) (λ_=>rfl) (λ_=>bg rfl) (λ_=>rfl) (λ_=>ld o rfl) (v7:=.al (cM ((b.aj[u.card.toNat]?).getD default)) 0) (q7:=[]) (λB=>?_) (λ_=>rfl) (λ_=>bg (uK _)) (λ_=>rfl) ?_))
 ·simp only[Ct,pI]at B;have e3:u.card.toNat<b.aj.length:=by omega
  rw[Cv e3];exact wM _ cM _ _ _ b.aj _ u.card (by omega) e3
 refine vl (λ_=>rfl) (λ_=>ld o rfl) (λ_=>Xy ..) (vl (λ_=>rfl) (λ_=>ld o rfl) (λ_=>Y4 ..) (vl (λ_=>rfl) (λ_=>ld o rfl) (λ_=>Xy ..) (HU (λ_=>rfl) (λ_=>ld o rfl) (λ_=>rfl) (λ_=>rfl) (λ_=>rfl) (v6:=O s.next) (q6:=[]) (λ_=>bg rfl) (λ_=>pL ..) ?_)));have f:=YeJ b s.next u (c7 u.id cur).isSome;have E:=Rc u.id cur;refine Ya (λh2=>hF ?_ _) (λh2=>?_)
 ·rw[h2]at f;rw[hr,<-E];have f:(Qv b s.next u && !(c7 u.id cur).isSome)=false:=f.symm;cases h5:Qv b s.next u with
  |false=>rfl
  |true=>
   rw[h5]at f;have:(c7 u.id cur).isSome=true:=by simpa using f
   rw[this];rfl
 ·rw[h2]at f;have f:(Qv b s.next u && !(c7 u.id cur).isSome)=true:=f.symm;simp only[AA,B9]at f;have lI:c7 u.id cur=none:=by
   have:=f.2;cases h5:c7 u.id cur with
   |none=>rfl
   |some v=>rw[h5]at this;cases this
  rw[f.1,<-E,f.2,Ej,Ax,Ax]at hr;refine Z rfl (Z (ld o rfl) (Qd (H_ O r _ side lI) (Ye _ S) (Z (Qi ..) ?_)));rw[Zd (n:=i) (by omega)];refine bj (i+1) _ _ (by omega) ⟨rfl,by omega,Qa L (by simp) (λe=>C e),?_,Am.trans ⟨by simp,λc B C=>Qb _ B C⟩,?_⟩
  ·rw[LH];exact Zc _ S
  ·rw[LH,hr,A8];rfl
theorem UZ(k:Int)(a:Int):∀l:List Th,c7 a (l.map λu=>(u.id,k))=(gk l a).map λ_=>k
 |[]=>rfl
 |u::l=>by
  have:=UZ k a l;simp only[B7,c7,gk,Hx];by_cases h:u.id=a
  ·simp_all
  ·have h2:(a==u.id)=false:=by simp;exact λe=>h e.symm
   simp only[h2,B8,if_false,i7 h,this,gk,Option.map_map];rfl
theorem Qdx(s:St)(a:Int):c7 a (s.s0.af.map (λu=>(u.id,(0:Int)))++s.s1.af.map (λu=>(u.id,(1:Int))))=if (aC s a).2.2=true then some (aC s a).1 else none:=by
 rw[Za8,UZ,UZ,aC]
 grind
theorem VD(b:Bk):aO true 0 2 (cf b)=some (dd b):=rfl
variable{e x:Int}
variable{s:St}
theorem Xv{b:Bk}(h:aJ e b s bare=true):e=0/\1<=s.turn/\s.turn<=4096/\0<=s.mover/\s.mover<=1/\0<=s.phase/\s.phase<=2/\0<=s.result/\s.result<=3/\((s.result==0)==(s.phase != 2))=true/\1<=s.next/\s.next<=1000000/\s.an.length<=7:=by
 simp only[aJ,AA,fe]at h
 grind
theorem Xdx(o:Option Int):lK true (O 0) (o.map O)=.bw [O (o.getD 0),.bool o.isSome]:=by cases o<;>rfl
theorem Ydx(o:Option Bool):lK false (.bool false) (o.map I.bool)=.bool (o.getD false):=by cases o<;>rfl
theorem YcQ(t:Int):∀l:List Int,(c7 t (l.map λa=>(a,true))).getD false=l.contains t
 |[]=>rfl
 |a::l=>by
  simp only[B7,c7,Hy];cases h:t==a<;>simp_all [YcQ]
theorem c111(b:Bk)(hf:aN b=true)(bn:Yg b.aj)(s:St)(hs:ba 1000000000 s)(bare:Bool):PC 64 [.al (cf b) 0,.al (aH s) 0,.bool bare] (.bool (aJ (bO b).1 b s bare)):=by
 have h143:=c143 b hf bn;generalize (bO b).1=e at h143 ⊢;generalize (bO b).2=ep at h143;have rL:=hs.an;refine Xa hP g64.ok rfl rfl ?_;rw[H3.e];unfold g64;dsimp only;refine Z rfl (Z rfl (Z (bg rfl) (Z (Xy ..) ?_)));refine Zj λy r=>?_;have j:(aJ e b s bare=true->False)->y [.bool true] []:=by
  intro h;rw[r];refine Xg ?_;rw[D9.2 (λf=>h f)]
 apply K0 (R:=y [.bool false] []) (1<=s.turn/\s.turn<=4096/\0<=s.mover/\s.mover<=1/\0<=s.phase/\s.phase<=2/\0<=s.result/\s.result<=3/\((s.result==0)==(s.phase != 2))=true/\1<=s.next/\s.next<=1000000/\s.an.length<=7/\e=0)
 ·intro hR;clear r;refine Ya (λh=>by rw[h];exact j (λf=>by have:=Xv f;simp at h;omega)) (λb1=>Z rfl (Z rfl (Z (bg rfl) (Z (Y4 ..) ?_))));refine Ya (λh=>by rw[h];exact j (λf=>by have:=Xv f;simp at h;omega)) (λb2=>Z rfl (Z rfl (Z (bg rfl) (Z (Xy ..) ?_))));refine Ya (λh=>by rw[h];exact j (λf=>by have:=Xv f;simp at h;omega)) (λb3=>Z rfl (Z rfl (Z (bg rfl) (Z (Y4 ..) ?_))));refine Ya (λh=>by rw[h];exact j (λf=>by have:=Xv f;simp at h;omega)) (λb4=>Z rfl (Z rfl (Z (bg rfl) (Z (Xy ..) ?_))));refine Ya (λh=>by rw[h];exact j (λf=>by have:=Xv f;simp at h;omega)) (λb5=>Z rfl (Z rfl (Z (bg rfl) (Z (Y4 ..) ?_))));refine Ya (λh=>by rw[h];exact j (λf=>by have:=Xv f;simp at h;omega)) (λb6=>Z rfl (Z rfl (Z (bg rfl) (Z (Xy ..) ?_))));refine Ya (λh=>by rw[h];exact j (λf=>by have:=Xv f;simp at h;omega)) (λb7=>Z rfl (Z rfl (Z (bg rfl) (Z (Y4 ..) ?_))));refine Ya (λh=>by rw[h];exact j (λf=>by have:=Xv f;simp at h;omega)) (λb8=>Z rfl (Z rfl (Z (bg rfl) (Z (Xr ..) (Z rfl (Z rfl (Z (bg rfl) (Z (QM ..) (Z (XeT ..) ?_)))))))));have hx:(!(decide (s.result=0)==decide (s.phase≠2))) = !((s.result==0)==(s.phase != 2)):=by
   congr 1
   have e1:decide (s.result=0)=(s.result==0):=by rw[C6];simp
   have e2:decide (s.phase≠2)=(s.phase != 2):=by rw[C6];simp
   rw[e1,e2]
  rw[hx];refine Ya (λh=>by rw[h];exact j (λf=>by have:=(Xv f).2.2.2.2.2.2.2.2.2.1;rw[this]at h;cases h)) (λb9=>Z rfl (Z rfl (Z (bg rfl) (Z (Xy ..) ?_))));refine Ya (λh=>by rw[h];exact j (λf=>by have:=Xv f;simp at h;omega)) (λb10=>Z rfl (Z rfl (Z (bg rfl) (Z (Y4 ..) ?_))));refine Ya (λh=>by rw[h];exact j (λf=>by have:=Xv f;simp at h;omega)) (λb11=>Z rfl (Z rfl (Z (bg rfl) (Z (v:=O s.an.length) (rd:=[]) (by simp[Qe]) (Z (Y4 ..) ?_)))));refine Ya (λh=>by rw[h];exact j (λf=>by have:=Xv f;simp at h;omega)) (λb12=>Z rfl (Z (bg (VD b)) ?_));refine bD h143 g31.ok ?_;refine ae ?_;by_cases he:e=0
  ·rw[show decide (e≠0)=false by simp[he]];simp at b1 b2 b3 b4 b5 b6 b7 b8 b10 b11 b12;exact hR ⟨by omega,by omega,by omega,by omega,by omega,by omega,by omega,by omega,by simpa using b9,by omega,by omega,by omega,he⟩
  ·rw[show decide (e≠0)=true by simp[he]];exact j (λf=>he (Xv f).1)
 rintro⟨F,G,H,L,N,Q,S,T,V,p10,p11,p12,p13⟩;rw[r];clear r j y;have X:aJ e b s bare=(ZD b s&&(if s.phase≠1 then decide (s.an.length=0)else !(decide (s.an.length=0) && !bare)&&(s.bq&&fg s [] s.an))):=by
  rw[aJ,gA p13,gA F,gA G,gA H,gA L,gA N,gA Q,gA S,gA T,V,gA p10,gA p11,gA p12];rfl
 rw[X];clear X h143 F G H L N Q S T V p10 p11 p13;have w1:AF.wrap (0+1)=1:=by decide
 have w2:AF.wrap (1+1)=2:=by decide
 refine ay (ZM 3 (Yk (Z rfl (Xg ?_))));refine Xe hP rfl g99.ok rfl (c144 b s 0 7 s.s0 (CX s) (λ_=>rfl) hs.s0 [] (by rfl) (λh σ1=>?_) (λh σ1 t1 Y=>?_))
 ·refine Z rfl (Xg ?_);have h:(Yx b.aj.length s.s0&&QA b s.next [] s.s0.af)=false:=h;have:ZD b s=false:=by
   rw[ZD,<-FL,h];rfl
  rw[this];rfl
 refine Z rfl (Yf (Z rfl ?_));rw[w1];refine Yk (Z rfl (Xg ?_));refine Xe hP rfl g99.ok rfl (c144 b s 1 15 s.s1 (CY s) (λ_=>rfl) hs.s1 _ Y (λh2 σ2=>?_) (λh2 σ2 t2 z=>?_))
 ·refine Z rfl (Xg ?_);have A:(([]++s.s0.af.map λu=>(u.id,(0:Int))):List (Int×Int)).map (·.1)=s.s0.af.map Th.id:=by simp[F8]
  rw[A]at h2;have:ZD b s=false:=by
   rw[ZD,h2];simp
  rw[this];rfl
 have hso:ZD b s=true:=by
  have A:(([]++s.s0.af.map λu=>(u.id,(0:Int))):List (Int×Int)).map (·.1)=s.s0.af.map Th.id:=by simp[F8]
  rw[A]at h2;have h:(Yx b.aj.length s.s0&&QA b s.next [] s.s0.af)=true:=h;rw[ZD,<-FL,h,h2];rfl
 rw[hso,Ax];clear hso h h2 Y t1 t2;refine Z rfl (Yf (Z rfl ?_));rw[w2];refine Yk (ax (Ya (λp=>?_) (λp=>?_)))
 ·have p:s.phase≠1:=by simpa using p
  rw[aE p];refine Z rfl (Z rfl (Z (bg rfl) (Z (v:=O s.an.length) (rd:=[]) (by simp[Qe]) (Z (Xr ..) ?_))))
  congr 1
  rw[C6];simp
 have p:¬s.phase≠1:=by simpa using p
 rw[aB p];refine Qd rfl (Qf _ _) (Z rfl (Z rfl (Z (bg rfl) (Z (v:=O s.an.length) (rd:=[]) (by simp[Qe]) ?_))));have w:ai (σ2++[U.map []]) σ2.length=.map (jq I.bool (([]:List Int).map λa=>(a,true))):=Xc _ _;have hold:=Zb [U.map []] z;have cC:σ2.length≠0:=by have:=Yb z;omega
 generalize σ2++[U.map []]=B at w hold ⊢;generalize σ2.length=mb at w cC ⊢;refine Zh (ι:=Nat) (λi vs B=>vs=[O i]/\i<=s.an.length/\ai B 0=.map (jq O (([]++s.s0.af.map λu=>(u.id,(0:Int)))++s.s1.af.map λu=>(u.id,(1:Int))))/\ai B mb=.map (jq I.bool ((s.an.take i).map λa=>(a,true)))/\fg s [] s.an=fg s (s.an.take i) (s.an.drop i)) (λi=>s.an.length-i) 0
  ⟨rfl,by omega,hold,by simpa using w,by simp⟩ ?_
 clear w hold z;rintro i vs τ1 again ⟨rfl,hi,IV,C,hr⟩ bj;refine Z rfl (Ya (λh=>?_) (λh=>?_));rotate_left
 ·have h:i=s.an.length:=by simp at h;omega
  subst h;rw[As,fg]at hr;rw[hr,DZ];refine ax ?_;cases dW:s.bq with
  |false=>
   refine ay ?_;simp
  |true=>
   refine ay ?_;cases bare with
   |true=>
    refine ay ?_;simp
   |false=>
    refine Xb (Z rfl (Xb (Z rfl (Xb (Z rfl (Xb (Z (bg rfl) (Xb (Z (v:=O s.an.length) (rd:=[]) (by simp[Qe]) ?_)))))))));refine ay ?_;show I.bool _=_
    congr 1
    rw[C6];simp[Ho]
 have h:i<s.an.length:=by simpa using h
 have D:=Yv _ _ h;rw[gB h,fg]at hr;refine Z (Zm _ aK _ _ _ s.an _ i h) (Z (bg rfl) (Z (Dl O _ _ IV _) ?_));rw[Xdx,Cm,Qdx];generalize s.an[i]=a at D hr ⊢;generalize ho:(if (aC s a).2.2=true then some (aC s a).1 else none)=o;have AD:o.isSome=(aC s a).2.2:=by rw[<-ho];cases (aC s a).2.2<;>rfl
 have CA:(aC s a).2.2=true->o.getD 0=(aC s a).1:=by intro q;rw[<-ho,aE q];rfl
 refine ay ?_;refine Ia (λ_=>rfl) (λ_=>rfl) (λ_=>rfl) (λ_=>rfl) (λ_=>bg rfl) (λ_=>QM ..) ?_;refine vl (d:=(c7 a ((s.an.take i).map λa=>(a,true))).getD false) (λ_=>rfl) (λ_=>rfl) (λ_=>by rw[Dl I.bool _ _ C,Ydx]) ?_;have E:=YcQ a (s.an.take i);refine Ya (λh2=>?_) (λh2=>?_)
 ·have:fg s [] s.an=false:=by
   rw[hr,D9];intro q;simp only[AA,fe,B9]at q;obtain⟨⟨q1,q2⟩,q3,q4⟩:=q;rw[AD,CA q1,q1,q2,E,q3]at h2;simp at h2
  rw[this];simp
 ·simp only[Ct,FI,pI,NC]at h2;obtain⟨⟨q1,q2⟩,q3⟩:=h2;rw[AD]at q1;rw[CA q1]at q2;have lI:c7 a ((s.an.take i).map λa=>(a,true))=none:=by
   have:=Rc a ((s.an.take i).map λa=>(a,true));simp only[List.map_map,F8,List.map_id']at this;rw[<-E,q3]at this;cases h5:c7 a ((s.an.take i).map λa=>(a,true))with
   |none=>rfl
   |some v=>rw[h5]at this;cases this
  rw[E]at q3;rw[q1,q2,q3]at hr;have sF:=Yb C;refine Qd (H_ I.bool C a true lI) (Ye _ sF) (Z (Qi ..) ?_);rw[Zd (n:=i) (by omega)];refine bj (i+1) _ _ (by omega) ⟨rfl,by omega,Qa IV (by simp) (λe=>cC e),?_,?_⟩
  ·rw[D,A8];exact Zc _ sF
  ·rw[D,hr];simp
theorem aA.nl{h0:Hp}(n:Nat):aA h0 rd .aq (.aX false false n []):=aA.d_ (aA.ro rfl) (λM u d=>d.eZ n)
def RI(J:List U)(rd:List Nat)(v:I)(l:List Int):Prop:=aA (hp J) rd v (aM l)
def RT(J:List U)(rd:List Nat)(v:I)(l:List Th):Prop:=aA (hp J) rd v (ly l)
theorem To:∀ {l:List Int},∀r∈l.map aK,fV r=true:=by
 intro l r hr;obtain⟨x,_,rfl⟩:=By.1 hr;rfl
theorem Xe3:∀ {l:List Th},∀r∈l.map br,fV r=true:=by
 intro l r hr;obtain⟨x,_,rfl⟩:=By.1 hr;rfl
theorem RI.own(hb:ai J b=.rows 1 (l.map aK))(ct:b∈rd)(hn:n=l.length):RI J rd (.sl b 0 n ex) l:=
 aA.own hb ct (by simp[hn]) (HO _ _ (by simp[hn])) To
theorem RI.tail(hb:ai J b=.rows 1 ((x::l).map aK))(ct:b∈rd)(hn:n=l.length):RI J rd (.sl b 1 n ex) l:=
 aA.own hb ct (by simp[hn];omega) (XdU _ _ _ (by simp[hn])) To
theorem RI.ro(l:List Int):RI J rd (aM l) l:=aA.ro rfl
theorem RI.aq:RI J rd .aq []:=aA.d_ (aA.ro rfl) (λM u d=>d.eZ 1)
theorem RT.aq:RT J rd .aq []:=aA.d_ (aA.ro rfl) (λM u d=>d.eZ 4)
theorem RT.ro(l:List Th):RT J rd (ly l) l:=aA.ro rfl
theorem RT.own{l:List Th}(hb:ai J b=.rows 4 (l.map br))(ct:b∈rd)(hn:n=l.length):RT J rd (.sl b 0 n ex) l:=
 aA.own hb ct (by simp[hn]) (HO _ _ (by simp[hn])) Xe3
@[reducible] def ui(s:St)(a d0 h0 g0 u0 t0 d1 h1 g1 u1 t1:I):List I:=[O s.turn,O s.mover,aS s.phase,.bool s.bq,aS s.result,a,O s.next,
 O s.s0.aY,O s.s0.aW,O s.s0.most,d0,h0,g0,u0,t0,O s.s1.aY,O s.s1.aW,O s.s1.most,d1,h1,g1,u1,t1]
def SB(J:List U)(rd:List Nat)(cs:List I)(s:St):Prop:=bA (hp J) rd cs (aH s)
theorem SB.mk{a d0 h0 g0 u0 t0 d1 h1 g1 u1 t1:I}(x1:RI J rd a s.an)(x2:RI J rd d0 s.s0.az)(x3:RI J rd h0 s.s0.hand)(x4:RI J rd g0 s.s0.ao)(f:RT J rd u0 s.s0.af)(x6:RI J rd t0 s.s0.told)
 (y2:RI J rd d1 s.s1.az)(y3:RI J rd h1 s.s1.hand)(y4:RI J rd g1 s.s1.ao)(i:RT J rd u1 s.s1.af)(j:RI J rd t1 s.s1.told):SB J rd (ui s a d0 h0 g0 u0 t0 d1 h1 g1 u1 t1) s:=
 .cons (aA.ro rfl) <| .cons (aA.ro rfl) <| .cons (aA.ro rfl) <| .cons (aA.ro rfl) <| .cons (aA.ro rfl) <| .cons x1 <| .cons (aA.ro rfl) <| .cons (aA.ro rfl) <| .cons (aA.ro rfl) <| .cons (aA.ro rfl) <| .cons x2 <| .cons x3 <| .cons x4 <| .cons f <| .cons x6 <|
 .cons (aA.ro rfl) <| .cons (aA.ro rfl) <| .cons (aA.ro rfl) <| .cons y2 <| .cons y3 <| .cons y4 <| .cons i <| .cons j .nil
theorem SB.ro(s:St):SB J rd (aH s) s:=bA.ro rfl
theorem SB.agg(h:SB J rd cs s):aA (hp J) rd (.agg cs) (bN s):=aA.agg h
def zSd:Sd:=⟨0,0,0,[],[],[],[],[]⟩
def eG:St:=⟨0,0,0,false,0,[],0,zSd,zSd⟩
theorem SB.zero:SB J rd (ui eG .aq .aq .aq .aq .aq .aq .aq .aq .aq .aq .aq) eG:=SB.mk .aq .aq .aq .aq .aq .aq .aq .aq .aq .aq .aq
structure Ev where
 kind:Int
 side:Int
 card:Int
 id:Int
 other:Int
 n:Int
 aj:List Int
 deriving DecidableEq,Inhabited
@[reducible] def cS(e:Ev):List I:=[aS e.kind,O e.side,O e.card,O e.id,O e.other,O e.n,aM e.aj]
@[reducible] def tj(e:Ev):I:=.agg (cS e)
def mr:Ev:=⟨0,0,0,0,0,0,[]⟩
theorem xw{e:Ev}(h:RI J rd v e.aj):aA (hp J) rd (.agg [aS e.kind,O e.side,O e.card,O e.id,O e.other,O e.n,v]) (tj e):=
 aA.agg (.cons (aA.ro rfl) <| .cons (aA.ro rfl) <| .cons (aA.ro rfl) <| .cons (aA.ro rfl) <| .cons (aA.ro rfl) <| .cons (aA.ro rfl) <| .cons h .nil)
theorem c56(b:Bk)(hf:aN b=true)(f:Yg b.aj)(s:St)(hs:ba 1000000000 s){bb sb:Nat}(h1:ai J bb=.box (cf b))(h2:ai J sb=.box (aH s))
 (hF:aJ (bO b).1 b s true=false->K .dq J)(hT:aJ (bO b).1 b s true=true->K (.ak (J++hJ s).length 0) (J++hJ s++[.box (.ak bb 0::jL s J.length)])):g68.u VV [.ak bb 0,.ak sb 0] J K:=by
 rw[H2.e];unfold g68;dsimp only;have i:hp J bb=some (.box (cf b)):=Zw h1 (by simp);have j:hp J sb=some (.box (aH s)):=Zw h2 (by simp);refine Yt (rd:=[bb,sb]) (c111 b hf f s hs true) rfl g64.ok.plain (.cons (aA.box i (by simp) (bA.ro rfl)) <| .cons (aA.box j (by simp) (bA.ro rfl)) <| .cons (aA.ro rfl) .nil) rfl (Z rfl (Ya (λh=>?_) (λh=>?_)))
 ·exact hF (by simpa using h)
 refine Z rfl (Z (ld h2 rfl) ?_);refine J9 (c59 s hs) rfl g17.ok.plain rfl ?_;have o:(I.agg (jL s 0)).cy (ZG J.length)=.agg (jL s J.length):=by
  simp[I.cy,gZ,ZG,Hv];omega
 have p:Zx J.length (hJ s)=hJ s:=by
  simp only[Zx,hJ,rU,B7,A8,E4,Du,Ro]
 rw[o,p];refine Z rfl (Qd rfl (Qf _ _) ?_);exact hT (by simpa using h)
def nN(b:Nat):List Int->I
 |[]=>.aX false true 1 []
 |y::l=>.sl b 1 (y::l).length false
theorem YeF{τ:List U}{f:Nat}(i:ai τ f=.rows 1 ((x::l).map aK)):∃rd,ZB 1 [.sl f 0 (l.length+1) false,O 1] τ=.ok (nN f l) rd []:=by
 cases l with
 |nil=>
  refine⟨[],?_⟩;show (match ai τ f with
   |.rows s _=>bif AJ s 1 then (bif C3 1 1 then aL.ok (.sl f (0+1) (1-1) false) [f] []else bif AJ 1 1 then .ok (.aX false true 1 []) [] []else .stop)else .stop
   | _=>.stop)=_
  rw[i];rfl
 |cons y l=>
  refine⟨[f],?_⟩;show (match ai τ f with
   |.rows s _=>bif AJ s 1 then (bif C3 1 ((y::l).length+1)then aL.ok (.sl f (0+1) ((y::l).length+1-1) false) [f] []else bif AJ 1 ((y::l).length+1)then .ok (.aX false true 1 []) [] []else .stop)else .stop
   | _=>.stop)=_
  rw[i];rfl
theorem RI.nN(hb:ai J b=.rows 1 ((x::l).map aK))(ct:b∈rd):RI J rd (Tz.nN b l) l:=by
 cases l with
 |nil=>
  refine aA.d_ (aA.ro (x:=.aX false true 1 []) rfl) (λM u d=>?_);cases d with
  |aX _ _ _ _ _ a cap aD off f q1 q2 q3 q4 i j o p=>exact .aX _ _ _ _ _ a cap aD off f q1 (λh=>by cases h) q3 q4 i j o p
 |cons y l=>exact RI.tail hb ct rfl
theorem c58{τ:List U}{f p r i j k:Nat}{py y:List I}{t:List Int}{o:I}(hm:ai τ f=.box row)(hf:aO false p 1 row=some (.sl i 0 n false))(hn:n=l.length+1)(ht:aO false r 1 py=some (.sl j 0 k false))(hk:k=t.length)(jd:t.length<=1000000000)
 (w:ai τ i=.rows 1 ((x::l).map aK))(rM:ai τ j=.rows 1 (t.map aK))(cC:f≠i)(aaa:f≠j)(hvf:o=nN i l)
 (h1:bW p [o] row=some py)(h2:bW r [.sl (τ.length+1) 0 (k+1) false] py=some y)
 (A:K (O x) (((((τ.set f (.box py)).set j .dead)++[U.rows 1 [aK x]])++[U.rows 1 ((t++[x]).map aK)]).set f (.box y))):g92.u VV [.ak f p,.ak f r] τ K:=by
 subst hn;subst hk;have z:=Yb hm;have E:=Yb rM;rw[H2.e];unfold g92;dsimp only;refine Z rfl (Z (ld hm hf) ?_);have B:Zi 1 [.sl i 0 (l.length+1) false,O ((0:Nat):Int)] τ=.ok (.ptr i (0+0) 0) [i] []:=Y9 τ i 0 _ false 1 _ .i64 0 (by omega) w;refine Z B (Z (v:=O x) (rd:=[i]) ?_ ?_)
 ·show (match ai τ i with
   |.rows _ rs=>match nth rs 0 with
    |some row=>match aO false 0 1 row with
     |some v=>aL.ok v [i] []
     |none=>.stop
    |none=>.stop
   | _=>.stop)=_
  rw[w];rfl
 refine Z rfl (Z (ld hm hf) ?_);have hvc:cellsOf o=some [o]:=by subst hvf;cases l<;>rfl
 obtain⟨rd,hsl⟩:=YeF w;rw[<-hvf]at hsl;refine Z hsl (Z rfl (Qd (cO hm hvc rfl h1) (Ye _ z) (Z rfl (Z (ld (Zc _ z) ht) ?_))));have C:ai (τ.set f (.box py)) j=.rows 1 (t.map aK):=Qa rM (by simp) aaa;rw[Rg _ _ _ _ _ (aK x) rfl rfl,OD _ 1 8 (τ.set f (.box py)) j t.length false _ (aK x) C (by simp) rfl (by omega)];refine Z rfl ?_;have D:t.map aK++[aK x]=(t++[x]).map aK:=by simp
 have hlen:(τ.set f (U.box py)).length=τ.length:=by simp
 have hm3:ai ((((τ.set f (.box py)).set j .dead)++[U.rows 1 [aK x]])++[U.rows 1 ((t++[x]).map aK)]) f=.box py:=by
  grind [Zg,Qb,Zc]
 rw[D,hlen];exact Qd (cO hm3 rfl rfl h2) (Ye _ (by simp;omega)) A
theorem YdK(s:St)(n:Nat):(I.agg (jL s 0)).cy (ZG n)=.agg (jL s n):=by
 simp[I.cy,gZ,ZG,Hv];omega
theorem ZdK(s:St)(n:Nat):Zx n (hJ s)=hJ s:=by
 simp only[Zx,hJ,rU,B7,A8,E4,Du,Ro]
theorem XcS:∀l:List Int,Y6 (l.map aK)=true
 |[]=>rfl
 |x::l=>by simp only[B7,Y6,XcS l,DZ];rfl
theorem XdB:∀l:List Th,Y6 (l.map br)=true
 |[]=>rfl
 |x::l=>by simp only[B7,Y6,XdB l,DZ];rfl
theorem QcW(s:St):zF (hJ s)=true:=by
 simp only[hJ,rU,Cz,Cm,zF,U.dF,XcS,XdB,C2]
theorem w59(hs:ba 1000000000 s)(h:SB J rd cs s)(f:K (.agg (jL s J.length)) (J++hJ s)):VV.call (.call 17) [.agg cs] J K:=by
 refine Qdd (c59 s hs) rfl g17.ok.plain (.cons (SB.agg h) .nil) rfl (QcW s) ?_;rw[YdK,ZdK];exact f
theorem d59(hs:ba 1000000000 s)(h:SB J rd cs s){K:I->List Nat×List Nat->List U->Prop}(f:K (.agg (jL s J.length)) (rd,zQ J.length (hJ s)) (J++hJ s)):VV.dT (.call 17) [.agg cs] J K:=by
 refine XcZ (c59 s hs) rfl g17.ok.plain (.cons (SB.agg h) .nil) rfl (QcW s) ?_;rw[YdK,ZdK];exact f
theorem mX.mono{s:Sd}(h:mX n s)(k:n<=m):mX m s:=⟨CI h.1 k,CI h.2 k,CI h.3 k,CI h.4 k,CI h.5 k⟩
theorem ba.mono(h:ba n s)(k:n<=m):ba m s:=⟨CI h.1 k,h.2.mono k,h.3.mono k⟩
theorem Ox{b:Bk}(h:aJ e b s bare=true):ZD b s=true:=by
 simp only[aJ,AA]at h;exact h.2.2.2.2.2.2.2.2.2.2.2.2.1
theorem Ydz{b:Bk}(h:aJ e b s bare=true):i5 s.s0.aY=true:=by
 have:=Ox h;simp only[ZD,Yx,AA]at this;exact this.1.1
theorem Xdz{b:Bk}(h:aJ e b s bare=true):i5 s.s1.aY=true:=by
 have:=Ox h;simp only[ZD,Yx,AA]at this;exact this.2.2.1.1
theorem wG{n:Int}:i5 n=true↔-1000000<=n/\n<=1000000:=by simp[i5]
theorem SB.copy(key:∀i x,(hJ s)[i]?=some x->ai J (n+i)=x)(ct:∀i,i<11->n+i∈rd):SB J rd (jL s n) s:=
 SB.mk (RI.own (key 0 _ rfl) (ct 0 (by decide)) rfl) (RI.own (key 1 _ rfl) (ct 1 (by decide)) rfl) (RI.own (key 2 _ rfl) (ct 2 (by decide)) rfl) (RI.own (key 3 _ rfl) (ct 3 (by decide)) rfl) (RT.own (key 4 _ rfl) (ct 4 (by decide)) rfl) (RI.own (key 5 _ rfl) (ct 5 (by decide)) rfl)
  (RI.own (key 6 _ rfl) (ct 6 (by decide)) rfl) (RI.own (key 7 _ rfl) (ct 7 (by decide)) rfl) (RI.own (key 8 _ rfl) (ct 8 (by decide)) rfl) (RT.own (key 9 _ rfl) (ct 9 (by decide)) rfl) (RI.own (key 10 _ rfl) (ct 10 (by decide)) rfl)
theorem Q7{agg:Bool}{j:Nat}(hb:ai J b=.box row)(hv:aO agg j n row=some v):fz agg n (.ak b j) J=some v:=by
 simp only[fz,hb,hv]
theorem qK(b:Bk)(hf:aN b=true)(f:Yg b.aj)(s:St)(hs:ba 1000000000 s){bb sb n0:Nat}(i:J.length=n0)(hn:n0+11=n)(h1:ai J bb=.box (cf b))(h2:ai J sb=.box (aH s))
 (hF:aJ (bO b).1 b s true=false->K .dq J)(hT:aJ (bO b).1 b s true=true->K (.ak n 0) (J++hJ s++[.box (.ak bb 0::jL s n0)])):VV.call (.call 68) [.ak bb 0,.ak sb 0] J K:=by
 subst i;subst hn;refine Xe hP rfl g68.ok rfl (c56 b hf f s hs h1 h2 hF (λh=>?_));have:(J++hJ s).length=J.length+11:=by simp[hJ,rU]
 rw[this];exact hT h
def St.side(s:St)(k:Int):Sd:=if k=0 then s.s0 else s.s1
def St.put(s:St)(k:Int)(d:Sd):St:=if k=0 then { s with s0:=d }else { s with s1:=d }
@[reducible] def p_(s:St)(e:Ev)(x:I):I:=.bw [bN s,tj e,x]
@[reducible] def iH(r:St×Ev×Int):I:=p_ r.1 r.2.1 (O r.2.2)
theorem vc{f:List I}{e:Ev}{x:I}(h1:SB J rd cs s)(h2:aA (hp J) rd (.agg f) (tj e))(hx:x.ro=true):aA (hp J) rd (.bw [.agg cs,.agg f,x]) (p_ s e x):=
 aA.bw (.cons (SB.agg h1) <| .cons h2 <| .cons (aA.ro hx) .nil)
theorem vN{f:List I}{r:St×Ev×Int}(h1:SB J rd cs r.1)(h2:aA (hp J) rd (.agg f) (tj r.2.1)):aA (hp J) rd (.bw [.agg cs,.agg f,O r.2.2]) (iH r):=vc h1 h2 rfl
@[reducible] def aU:List I:=ui eG .aq .aq .aq .aq .aq .aq .aq .aq .aq .aq .aq
@[reducible] def bY:List I:=[aS 0,O 0,O 0,O 0,O 0,O 0,.aq]
theorem AY(e:Int):aA (hp J) rd (.bw [.agg aU,.agg bY,O e]) (iH (eG,mr,e)):=
 vN (r:=(eG,mr,e)) SB.zero (xw (e:=mr) RI.aq)
theorem CW{x:I}(hx:x.ro=true):aA (hp J) rd (.bw [.agg aU,.agg bY,x]) (p_ eG mr x):=
 vc SB.zero (xw (e:=mr) RI.aq) hx
end Go.Ah.Tz
end
section
namespace Go.Ah
theorem Z0:∀ {rs:List (List I)},(∀r∈rs,r.all I.cell=true)->a_ rs=true
 |[],_=>rfl
 |r::rs,h=>by simp only[a_,AA];exact⟨h r (by simp),Z0 λx b=>h x (by simp[b])⟩
variable{rs2:List (List I)}
variable{k:Nat}
theorem De{J:List U}{n c:Nat}{ex2:Bool}(hc:ai J c=.rows n rs2)(dg:rs2.length=k):Yl n J (.sl c 0 k ex2)=some (rs2,[c]):=by
 simp only[Yl,hc];simp[cut,dg];rw[show BY k k=true from AH (AO _)];simp[<-dg]
theorem Q8(n by_:Nat){J:List U}{b c len:Nat}{ex ex2:Bool}{rs:List (List I)}(hb:ai J b=.rows n rs)(hc:ai J c=.rows n rs2)(hl:rs.length=len)(dg:rs2.length=k)(hr:a_ rs2=true)(d:(2*(len+k)+192)*by_<=2 ^ 48) :
  Yh n by_ [.sl b 0 len ex,.sl c 0 k ex2] J=.ok (.sl J.length 0 (len+k) false) [c] ([(b,.dead)]++[(J.length,.rows n (rs++rs2))]):=by
 have h2:BY ((2*(len+k)+192)*by_) (2 ^ 48)=true:=AH d;have:Yh n by_ [.sl b 0 len ex,.sl c 0 k ex2] J=Qz n by_ J rs [(b,.dead)] (.sl c 0 k ex2):=by
  simp[Yh,yU,hb,hl]
 rw[this];unfold Qz;simp only[De hc dg,hr,dg,h2,C2,cond_true,hl]
theorem X8(n by_:Nat){J:List U}{c:Nat}{ex2:Bool}(hc:ai J c=.rows n rs2)(dg:rs2.length=k)(hr:a_ rs2=true)(b:(2*k+192)*by_<=2 ^ 48) :
  Yh n by_ [.aq,.sl c 0 k ex2] J=.ok (.sl J.length 0 k false) [c] ([]++[(J.length,.rows n rs2)]):=by
 have h3:BY ((2*k+192)*by_) (2 ^ 48)=true:=AH b;show Qz n by_ J [] [] (.sl c 0 k ex2)=_;unfold Qz;simp only[De hc dg,hr,dg,Cb,h3,C2,cond_true,Al,Cm]
end Go.Ah
namespace Go.Ah.Tz
open Go.Proofs.Tryz (prog)
set_option maxRecDepth 100000
theorem lX{n:Nat}(h:C3 n 40=true):n∈Ao 40:=DW.2 (iq h)
theorem SB.lit{J:List U}{rd:List Nat}{cs:List I}{s:St}{a d0 h0 g0 u0 t0 d1 h1 g1 u1 t1:I}(e:cs=ui s a d0 h0 g0 u0 t0 d1 h1 g1 u1 t1)
 (b:RI J rd a s.an:=by exact RI.own rfl (lX rfl) rfl)
 (x1:RI J rd d0 s.s0.az:=by exact RI.own rfl (lX rfl) rfl)
 (x2:RI J rd h0 s.s0.hand:=by exact RI.own rfl (lX rfl) rfl)
 (x3:RI J rd g0 s.s0.ao:=by exact RI.own rfl (lX rfl) rfl)
 (x4:RT J rd u0 s.s0.af:=by exact RT.own rfl (lX rfl) rfl)
 (d:RI J rd t0 s.s0.told:=by exact RI.own rfl (lX rfl) rfl)
 (x6:RI J rd d1 s.s1.az:=by exact RI.own rfl (lX rfl) rfl)
 (f:RI J rd h1 s.s1.hand:=by exact RI.own rfl (lX rfl) rfl)
 (i:RI J rd g1 s.s1.ao:=by exact RI.own rfl (lX rfl) rfl)
 (j:RT J rd u1 s.s1.af:=by exact RT.own rfl (lX rfl) rfl)
 (x10:RI J rd t1 s.s1.told:=by exact RI.own rfl (lX rfl) rfl):SB J rd cs s:=by
 subst e;exact SB.mk b x1 x2 x3 x4 d x6 f i j x10
theorem Pm{J:List U}{b c len:Nat}{ex ex2:Bool}{l:List Int}{x:Int}{K:I->List Nat×List Nat->List U->Prop}(hb:ai J b=.rows 1 (l.map aK))(hc:ai J c=.rows 1 [[O x]])(hl:len=l.length)(f:l.length<=1000000000)(d:K (.sl J.length 0 (l++[x]).length false) ([c],[b,J.length]) (J.set b .dead++[.rows 1 ((l++[x]).map aK)])) :
  VV.dr (Yh 1 8 [.sl b 0 len ex,.sl c 0 1 ex2] J) J K:=by
 refine Ze (Q8 1 8 (rs2:=[[O x]]) hb hc (by simp[hl]) rfl rfl (by omega)) (YK _ _ (Yb hb)) ?_;rw[hl];simpa[aK]using d
attribute [local irreducible] aI.rd aI.pu aI.wr aI.dr aI.gr aI.gw aI.gl aI.gd aI.opt c8 W
set_option maxHeartbeats 8000000
theorem au{A B:Prop}(k:B)(h:B->A:=by intro k;(repeat (first|refine Z (vX ..) ?_|refine Z (YU ..) ?_|refine Z rfl ?_|refine Qd rfl rfl ?_|refine Zp rfl ?_|refine Xd rfl ?_|refine Ze rfl rfl ?_|refine Xg ?_|refine Yf ?_|refine Xb ?_|refine Yc rfl ?_|refine Xq ?_|refine Xu rfl ?_|refine Xo rfl ?_|refine yR ?_));exact k):A:=h k
end Go.Ah.Tz
end
section
namespace Go.Ah.Tz
open Go.Proofs.Tryz (prog)
set_option maxRecDepth 100000
abbrev Sw(s:St):List I:=[.ak 0 0,O s.turn,O s.mover,aS s.phase,.bool s.bq,aS s.result,.sl 4 0 s.an.length false,O s.next,O s.s0.aY,O s.s0.aW,O s.s0.most,.sl 5 0 s.s0.az.length false,.sl 6 0 s.s0.hand.length false,.sl 7 0 s.s0.ao.length false,.sl 8 0 s.s0.af.length false,.sl 9 0 s.s0.told.length false,O s.s1.aY,O s.s1.aW,O s.s1.most,.sl 10 0 s.s1.az.length false,.sl 11 0 s.s1.hand.length false,.sl 12 0 s.s1.ao.length false,.sl 13 0 s.s1.af.length false,.sl 14 0 s.s1.told.length false]
abbrev st4(s:St):List I:=[O s.turn,O s.mover,aS s.phase,.bool s.bq,aS s.result,.sl 4 0 s.an.length false,O s.next,O s.s0.aY,O s.s0.aW,O s.s0.most,.sl 5 0 s.s0.az.length false,.sl 6 0 s.s0.hand.length false,.sl 7 0 s.s0.ao.length false,.sl 8 0 s.s0.af.length false,.sl 9 0 s.s0.told.length false,O s.s1.aY,O s.s1.aW,O s.s1.most,.sl 10 0 s.s1.az.length false,.sl 11 0 s.s1.hand.length false,.sl 12 0 s.s1.ao.length false,.sl 13 0 s.s1.af.length false,.sl 14 0 s.s1.told.length false]
abbrev sg4(b:Bk)(s:St):List U:=[.box (cf b),.box (aH s),.box aU,.box bY,.rows 1 (s.an.map aK),.rows 1 (s.s0.az.map aK),.rows 1 (s.s0.hand.map aK),.rows 1 (s.s0.ao.map aK),.rows 4 (s.s0.af.map br),.rows 1 (s.s0.told.map aK),.rows 1 (s.s1.az.map aK),.rows 1 (s.s1.hand.map aK),.rows 1 (s.s1.ao.map aK),.rows 4 (s.s1.af.map br),.rows 1 (s.s1.told.map aK)]
def aT(s:St)(k:Int):St×Ev×Int:=
 match (s.side k).az with
 |[]=>if i5 ((s.side k).aY-1)then (s.put k { s.side k with aY:=(s.side k).aY-1 },⟨3,k,-1,0,0,0,[]⟩,0)else (eG,mr,171)
 |c::l=>if 10<=(s.side k).hand.length then
   ({ s with s0:={ s.s0 with told:=s.s0.told++[c] },s1:={ s.s1 with told:=s.s1.told++[c] } } |> λb=>b.put k { b.side k with az:=l,ao:=(s.side k).ao++[c] },⟨4,k,c,0,0,0,[]⟩,0)
  else (s.put k { s.side k with az:=l,hand:=(s.side k).hand++[c],told:=(s.side k).told++[c] },⟨3,k,c,0,0,0,[]⟩,0)
attribute [local irreducible] aI.rd aI.pu aI.wr aI.dr aI.gr aI.gw aI.gl aI.gd aI.opt c8 W
set_option maxHeartbeats 8000000
theorem c18(b:Bk)(hf:aN b=true)(bn:Yg b.aj)(s:St)(hs:ba 2000000 s)(hm:aJ (bO b).1 b s true=true)(k:Int)(h01:k=0\/k=1):PC 62 [dd b,bN s,O k] (iH (aT s k)):=by
 have uX:=wG.1 (Ydz hm);have fw:=wG.1 (Xdz hm);have i:ba 1000000000 s:=hs.mono (by decide);have nW:=hm;refine Zo hP g62.ok rfl ?_;rcases h01 with rfl|rfl
 rotate_left;obtain⟨w,z,A,st,B,at_,ne,⟨C,D,E,F,G,H,K,j⟩,⟨l,m,o,d,h,g,u,t⟩⟩:=s;obtain⟨N,⟨P,Q,R,S,T⟩,⟨L,V,X,Y,q5⟩⟩:=hs;have hl:=fw
 let mk:Sd->List Int->St:=λx y=>⟨w,z,A,st,B,at_,ne,⟨C,D,E,F,G,H,K,y⟩,x⟩
 have p:∀l m o (d h g:List Int) u (t y:List Int),d.length<=1000000000->h.length<=1000000000->g.length<=1000000000->u.length<=1000000000->t.length<=1000000000->y.length<=1000000000->ba 1000000000 (mk ⟨l,m,o,d,h,g,u,t⟩ y):=λ_ _ _ _ _ _ _ _ _ a b c d e f=>⟨i.1,⟨i.2.1,i.2.2,i.2.3,i.2.4,f⟩,⟨a,b,c,d,e⟩⟩;rotate_left;obtain⟨w,z,A,st,B,at_,ne,⟨l,m,o,d,h,g,u,t⟩,⟨C,D,E,F,G,H,K,j⟩⟩:=s;obtain⟨N,⟨L,V,X,Y,q5⟩,⟨P,Q,R,S,T⟩⟩:=hs;have hl:=uX
 let mk:Sd->List Int->St:=λx y=>⟨w,z,A,st,B,at_,ne,x,⟨C,D,E,F,G,H,K,y⟩⟩
 have p:∀l m o (d h g:List Int) u (t y:List Int),d.length<=1000000000->h.length<=1000000000->g.length<=1000000000->u.length<=1000000000->t.length<=1000000000->y.length<=1000000000->ba 1000000000 (mk ⟨l,m,o,d,h,g,u,t⟩ y):=λ_ _ _ _ _ _ _ _ _ a b c d e f=>⟨i.1,⟨a,b,c,d,e⟩,⟨i.3.1,i.3.2,i.3.3,i.3.4,f⟩⟩
 all_goals
  simp only at N L V X Y q5 P Q R S T hl;rw[H3.e];unfold g62;dsimp only[bN,aH];refine au (qK b hf bn _ i (n0:=4) (n:=15) (bb:=0) (sb:=1) rfl rfl rfl rfl (λh=>by rw[hm]at h;cases h) (λ_=>?_));dsimp only[jL,hJ,CZ,rU];cases d with
  |nil=>
   refine au ?_;refine bD (c57 _) g91.ok ?_;refine au ?_;have e:AF.wrap (l-1)=l-1:=ck (by omega) (by omega);refine Ya (λhw=>?_) (λhw=>?_)
   ·have hw:i5 (l-1)=false:=by rw[<-e];simpa using hw
    refine au ?_;refine⟨[],?_⟩;show aA _ _ _ (iH (if i5 (l-1)then _ else (eG,mr,171)));rw[hw];exact AY 171
   ·have hw:i5 (l-1)=true:=by rw[<-e];simpa using hw
    rw[e];refine au ?_;refine d59 (s:=mk ⟨l-1,m,o,[],h,g,u,t⟩ j) (rd:=Ao 40) (p _ _ _ _ _ _ _ _ _ (by simp) (by omega) (by omega) (by omega) (by omega) (by omega)) (SB.lit rfl) ?_;dsimp only[jL,hJ,CZ,rU,mk];refine au ?_;show ∃rd,aA _ rd _ (iH (if i5 (l-1)then (_,(⟨3,_,-1,0,0,0,[]⟩:Ev),0)else (eG,mr,171)));rw[aE hw];exact⟨Ao 40,vN (r:=(_,⟨3,_,-1,0,0,0,[]⟩,0)) (SB.lit rfl) (xw (e:=⟨3,_,-1,0,0,0,[]⟩) RI.aq)⟩
  |cons c d2=>
   simp only[A1]at L;refine au (Ya (λhw=>?_) (λhw=>?_))
   ·have hw:10<=h.length:=by simp at hw;omega
    refine au ?_;refine Xe hP rfl g92.ok rfl (c58 (x:=c) (l:=d2) (t:=g) rfl rfl rfl rfl rfl (by omega) rfl rfl (by decide) (by decide) rfl rfl rfl ?_);rw[show g.length+1=(g++[c]).length by simp];refine au (ZM 3 (Yk ?_));refine au ?_;refine Pm rfl rfl rfl (by omega) ?_;refine au ?_;refine Pm rfl rfl rfl (by omega) ?_;refine au ?_;refine d59 (s:=mk ⟨l,m,o,d2,h,g++[c],u,t++[c]⟩ (j++[c])) (rd:=Ao 40) (p _ _ _ _ _ _ _ _ _ (by omega) (by omega) (by simp;omega) (by omega) (by simp;omega) (by simp;omega)) (by first|exact SB.lit rfl (x1:=RI.nN rfl (lX rfl))|exact SB.lit rfl (x6:=RI.nN rfl (lX rfl))) ?_;dsimp only[jL,hJ,CZ,rU,mk];refine au ?_;show ∃rd,aA _ rd _ (iH (if 10<=h.length then (_,(⟨4,_,c,0,0,0,[]⟩:Ev),0)else _));rw[aE hw];exact⟨Ao 40,vN (r:=(_,⟨4,_,c,0,0,0,[]⟩,0)) (SB.lit rfl) (xw (e:=⟨4,_,c,0,0,0,[]⟩) RI.aq)⟩
   ·have hw:¬10<=h.length:=by simp at hw;omega
    refine au ?_;refine Xe hP rfl g92.ok rfl (c58 (x:=c) (l:=d2) (t:=h) rfl rfl rfl rfl rfl (by omega) rfl rfl (by decide) (by decide) rfl rfl rfl ?_);rw[show h.length+1=(h++[c]).length by simp];refine au ?_;refine Pm rfl rfl rfl (by omega) ?_;refine au ?_;refine d59 (s:=mk ⟨l,m,o,d2,h++[c],g,u,t++[c]⟩ j) (rd:=Ao 40) (p _ _ _ _ _ _ _ _ _ (by omega) (by simp;omega) (by omega) (by omega) (by simp;omega) (by omega)) (by first|exact SB.lit rfl (x1:=RI.nN rfl (lX rfl))|exact SB.lit rfl (x6:=RI.nN rfl (lX rfl))) ?_;dsimp only[jL,hJ,CZ,rU,mk];refine au ?_;show ∃rd,aA _ rd _ (iH (if 10<=h.length then _ else (_,(⟨3,_,c,0,0,0,[]⟩:Ev),0)));rw[aB hw];exact⟨Ao 40,vN (r:=(_,⟨3,_,c,0,0,0,[]⟩,0)) (SB.lit rfl) (xw (e:=⟨3,_,c,0,0,0,[]⟩) RI.aq)⟩
theorem KB(b:Bk)(hf:aN b=true)(d:Yg b.aj)(s:St)(hs:ba 2000000 s)(hm:aJ (bO b).1 b s true=true):PC 62 [dd b,bN s,O 0] (iH (aT s 0)):=c18 b hf d s hs hm 0 (.inl rfl)
theorem KC(b:Bk)(hf:aN b=true)(d:Yg b.aj)(s:St)(hs:ba 2000000 s)(hm:aJ (bO b).1 b s true=true):PC 62 [dd b,bN s,O 1] (iH (aT s 1)):=c18 b hf d s hs hm 1 (.inr rfl)
def YZ(b:Bk)(s:St)(k c:Int):Bool:=((((decide (c<0)||decide ((b.aj.length:Int)<=c)) || !((b.aj[c.toNat]?).getD default).unit)||decide (7<=((s.side k).af.length:Int)))||decide (1000000<=s.next))
def Qy(s:St)(k c:Int):St:={ s.put k { s.side k with af:=(s.side k).af++[⟨s.next,c,0,true⟩] }with next:=s.next+1 }
def vV(b:Bk)(s:St)(k c:Int):I:=
 if YZ b s k c then p_ eG mr (.bool false)else p_ (Qy s k c) ⟨2,k,c,s.next,0,0,[]⟩ (.bool true)
theorem ZeO(b:Bk)(hf:aN b=true)(f:Yg b.aj)(s:St)(hs:ba 2000000 s)(hm:aJ (bO b).1 b s true=true)(c:Int):PC 41 [dd b,bN s,O 0,O c] (vV b s 0 c):=by
 have j:=Xv hm;have hw:AF.wrap (s.next+1)=s.next+1:=Bb _ (by omega);refine Zo hP g41.ok rfl ?_;rw[H4.e];unfold g41;dsimp only;refine Qd (v:=.ak 0 0) (rd:=[]) (up:=[(0,.box (cf b))]) rfl rfl (Qd (v:=.ak 1 0) (rd:=[]) (up:=[(1,.box (aH s))]) rfl rfl (Qd (v:=.ak 2 0) (rd:=[]) (up:=[(2,.box aU)]) rfl rfl (Qd (v:=.ak 3 0) (rd:=[]) (up:=[(3,.box bY)]) rfl rfl (qK b hf f s (hs.mono (by decide)) (n0:=4) (n:=15) rfl rfl rfl rfl (λh=>by rw[hm]at h;cases h) (λ_=>?_)))));refine Z rfl (X3 (c:=false) (d:=false) (λ_=>rfl) (λ_=>rfl) (X3 (c:=false) (d:=false) (λ_=>rfl) (λ_=>rfl) (X3 (c:=false) (λ_=>rfl) (λ_=>Xy ..) (J5 (c:=decide (c<0)) (λ_=>rfl) (λ_=>rfl) (λ_=>rfl) (v4:=O b.aj.length) (q4:=[]) (λ_=>by simp[Qe]) (λ_=>pL ..) (HU (d:=!((b.aj[c.toNat]?).getD default).unit) (λ_=>rfl) (λ_=>rfl) (λ_=>rfl) (v4:=.al (cM ((b.aj[c.toNat]?).getD default)) 0) (q4:=[]) (λo=>?_) (λ_=>rfl) (λ_=>bg (uK _)) (λ_=>rfl) ?_)))))
 ·simp_all [wM]
 refine HU (λ_=>rfl) (λ_=>rfl) (λ_=>rfl) (λ_=>rfl) (λ_=>rfl) (v6:=O s.s0.af.length) (q6:=[]) (λ_=>by simp[Qe]) (λ_=>pL ..) (vl (λ_=>rfl) (λ_=>rfl) (λ_=>pL ..) (Ya (λh=>?_) (λh=>?_)))
 ·refine Z rfl (Z rfl (Qd rfl rfl (Qd rfl rfl (Zp rfl (Zp rfl ?_)))));have hr:vV b s 0 c=p_ eG mr (.bool false):=aE h;rw[hr];exact⟨[],CW rfl⟩
 have hr:vV b s 0 c=p_ (Qy s 0 c) ⟨2,0,c,s.next,0,0,[]⟩ (.bool true):=aB (by rw[KY];exact h);have r:¬7<=(s.s0.af.length:Int):=by
  simp_all
 refine Z rfl (Z rfl (Z rfl (Z rfl ?_)));refine Xd rfl (Xd rfl (Ze (ld (row:=(Sw s)) rfl rfl) (Yd _) ?_));refine Xd rfl (Ze (ld (row:=aH s) rfl rfl) (Yd _) (Xd rfl ?_));refine Ze (v:=.sl 16 0 1 true) (rd:=[]) (up:=[(16,.rows 4 [br (⟨s.next,c,0,true⟩:Th)])]) rfl rfl (Ze (v:=.sl 17 0 (s.s0.af.length+1) false) (rd:=[16]) (up:=[(8,.dead),(17,.rows 4 ((s.s0.af++[(⟨s.next,c,0,true⟩:Th)]).map br))]) ?_ rfl ?_)
 ·have:=Q5 4 32 (J:=((sg4 b s).append [.box (Sw s),.rows 4 [br (⟨s.next,c,0,true⟩:Th)]])) (b:=8) (c:=16) (len:=s.s0.af.length) (ex:=false) (rs:=s.s0.af.map br) (row:=br (⟨s.next,c,0,true⟩:Th)) rfl rfl (by simp) rfl (by omega);simp_all
 refine ay ?_;rw[hw];refine ay ?_;refine⟨Ao 18,?_⟩;rw[hr];refine vc (cs:=(((st4 s).set 6 (O (s.next+1))).set 13 (.sl 17 0 (s.s0.af.length+1) false))) (s:=Qy s 0 c) ?_ (xw (e:=⟨2,0,c,s.next,0,0,[]⟩) RI.aq) rfl;refine SB.mk (rd:=Ao 18) (s:=Qy s 0 c) ?_ ?_ ?_ ?_ ?_ ?_ ?_ ?_ ?_ ?_ ?_<;>first|exact RI.own rfl (by decide) rfl|exact RT.own rfl (by decide) rfl|exact RT.own (l:=s.s0.af++[(⟨s.next,c,0,true⟩:Th)]) rfl (by decide) (by simp)
theorem YeO(b:Bk)(hf:aN b=true)(f:Yg b.aj)(s:St)(hs:ba 2000000 s)(hm:aJ (bO b).1 b s true=true)(c:Int):PC 41 [dd b,bN s,O 1,O c] (vV b s 1 c):=by
 have j:=Xv hm;have hw:AF.wrap (s.next+1)=s.next+1:=Bb _ (by omega);refine Zo hP g41.ok rfl ?_;rw[H4.e];unfold g41;dsimp only;refine Qd (v:=.ak 0 0) (rd:=[]) (up:=[(0,.box (cf b))]) rfl rfl (Qd (v:=.ak 1 0) (rd:=[]) (up:=[(1,.box (aH s))]) rfl rfl (Qd (v:=.ak 2 0) (rd:=[]) (up:=[(2,.box aU)]) rfl rfl (Qd (v:=.ak 3 0) (rd:=[]) (up:=[(3,.box bY)]) rfl rfl (qK b hf f s (hs.mono (by decide)) (n0:=4) (n:=15) rfl rfl rfl rfl (λh=>by rw[hm]at h;cases h) (λ_=>?_)))));refine Z rfl (X3 (c:=false) (d:=false) (λ_=>rfl) (λ_=>rfl) (X3 (c:=false) (d:=false) (λ_=>rfl) (λ_=>rfl) (X3 (c:=false) (λ_=>rfl) (λ_=>Xy ..) (J5 (c:=decide (c<0)) (λ_=>rfl) (λ_=>rfl) (λ_=>rfl) (v4:=O b.aj.length) (q4:=[]) (λ_=>by simp[Qe]) (λ_=>pL ..) (HU (d:=!((b.aj[c.toNat]?).getD default).unit) (λ_=>rfl) (λ_=>rfl) (λ_=>rfl) (v4:=.al (cM ((b.aj[c.toNat]?).getD default)) 0) (q4:=[]) (λo=>?_) (λ_=>rfl) (λ_=>bg (uK _)) (λ_=>rfl) ?_)))))
 ·simp_all [wM]
 refine HU (λ_=>rfl) (λ_=>rfl) (λ_=>rfl) (λ_=>rfl) (λ_=>rfl) (v6:=O s.s1.af.length) (q6:=[]) (λ_=>by simp[Qe]) (λ_=>pL ..) (vl (λ_=>rfl) (λ_=>rfl) (λ_=>pL ..) (Ya (λh=>?_) (λh=>?_)))
 ·refine Z rfl (Z rfl (Qd rfl rfl (Qd rfl rfl (Zp rfl (Zp rfl ?_)))));have hr:vV b s 1 c=p_ eG mr (.bool false):=aE h;rw[hr];exact⟨[],CW rfl⟩
 have hr:vV b s 1 c=p_ (Qy s 1 c) ⟨2,1,c,s.next,0,0,[]⟩ (.bool true):=aB (by rw[KY];exact h);have r:¬7<=(s.s1.af.length:Int):=by
  simp_all
 refine Z rfl (Z rfl (Z rfl (Z rfl ?_)));refine Xd rfl (Xd rfl (Ze (ld (row:=(Sw s)) rfl rfl) (Yd _) ?_));refine Xd rfl (Ze (ld (row:=aH s) rfl rfl) (Yd _) (Xd rfl ?_));refine Ze (v:=.sl 16 0 1 true) (rd:=[]) (up:=[(16,.rows 4 [br (⟨s.next,c,0,true⟩:Th)])]) rfl rfl (Ze (v:=.sl 17 0 (s.s1.af.length+1) false) (rd:=[16]) (up:=[(13,.dead),(17,.rows 4 ((s.s1.af++[(⟨s.next,c,0,true⟩:Th)]).map br))]) ?_ rfl ?_)
 ·have:=Q5 4 32 (J:=((sg4 b s).append [.box (Sw s),.rows 4 [br (⟨s.next,c,0,true⟩:Th)]])) (b:=13) (c:=16) (len:=s.s1.af.length) (ex:=false) (rs:=s.s1.af.map br) (row:=br (⟨s.next,c,0,true⟩:Th)) rfl rfl (by simp) rfl (by omega);simp_all
 refine ay ?_;rw[hw];refine ay ?_;refine⟨Ao 18,?_⟩;rw[hr];refine vc (cs:=(((st4 s).set 6 (O (s.next+1))).set 21 (.sl 17 0 (s.s1.af.length+1) false))) (s:=Qy s 1 c) ?_ (xw (e:=⟨2,1,c,s.next,0,0,[]⟩) RI.aq) rfl;refine SB.mk (rd:=Ao 18) (s:=Qy s 1 c) ?_ ?_ ?_ ?_ ?_ ?_ ?_ ?_ ?_ ?_ ?_<;>first|exact RI.own rfl (by decide) rfl|exact RT.own rfl (by decide) rfl|exact RT.own (l:=s.s1.af++[(⟨s.next,c,0,true⟩:Th)]) rfl (by decide) (by simp)
theorem c118(l:List Th)(hl:l.length<=1000000000)(id:FuncId)(d cs:List I)(hp:Qh prog id=true)(f:Th->Bool)(hc:∀x∈l,PC id (d++[.agg (br x)]++cs) (.bool (f x)))(hr:∀x,fV (d++[.agg (br x)]++cs)=true) :
  PC 120 [ly l,.func (.func id) d cs] (O (ea f l 0)):=by
 refine Xa hP g120.ok rfl rfl ?_;rw[H2.e];unfold g120;dsimp only;refine Z (v:=O l.length) (rd:=[]) (by simp[Qe]) (Zh (ι:=Nat) (λi j s=>j=[O i]/\i<=l.length/\ea f l 0=ea f (l.drop i) i) (λi=>l.length-i) 0 ⟨rfl,by omega,by simp⟩ ?_);rintro i j s again ⟨rfl,r,b⟩ o;refine Z rfl (ZT (λh=>?_) (λh=>?_))
 ·refine Z (Zm _ br _ _ _ l _ i h) (Z (bg rfl) ?_);refine Qm (hc _ (AI h)) rfl hp (hr _) ?_;rw[gB h,ea]at b;refine Ya (λh2=>?_) (λh2=>?_)
  ·rw[aE h2]at b;rw[b];rfl
  ·rw[aB (by rw[h2];simp)]at b;refine Z (Qi ..) ?_;rw[Zd (n:=i) (by omega)];exact o (i+1) _ _ (by omega) ⟨rfl,by omega,by rw[b];push_cast;rfl⟩
 ·subst h;rw[As,ea]at b;rw[b]
theorem c119(u:Th)(id:Int):PC 121 [.agg (br u),.al [O id] 0] (.bool (decide (u.id=id))):=by
 refine Xa hP g121.ok rfl rfl ?_;rw[H2.e];unfold g121;dsimp only;exact Qd rfl rfl (Z rfl (Z (ld rfl rfl) (Z rfl (Z (Xr ..) rfl))))
theorem QcP(id:Int):∀(l:List Th) (n:Int),ea (λu:Th=>decide (u.id=id)) l n=match gk l id with
  |some k=>n+k
  |none=>-1
 |[],n=>rfl
 |u::l,n=>by
  have b:=QcP id l (n+1);simp only[ea,gk,Hx]at b ⊢;by_cases h:u.id=id
  ·simp[h]
  ·simp only[i7 h,B8,if_false,b];cases List.findIdx? (λu=>decide (u.id=id)) l with
   |none=>rfl
   |some k=>show n+1+(k:Int)=n+((k+1:Nat):Int);omega
theorem c71(s:St)(hs:ba 1000000000 s)(id:Int):PC 73 [bN s,O id] (kQ s id):=by
 have h0:=c118 s.s0.af hs.s0.af 121 [] [.al [O id] 0] g121.ok.plain (λu=>decide (u.id=id)) (λx _=>c119 x id) (λx=>rfl);have h1:=c118 s.s1.af hs.s1.af 121 [] [.al [O id] 0] g121.ok.plain (λu=>decide (u.id=id)) (λx _=>c119 x id) (λx=>rfl);have f:AF.wrap (0+1)=1:=by decide
 have i:AF.wrap (1+1)=2:=by decide
 rw[QcP]at h0 h1;refine Xa hP g73.ok rfl rfl ?_;rw[H2.e];unfold g73;dsimp only;refine ay (ZM 3 (Yk ?_));refine ay (ZH h0 rfl g120.ok.plain rfl rfl ?_);simp only[kQ,aC];cases b:gk s.s0.af id with
 |some k=>
  simp only[b];refine Z (pL ..) ?_;rw[gA (by omega)];exact Xg (by simp)
 |none=>
  simp only[b];refine Z rfl (Yf (Z rfl ?_));rw[f];refine Yk (ay (ZH h1 rfl g120.ok.plain rfl rfl ?_));cases d:gk s.s1.af id with
  |some k=>
   simp only[d];refine Z (pL ..) ?_;rw[gA (by omega)];exact Xg (by simp)
  |none=>
   simp only[d];refine Z rfl (Yf (Z rfl ?_));rw[i];exact Yk (Z rfl (Yf (by simp)))
def PV(b:Bk)(c:Int):Int:=((b.aj[c.toNat]?).getD default).dZ
def pV(b:Bk)(u:Th)(n:Int):Int:=max (AF.wrap (n-PV b u.card)) 0
theorem KV(x:Cd):aO false 5 1 (cM x)=some (O x.dZ):=rfl
theorem VI(m:List I)(aY n:Int):PC 126 [.al m 0,.dq,O aY,O n] (.bw [O (AF.wrap (aY-n)),O n]):=by
 refine Xa hP g126.ok rfl rfl ?_;rw[H4.e];unfold g126;dsimp only;exact ay rfl
theorem VJ(b:Bk)(m:List I)(u:Th)(aY n:Int)(h0:0<=u.card)(h1:u.card.toNat<b.aj.length):PC 126 [.al (.al (cf b) 0::m) 0,.al (br u) 0,O aY,O n] (.bw [O (AF.wrap (u.harm+pV b u n)),O (pV b u n)]):=by
 refine Xa hP g126.ok rfl rfl ?_;rw[H4.e];unfold g126;dsimp only;refine ax ?_;have d:=wM [] cM false false 12 b.aj .i64 u.card h0 h1;refine Z d (Z rfl (Z (bg (KV _)) ?_));refine ax ?_;have:PV b u.card=(b.aj[u.card.toNat]).dZ:=by simp[PV,Cv h1]
 rw[pV,this]
abbrev I4(s:St):List I:=[.ak 0 0,O s.turn,O s.mover,aS s.phase,.bool s.bq,aS s.result,.sl 6 0 s.an.length false,O s.next,O s.s0.aY,O s.s0.aW,O s.s0.most,.sl 7 0 s.s0.az.length false,.sl 8 0 s.s0.hand.length false,.sl 9 0 s.s0.ao.length false,.sl 10 0 s.s0.af.length false,.sl 11 0 s.s0.told.length false,O s.s1.aY,O s.s1.aW,O s.s1.most,.sl 12 0 s.s1.az.length false,.sl 13 0 s.s1.hand.length false,.sl 14 0 s.s1.ao.length false,.sl 15 0 s.s1.af.length false,.sl 16 0 s.s1.told.length false]
abbrev st6(s:St):List I:=[O s.turn,O s.mover,aS s.phase,.bool s.bq,aS s.result,.sl 6 0 s.an.length false,O s.next,O s.s0.aY,O s.s0.aW,O s.s0.most,.sl 7 0 s.s0.az.length false,.sl 8 0 s.s0.hand.length false,.sl 9 0 s.s0.ao.length false,.sl 10 0 s.s0.af.length false,.sl 11 0 s.s0.told.length false,O s.s1.aY,O s.s1.aW,O s.s1.most,.sl 12 0 s.s1.az.length false,.sl 13 0 s.s1.hand.length false,.sl 14 0 s.s1.ao.length false,.sl 15 0 s.s1.af.length false,.sl 16 0 s.s1.told.length false]
abbrev Sx(b:Bk)(s:St):List U:=[.box (cf b),.box (aH s),.box aU,.box bY,.box aU,.box bY,.rows 1 (s.an.map aK),.rows 1 (s.s0.az.map aK),.rows 1 (s.s0.hand.map aK),.rows 1 (s.s0.ao.map aK),.rows 4 (s.s0.af.map br),.rows 1 (s.s0.told.map aK),.rows 1 (s.s1.az.map aK),.rows 1 (s.s1.hand.map aK),.rows 1 (s.s1.ao.map aK),.rows 4 (s.s1.af.map br),.rows 1 (s.s1.told.map aK)]
abbrev Ad:List U:=[.dead,.dead,.dead,.dead,.dead,.dead,.dead,.dead,.dead,.dead,.dead,.dead,.dead,.dead,.dead,.dead,.dead,.dead]
def jX(n:Int):Int:=min (max n 0) 4000000
def jH(s:St)(b k:Int)(i:Nat)(id:Int)(u:Th)(v:Int×Int):St×Ev×Int:=
 if i5 v.1 then (s.put k { s.side k with af:=(s.side k).af.set i { u with harm:=v.1 } },⟨b,k,0,id,0,v.2,[]⟩,0)else (eG,mr,171)
def kZ(s:St)(b k:Int)(v:Int×Int):St×Ev×Int:=
 if i5 v.1 then (s.put k { s.side k with aY:=v.1 },⟨b,k,0,0,0,v.2,[]⟩,0)else (eG,mr,171)
def gm(b:Int)(f:Int->Int×Int)(d:Th->Int×Int)(s:St)(id k:Int):St×Ev×Int:=
 if id=0 then kZ s b k (f (s.side k).aY)else if id<0 then (eG,mr,4)else match gk s.s0.af id with
  |some i=>jH s b 0 i id ((s.s0.af[i]?).getD default) (d ((s.s0.af[i]?).getD default))
  |none=>match gk s.s1.af id with
   |some i=>jH s b 1 i id ((s.s1.af[i]?).getD default) (d ((s.s1.af[i]?).getD default))
   |none=>(eG,mr,4)
def eX(b:Bk)(s:St)(id k n:Int):St×Ev×Int:=
 gm 5 (λl=>(AF.wrap (l-jX n),jX n)) (λu=>(AF.wrap (u.harm+pV b u (jX n)),pV b u (jX n))) s id k
def nH(s:St)(id k n:Int):St×Ev×Int:=
 gm 6 (λl=>(AF.wrap (l+jX n),jX n)) (λu=>(AF.wrap (u.harm-min (jX n) u.harm),min (jX n) u.harm)) s id k
def gT(i:Int)(F:FuncId):gM:=λA xs J ret=>match xs with
|[j,o,p,r,s]=>
 A.wr (wS [j] J) J λaaZ J=>
 A.wr (wS [o] J) J λaa2 J=>
 A.wr (Zt aU [] J) J λd J=>
 A.wr (Zt bY [] J) J λf J=>
 A.call (.call 124) [aaZ,aa2,(.int .i8 i),p,r,s,(.func (.func F) [] [])] J λb J=>
 A.rd (Zk 0 [b] J) λw=>
 A.rd (Zk 1 [b] J) λx=>
 A.rd (Zk 2 [b] J) λy=>
 A.wr (Xh 23 [d,w] J) J λ_ J=>
 A.wr (Xh 7 [f,x] J) J λ_ J=>
 A.opt (fz true 23 d J) λz=>
 A.opt (fz true 7 f J) λB=>
 ret (.bw [z,B,y]) J
|_=>A.stop
variable{b:Bk}
theorem Uj{next:Int}:∀ {l:List Th} {ids:List Int},QA b next ids l=true->∀u∈l,Qv b next u=true
 |v::l,ids,h,u,d=>by
  simp only[QA,AA]at h;rcases Az.1 d with rfl|d
  ·exact h.1
  ·exact Uj h.2.2 u d
theorem OB{next:Int}{u:Th}(h:Qv b next u=true):0<=u.card/\u.card.toNat<b.aj.length:=by
 simp_all [Qv]
variable{e id m kd:Int}
variable{s:St}
theorem TV{bare:Bool}(h:aJ e b s bare=true):∀u∈s.s0.af,0<=u.card/\u.card.toNat<b.aj.length:=by
 have:=Ox h;simp only[ZD,AA]at this;exact λu d=>OB (Uj this.2.1 u d)
theorem S_{bare:Bool}(h:aJ e b s bare=true):∀u∈s.s1.af,0<=u.card/\u.card.toNat<b.aj.length:=by
 have:=Ox h;simp only[ZD,AA]at this;exact λu d=>OB (Uj this.2.2.2 u d)
variable{k n i j:Nat}
theorem ZO{l:List Th}(h:gk l id=some k):∃u,l[k]?=some u/\u.id=id:=by
 obtain⟨d,h2,_⟩:=GU.1 h;simp_all
variable{J:List U}
theorem QdY{b:Nat}{l:List Th}{u:Th}(hU:ai J b=.rows 4 (l.map br))(hk:l[k]?=some u)(now:Int):Xh 1 [.ptr b k 2,O now] J=.ok .aP [] [(b,.rows 4 ((l.set k { u with harm:=now }).map br))]:=by
 have h1:nth (l.map br) k=some (br u):=by rw[Q4,Ba,hk];rfl
 have d:k<(l.map br).length:=by grind
 have h2:QF k [O u.id,O u.card,O now,.bool u.e_] (l.map br)=some ((l.set k { u with harm:=now }).map br):=by
  rw[Dt d,Ga];rfl
 show (match ai J b with
   |.rows sz rs=>match nth rs k with
    |some row=>match cellsOf (O now)with
     | some cs=>bif AJ cs.length 1 then (match bW 2 cs row with
      |some row'=>match QF k row' rs with
       |some rs'=>aL.ok .aP [] [(b,.rows sz rs')]
       |none=>.stop
      | none=>.stop)else .stop
     |none=>.stop
    |none=>.stop
   | _=>.stop)=_
 simp_all [br]
variable{gF:gM}
variable{f F F2:FuncId}
theorem cTp(hf:aN b=true)(p:Yg b.aj)(hs:ba 2000000 s)(hm:aJ (bO b).1 b s true=true)(h01:m=0\/m=1)(hg:GQ f 5 (gT kd F))(w:GQ F 1 gF)(hF:∀x o (K:KT),K (.func (.func F2) [x] []) o->gF VV [x] o K)(y:Qh prog F2=true)(n:Int)(v:Int×Int)(hc:PC F2 [.al (.al (cf b) 0::aH s) 0,.dq,O (s.side m).aY,O (jX n)] (.bw [O v.1,O v.2])):PC f [dd b,bN s,O 0,O m,O n] (iH (kZ s kd m v)):=by
 have hr:kZ s kd m v=(if i5 v.1 then (s.put m { s.side m with aY:=v.1 },⟨kd,m,0,0,0,v.2,[]⟩,0)else (eG,mr,171)):=rfl;rcases h01 with rfl|rfl
 all_goals
  refine Zo hP hg rfl ?_;unfold gT;refine ay (Xe hP rfl g124.ok rfl ?_);rw[H7.e];unfold g124;dsimp only;refine ay (qK b hf p s (hs.mono (by decide)) (n0:=6) (n:=17) rfl rfl rfl rfl (λh=>by rw[hm]at h;cases h) (λ_=>?_));refine Z rfl (Yf (Z (vX ..) (Z (YU ..) (Z (QM ..) ?_))));refine Zj λk11 z=>?_;refine Yf ?_;rw[z];refine Z rfl (X3 (c:=false) (d:=false) (λ_=>rfl) (λ_=>rfl) (ay (SN hP (ys:=[.ak 17 0]) (zs:=[.ak 17 0]) rfl w rfl [] [17] (v:=.func (.func F2) [.ak 17 0] []) (m:=0) (J:=((Sx b s).append [.box (I4 s)])) (τ:=Ad) (τ':=Ad) (by decide) (show ∀b∈[17],b<18 by decide) rfl rfl ?_ rfl (u:=.func (.func F2) [.ak 17 0] []) (up:=[]) (σ':=((Sx b s).append [.box (I4 s)])) rfl rfl rfl ?_)))
  ·exact hF _ _ _ ⟨rfl,rfl⟩
  refine ay ?_;refine Ir (rd:=[0,6,7,8,9,10,11,12,13,14,15,16,17]) (hc) rfl y (.cons (aA.box (row:=(I4 s)) rfl (by decide) (.cons (aA.box (row:=cf b) rfl (by decide) (bA.ro rfl)) ?_)) <| .cons (aA.ro rfl) <| .cons (aA.ro rfl) <| .cons (aA.ro rfl) .nil) rfl ?_
  ·exact SB.mk (s:=s) (RI.own rfl (by decide) rfl) (RI.own rfl (by decide) rfl) (RI.own rfl (by decide) rfl) (RI.own rfl (by decide) rfl) (RT.own rfl (by decide) rfl) (RI.own rfl (by decide) rfl) (RI.own rfl (by decide) rfl) (RI.own rfl (by decide) rfl) (RI.own rfl (by decide) rfl) (RT.own rfl (by decide) rfl) (RI.own rfl (by decide) rfl)
  refine ay (bD (c57 _) g91.ok (Z rfl (Ya (λh2=>?_) (λh2=>?_))))
  ·have h3:i5 v.1=false:=by simpa using h2
   replace hr:=hr.trans (aB (by rw[h3];decide))
   refine ay ?_;rw[hr];exact⟨[],AY 171⟩
  have h3:i5 v.1=true:=by simpa using h2
  replace hr:=hr.trans (aE h3)
  refine Z rfl (Zj λk63 A=>?_);refine ay ?_;rw[A];refine ay ?_;rw[hr];refine⟨Ao 18,?_⟩;refine vN (r:=(_,⟨kd,_,0,0,0,v.2,[]⟩,0)) ?_ (xw (e:=⟨kd,_,0,0,0,v.2,[]⟩) RI.aq)
 ·refine SB.mk (rd:=Ao 18) (s:={ s with s0:={ s.s0 with aY:=v.1 } }) ?_ ?_ ?_ ?_ ?_ ?_ ?_ ?_ ?_ ?_ ?_<;>first|exact RI.own rfl (by decide) rfl|exact RT.own rfl (by decide) rfl
 ·refine SB.mk (rd:=Ao 18) (s:={ s with s1:={ s.s1 with aY:=v.1 } }) ?_ ?_ ?_ ?_ ?_ ?_ ?_ ?_ ?_ ?_ ?_<;>first|exact RI.own rfl (by decide) rfl|exact RT.own rfl (by decide) rfl
theorem cTu(hf:aN b=true)(p:Yg b.aj)(hs:ba 2000000 s)(hm:aJ (bO b).1 b s true=true)(h01:m=0\/m=1)(hg:GQ f 5 (gT kd F))(w:GQ F 1 gF)(hF:∀x o (K:KT),K (.func (.func F2) [x] []) o->gF VV [x] o K)(y:Qh prog F2=true)(id sd n:Int)(z:id≠0)(A:¬id<0)(k:Nat)(B:kQ s id=.bw [O m,O k,.bool true])(u:Th)(hk:(s.side m).af[k]?=some u)(v:Int×Int)(hc:PC F2 [.al (.al (cf b) 0::aH s) 0,.al (br u) 0,O (s.side m).aY,O (jX n)] (.bw [O v.1,O v.2])):PC f [dd b,bN s,O id,O sd,O n] (iH (jH s kd m k id u v)):=by
 have h71:=c71 s (hs.mono (by decide)) id;rw[B]at h71;have C:k<(s.side m).af.length:=(eS hk).1;have hr:jH s kd m k id u v=(if i5 v.1 then (s.put m { s.side m with af:=(s.side m).af.set k { u with harm:=v.1 } },⟨kd,m,0,id,0,v.2,[]⟩,0)else (eG,mr,171)):=rfl;rcases h01 with rfl|rfl
 all_goals
  refine Zo hP hg rfl ?_;unfold gT;refine ay (Xe hP rfl g124.ok rfl ?_);rw[H7.e];unfold g124;dsimp only;refine ay (qK b hf p s (hs.mono (by decide)) (n0:=6) (n:=17) rfl rfl rfl rfl (λh=>by rw[hm]at h;cases h) (λ_=>?_));refine Z rfl (Yf (Z (vX ..) (Z (YU ..) (Z (QM ..) ?_))));refine Zj λk11 D=>?_;rw[gA z];refine ay (bD h71 g73.ok (Z rfl (Z rfl (Z rfl (Z rfl ?_)))));refine X3 (c:=false) (λ_=>rfl) (λ_=>Xy ..) ?_;rw[i7 A];refine ay (Z (Y9 _ _ 0 _ _ _ _ _ k C rfl) ?_);rw[Al];rw[D];refine Z rfl (X3 (c:=false) (d:=false) (λ_=>rfl) (λ_=>rfl) (ay (SN hP (ys:=[.ak 17 0]) (zs:=[.ak 17 0]) rfl w rfl [] [17] (v:=.func (.func F2) [.ak 17 0] []) (m:=0) (J:=((Sx b s).append [.box (I4 s)])) (τ:=Ad) (τ':=Ad) (by decide) (show ∀b∈[17],b<18 by decide) rfl rfl ?_ rfl (u:=.func (.func F2) [.ak 17 0] []) (up:=[]) (σ':=((Sx b s).append [.box (I4 s)])) rfl rfl rfl ?_)))
  ·exact hF _ _ _ ⟨rfl,rfl⟩
  refine ay ?_;refine Ir (rd:=[0,6,7,8,9,10,11,12,13,14,15,16,17]) (hc) rfl y (.cons (aA.box (row:=(I4 s)) rfl (by decide) (.cons (aA.box (row:=cf b) rfl (by decide) (bA.ro rfl)) ?_)) <| .cons (aA.ptr (row:=br u) rfl (by decide) (by rw[Ba];exact congrArg (Option.map br) hk) (bA.ro rfl)) <| .cons (aA.ro rfl) <| .cons (aA.ro rfl) .nil) rfl ?_
  ·exact SB.mk (s:=s) (RI.own rfl (by decide) rfl) (RI.own rfl (by decide) rfl) (RI.own rfl (by decide) rfl) (RI.own rfl (by decide) rfl) (RT.own rfl (by decide) rfl) (RI.own rfl (by decide) rfl) (RI.own rfl (by decide) rfl) (RI.own rfl (by decide) rfl) (RI.own rfl (by decide) rfl) (RT.own rfl (by decide) rfl) (RI.own rfl (by decide) rfl)
  refine ay (bD (c57 _) g91.ok (Z rfl (Ya (λh2=>?_) (λh2=>?_))))
  ·have h3:i5 v.1=false:=by simpa using h2
   replace hr:=hr.trans (aB (by rw[h3];decide))
   refine ay ?_;rw[hr];exact⟨[],AY 171⟩
  have h3:i5 v.1=true:=by simpa using h2
  replace hr:=hr.trans (aE h3)
  refine Z rfl (Zj λk63 E=>?_);refine ay (Qd (QdY rfl hk _) rfl ?_);rw[E];refine ay ?_;rw[hr];refine⟨Ao 18,?_⟩;refine vN (r:=(_,⟨kd,_,0,id,0,v.2,[]⟩,0)) ?_ (xw (e:=⟨kd,_,0,id,0,v.2,[]⟩) RI.aq)
 ·refine SB.mk (rd:=Ao 18) (s:={ s with s0:={ s.s0 with af:=s.s0.af.set k { u with harm:=v.1 } } }) ?_ ?_ ?_ ?_ ?_ ?_ ?_ ?_ ?_ ?_ ?_<;>first|exact RI.own rfl (by decide) rfl|exact RT.own rfl (by decide) rfl|exact RT.own (l:=s.s0.af.set k { u with harm:=v.1 }) rfl (by decide) (by simp)
 ·refine SB.mk (rd:=Ao 18) (s:={ s with s1:={ s.s1 with af:=s.s1.af.set k { u with harm:=v.1 } } }) ?_ ?_ ?_ ?_ ?_ ?_ ?_ ?_ ?_ ?_ ?_<;>first|exact RI.own rfl (by decide) rfl|exact RT.own rfl (by decide) rfl|exact RT.own (l:=s.s1.af.set k { u with harm:=v.1 }) rfl (by decide) (by simp)
theorem cTn(hf:aN b=true)(p:Yg b.aj)(hs:ba 2000000 s)(hm:aJ (bO b).1 b s true=true)(hg:GQ f 5 (gT kd F))(y:GQ F 1 gF)(hF:∀x d (K:KT),K (.func (.func F2) [x] []) d->gF VV [x] d K)(z:Qh prog F2=true)(id sd n:Int)(r:id≠0)(v:I)(w:I)(x:Bool)(o:kQ s id=.bw [v,w,.bool x])(hx:id<0\/x=false):PC f [dd b,bN s,O id,O sd,O n] (iH (eG,mr,4)):=by
 have h71:=c71 s (hs.mono (by decide)) id;rw[o]at h71;have A:fV [.bw [v,w,.bool x]]=true:=by rw[<-o];rfl
 refine Zo hP hg rfl ?_;unfold gT;refine ay (Xe hP rfl g124.ok rfl ?_);rw[H7.e];unfold g124;dsimp only;refine ay (qK b hf p s (hs.mono (by decide)) (n0:=6) (n:=17) rfl rfl rfl rfl (λh=>by rw[hm]at h;cases h) (λ_=>?_));refine Z rfl (Yf (Z (vX ..) (Z (YU ..) (Z (QM ..) ?_))));refine Zj λk11 B=>?_;rw[gA r];refine ay (bD h71 g73.ok ?_);refine ay (X3 (c:=!x) (λ_=>rfl) (λ_=>Xy ..) ?_);rw[show (!x||decide (id<0))=true by rcases hx with h|h<;>simp[h]];refine ay ?_;exact⟨[],AY 4⟩
theorem cT(hf:aN b=true)(p:Yg b.aj)(hs:ba 2000000 s)(hm:aJ (bO b).1 b s true=true)(hg:GQ f 5 (gT kd F))(r:GQ F 1 gF)(hF:∀x E (K:KT),K (.func (.func F2) [x] []) E->gF VV [x] E K)(w:Qh prog F2=true)(id sd n:Int)(h0:sd=0\/sd=1){B:Int->Int×Int}{C:Th->Int×Int}(hcP:∀m aY,PC F2 [.al m 0,.dq,O aY,O (jX n)] (.bw [O (B aY).1,O (B aY).2]))(hcU:∀m u aY,0<=u.card->u.card.toNat<b.aj.length->PC F2 [.al (.al (cf b) 0::m) 0,.al (br u) 0,O aY,O (jX n)] (.bw [O (C u).1,O (C u).2])) :
  PC f [dd b,bN s,O id,O sd,O n] (iH (gm kd B C s id sd)):=by
 unfold gm;by_cases d:id=0
 ·rw[aE d];subst d;exact cTp hf p hs hm h0 hg r hF w n _ (by rcases h0 with rfl|rfl<;>exact hcP _ _)
 rw[aB d];by_cases y:id<0
 ·rw[aE y];exact cTn hf p hs hm hg r hF w id sd n d _ _ _ rfl (.inl y)
 rw[aB y];cases A:gk s.s0.af id with
 |some k=>
  obtain⟨u,o,_⟩:=ZO A;have z:=TV hm u (Au o);simp only[o,Cw];exact cTu hf p hs hm (.inl rfl) hg r hF w id sd n d y k (by simp[kQ,aC,A]) u o _ (hcU _ _ _ z.1 z.2)
 |none=>
  cases D:gk s.s1.af id with
  |some k=>
   obtain⟨u,o,_⟩:=ZO D;have z:=S_ hm u (Au o);simp only[o,Cw];exact cTu hf p hs hm (.inr rfl) hg r hF w id sd n d y k (by simp[kQ,aC,A,D]) u o _ (hcU _ _ _ z.1 z.2)
  |none=>exact cTn hf p hs hm hg r hF w id sd n d _ _ _ rfl (.inr (by simp[aC,A,D]))
theorem w65(x:I)(τ:List U)(K:KT)(h:K (.func (.func 126) [x] []) τ):g125.u VV [x] τ K:=by
 rw[H1.e];unfold g125;dsimp only;exact Z rfl h
theorem c22(b:Bk)(hf:aN b=true)(d:Yg b.aj)(s:St)(hs:ba 2000000 s)(hm:aJ (bO b).1 b s true=true)(id sd n:Int)(h0:sd=0\/sd=1):PC 78 [dd b,bN s,O id,O sd,O n] (iH (eX b s id sd n)):=
 cT hf d hs hm (show GQ 78 5 (gT 5 125) from g78.ok) g125.ok w65 g126.ok.plain id sd n h0 (λm aY=>VI m aY _) (λm u aY h1 h2=>VJ b m u aY _ h1 h2)
def j6(d:Int->Bool)(step:Nat->Int->Int):Nat->Nat->Int->Int
 |0,_,a=>a
 |k+1,i,a=>if d a=true then j6 d step k (i+1) (step i a)else a
theorem HW{d:Int->Bool}{step:Nat->Int->Int}{a r:Int}(h:i<n)(hg:d a=true)(hr:j6 d step (n-i) i a=r):j6 d step (n-(i+1)) (i+1) (step i a)=r:=by
 rw[show n-i=n-(i+1)+1 by omega,j6,aE hg]at hr;exact hr
theorem HX{go:Int->Bool}{step:Nat->Int->Int}{a r:Int}(h:¬i<n\/go a=false)(hr:j6 go step (n-i) i a=r):a=r:=by
 cases k:n-i with
 |zero=>rw[k]at hr;exact hr
 |succ m=>
  rcases h with h|h
  ·omega
  ·rw[k,j6,aB (by rw[h];simp)]at hr;exact hr
theorem c174(k:Nat):∀x:Nm,B3 x<=k->di x=true->∃n,PC 26 [.agg (cK x)] (O n):=by
 induction k with
 |zero=>intro x h _;cases x;simp at h
 |succ k y=>
  intro x D hf;have z:=It hf;rw[de]at z;have d:∃F:Nat->Int,∀i (h:i<x.kids.length),PC 26 [.agg (cK x.kids[i])] (O (F i)):=by
   refine E6 (r:=λ(i:Nat) (n:Int)=>∀(h:i<x.kids.length),PC 26 [.agg (cK x.kids[i])] (O n)) (λi=>?_);by_cases h:i<x.kids.length
   ·have p:=AI h;obtain⟨n,A⟩:=y x.kids[i] (by have:=zM p;omega) (QV hf p);exact⟨n,λ_=>A⟩
   ·exact⟨0,λB=>(h B).elim⟩
  obtain⟨F,d⟩:=d;rw[YD];generalize hr:j6 (λ_=>true) (λi a=>min (AF.wrap (a+F i)) 100000) (x.kids.length-0) 0 1=r;refine⟨r,Xa hP g26.ok rfl rfl ?_⟩;rw[H1.e];unfold g26;dsimp only;refine Qd rfl rfl (Zh (ι:=Nat) (λi w J=>(∃a,w=[O i,O a]/\j6 (λ_=>true) (λi a=>min (AF.wrap (a+F i)) 100000) (x.kids.length-i) i a=r)/\ai J 0=.box [aS x.op,O x.n,aS x.who,.aX false false 4 (x.kids.map cK)]/\i<=x.kids.length) (λi=>x.kids.length-i) 0 ⟨⟨1,rfl,hr⟩,rfl,by omega⟩ ?_);rintro i w J again ⟨⟨a,rfl,hr⟩,o,G⟩ C;refine Z rfl (Z (ld o rfl) (Z (Qe ..) ?_));rw[Be];refine Z (Xy ..) (Ya (λh=>?_) (λh=>?_))
  ·have h:i<x.kids.length:=by simpa using h
   refine Z rfl (Z (ld o rfl) (Z (Zm _ cK false false 4 x.kids .i64 i h) (Z (v:=.agg (cK x.kids[i])) (bg (by rw[YD];rfl)) ?_)));refine Qm (d i h) rfl g26.ok.plain (by rw[YD];rfl) (Z (Qi ..) (Z (YU ..) (Z (Qi ..) ?_)));rw[Zd (n:=i) (by omega)];exact C (i+1) _ _ (by omega) ⟨⟨_,rfl,HW h rfl hr⟩,o,by omega⟩
  ·exact congrArg O (HX (.inl (by simpa using h)) hr)
theorem c175(k:Nat):∀x:Cn,B3 x<=k->cP x=true->∃n,PC 27 [.agg (fA x)] (O n):=by
 induction k with
 |zero=>intro x h _;cases x;simp at h
 |succ k E=>
  intro x P hf;have H:=XY hf;have K:=YY hf;rw[de]at H K;have w:∃F:Nat->Int,∀i (h:i<x.aF.length),PC 26 [.agg (cK x.aF[i])] (O (F i)):=by
   refine E6 (r:=λ(i:Nat) (n:Int)=>∀(h:i<x.aF.length),PC 26 [.agg (cK x.aF[i])] (O n)) (λi=>?_);by_cases h:i<x.aF.length
   ·obtain⟨n,y⟩:=c174 _ x.aF[i] (AO _) (X2 hf (AI h));exact⟨n,λ_=>y⟩
   ·exact⟨0,λz=>(h z).elim⟩
  have A:∃F:Nat->Int,∀i (h:i<x.kids.length),PC 27 [.agg (fA x.kids[i])] (O (F i)):=by
   refine E6 (r:=λ(i:Nat) (n:Int)=>∀(h:i<x.kids.length),PC 27 [.agg (fA x.kids[i])] (O n)) (λi=>?_);by_cases h:i<x.kids.length
   ·have B:=AI h;obtain⟨n,y⟩:=E x.kids[i] (by have:=Bo B;omega) (Y2 hf B);exact⟨n,λ_=>y⟩
   ·exact⟨0,λz=>(h z).elim⟩
  obtain⟨F,w⟩:=w;obtain⟨G,A⟩:=A;rw[QN];generalize hr:j6 (λ_=>true) (λi a=>min (AF.wrap (a+F i)) 100000) (x.aF.length-0) 0 1=r;generalize L:j6 (λ_=>true) (λi a=>min (AF.wrap (a+G i)) 100000) (x.kids.length-0) 0 r=C;refine⟨C,Xa hP g27.ok rfl rfl ?_⟩;rw[H1.e];unfold g27;dsimp only;refine Qd rfl rfl (Zh (ι:=Nat) (λi o J=>(∃a,o=[O i,O a]/\j6 (λ_=>true) (λi a=>min (AF.wrap (a+F i)) 100000) (x.aF.length-i) i a=r)/\ai J 0=.box [aS x.op,aS x.who,.str x.name,.aX false false 4 (x.aF.map cK),.aX false false 5 (x.kids.map fA)]/\i<=x.aF.length) (λi=>x.aF.length-i) 0 ⟨⟨1,rfl,hr⟩,rfl,by omega⟩ ?_);rintro i o J again ⟨⟨a,rfl,hr⟩,d,D⟩ p;refine Z rfl (Z (ld d rfl) (Z (Qe ..) ?_));rw[Be];refine Z (Xy ..) (Ya (λh=>?_) (λh=>?_))
  ·have h:i<x.aF.length:=by simpa using h
   refine Z rfl (Z (ld d rfl) (Z (Zm _ cK false false 4 x.aF .i64 i h) (Z (v:=.agg (cK x.aF[i])) (bg (by rw[YD];rfl)) ?_)));refine Qm (w i h) rfl g26.ok.plain (by rw[YD];rfl) (Z (Qi ..) (Z (YU ..) (Z (Qi ..) ?_)));rw[Zd (n:=i) (by omega)];exact p (i+1) _ _ (by omega) ⟨⟨_,rfl,HW h rfl hr⟩,d,by omega⟩
  obtain rfl:=HX (.inl (by simpa using h)) hr;clear p again hr h D;refine Zh (ι:=Nat) (λi o J=>(∃a,o=[O i,O a]/\j6 (λ_=>true) (λi a=>min (AF.wrap (a+G i)) 100000) (x.kids.length-i) i a=C)/\ai J 0=.box [aS x.op,aS x.who,.str x.name,.aX false false 4 (x.aF.map cK),.aX false false 5 (x.kids.map fA)]/\i<=x.kids.length) (λi=>x.kids.length-i) 0 ⟨⟨_,rfl,L⟩,d,by omega⟩ ?_;rintro i o J again ⟨⟨a,rfl,hr⟩,d,D⟩ p;refine Z rfl (Z (ld d rfl) (Z (Qe ..) ?_));rw[Be];refine Z (Xy ..) (Ya (λh=>?_) (λh=>?_))
  ·have h:i<x.kids.length:=by simpa using h
   refine Z rfl (Z (ld d rfl) (Z (Zm _ fA false false 5 x.kids .i64 i h) (Z (v:=.agg (fA x.kids[i])) (bg (by rw[QN];rfl)) ?_)));refine Qm (A i h) rfl g27.ok.plain (by rw[QN];rfl) (Z (Qi ..) (Z (YU ..) (Z (Qi ..) ?_)));rw[Zd (n:=i) (by omega)];exact p (i+1) _ _ (by omega) ⟨⟨_,rfl,HW h rfl hr⟩,d,by omega⟩
  ·exact congrArg O (HX (.inl (by simpa using h)) hr)
variable{α:Type}
theorem told(l:List α){Q:α->Int->Prop}(h:∀x∈l,∃n,Q x n):∃F:Nat->Int,∀i (h:i<l.length),Q l[i] (F i):=by
 refine E6 (r:=λ(i:Nat) (n:Int)=>∀(h:i<l.length),Q l[i] n) (λi=>?_);by_cases d:i<l.length
 ·obtain⟨n,o⟩:=h l[i] (AI d);exact⟨n,λ_=>o⟩
 ·exact⟨0,λp=>(d p).elim⟩
theorem c135(k:Nat):∀l:List Ef,B3 l<=k->bz l=true->∃n,PC 11 [gE l] (O n):=by
 induction k with
 |zero=>intro l h _;cases l<;>simp at h
 |succ k p=>
  intro l D hf;have y:=YF hf;rw[de]at y;have hm:∀x∈l,dO x=true/\B3 x<B3 l:=λx d=>⟨by simp only[bz,AA]at hf;exact UN hf.2 x d,List.sizeOf_lt_of_mem d⟩;obtain⟨z,h1⟩:=told l (Q:=λx n=>PC 26 [.agg (cK x.n)] (O n)) (λx d=>c174 _ x.n (AO _) (zP (hm x d).1));obtain⟨F2,h2⟩:=told l (Q:=λx n=>PC 27 [.agg (fA x.c)] (O n)) (λx d=>c175 _ x.c (AO _) (X9 (hm x d).1));obtain⟨A,h3⟩:=told l (Q:=λx n=>PC 11 [gE x.cL] (O n)) (λx d=>p x.cL (by grind [Bu]) (XP (hm x d).1));obtain⟨B,h4⟩:=told l (Q:=λx n=>PC 11 [gE x.cV] (O n)) (λx d=>p x.cV (by grind [Bu]) (YP (hm x d).1))
  let st:Nat->Int->Int:=λi a=>AF.wrap (AF.wrap (AF.wrap (AF.wrap (a+z i)+F2 i)+A i)+B i)
  generalize hr:j6 (λa=>decide (a<100000)) st (l.length-0) 0 l.length=r;refine⟨min r 100000,Xa hP g11.ok rfl rfl ?_⟩;rw[H1.e];unfold g11;dsimp only;refine Z (Qe ..) ?_;rw[Be];refine Zh (ι:=Nat) (λi w J=>(∃a,w=[O i,O a]/\j6 (λa=>decide (a<100000)) st (l.length-i) i a=r)/\i<=l.length) (λi=>l.length-i) 0 ⟨⟨_,rfl,hr⟩,by omega⟩ ?_;rintro i w J again ⟨⟨a,rfl,hr⟩,G⟩ H;refine Z (Qe ..) ?_;rw[Be];refine Z (Xy ..) (Tm (λ_=>rfl) (λ_=>Xy ..) (Ya (λh=>?_) (λh=>?_)))
  ·simp only[AA,fe]at h;obtain⟨h,C⟩:=h;have h:i<l.length:=by omega
   have o:=λJ=>Zm J bC false false 14 l .i64 i h
   replace h1:=h1 i h
   replace h2:=h2 i h
   replace h3:=h3 i h
   replace h4:=h4 i h
   have K:=HW h (gA C) hr;generalize l[i]=x at o h1 h2 h3 h4;refine Ze (o _) (Yd _) (Xd rfl (Ze (bg (sk x)) (Yd _) (Yo h1 rfl g26.ok.plain (by rw[YD];rfl) (Xd (Qi ..) ?_))));refine Ze (o _) (Yd _) (Xd rfl (Ze (bg (oP x)) (Yd _) (Yo h2 rfl g27.ok.plain (by rw[QN];rfl) (Xd (Qi ..) ?_))));refine Ze (o _) (Yd _) (Xd rfl (Ze (bg (Bq x)) (Yd _) (YX h3 g11.ok (Xd (Qi ..) ?_))));refine Ze (o _) (Yd _) (Xd rfl (Ze (bg (Bm x)) (Yd _) (YX h4 g11.ok (Xd (Qi ..) (Xo (O_ (by simp[qf])) ?_)))));refine Z (Qi ..) ?_;rw[Zd (n:=i) (by omega)]
   grind
  ·refine Z (YU ..) (congrArg O ?_);rw[HX (a:=a) ?_ hr]
   grind
theorem c133(b:Bk)(hf:aN b=true):∃q:Bool,PC 9 [dd b] (.bool q):=by
 simp only[aN,QE,AA,fe]at hf;obtain⟨⟨G,R⟩,H,S⟩:=hf;rw[de]at G H;have hm:∀x∈b.aj,bz x.bp=true/\bz x.dead=true/\bz x.dw=true:=λx d=>by
  simp_all [gq]
 obtain⟨K,h1⟩:=told b.aj (Q:=λx n=>PC 11 [gE x.bp] (O n)) (λx d=>c135 _ _ (AO _) (hm x d).1);obtain⟨F2,h2⟩:=told b.aj (Q:=λx n=>PC 11 [gE x.dead] (O n)) (λx d=>c135 _ _ (AO _) (hm x d).2.1);obtain⟨L,h3⟩:=told b.aj (Q:=λx n=>PC 11 [gE x.dw] (O n)) (λx d=>c135 _ _ (AO _) (hm x d).2.2)
 let st:Nat->Int->Int:=λi a=>AF.wrap (AF.wrap (AF.wrap (a+K i)+F2 i)+L i)
 let st2:Nat->Int->Int:=λi a=>AF.wrap (AF.wrap (a+((b.ar[i]?).map λf=>(f.jk.length:Int)).getD 0)+((b.ar[i]?).map λf=>(f.single.length:Int)).getD 0)
 generalize hr:j6 (λa=>decide (a<=6000)) st (b.aj.length-0) 0 (AF.wrap (b.aj.length+b.ar.length))=r;generalize N:j6 (λa=>decide (a<=6000)) st2 (b.ar.length-0) 0 r=B;refine⟨decide (B>6000),Xa hP g9.ok rfl rfl ?_⟩;rw[H1.e];unfold g9;dsimp only;refine Qd (v:=.ak 0 0) (rd:=[]) (up:=[(0,.box (cf b))]) rfl rfl ?_;have C:∀J,Yn [iX b.aj] J=.ok (O b.aj.length) [] []:=λJ=>by rw[Qe,Be]
 have D:∀J,Yn [oT b.ar] J=.ok (O b.ar.length) [] []:=λJ=>by rw[Qe,Be]
 refine Z rfl (Z rfl (Z (C _) (Z rfl (Z rfl (Z (D _) (Z (Qi ..) ?_))))));refine Zh (ι:=Nat) (λi w J=>(∃a,w=[O i,O a]/\j6 (λa=>decide (a<=6000)) st (b.aj.length-i) i a=r)/\ai J 0=.box (cf b)/\i<=b.aj.length) (λi=>b.aj.length-i) 0 ⟨⟨_,rfl,hr⟩,rfl,by omega⟩ ?_;rintro i w J again ⟨⟨a,rfl,hr⟩,o,E⟩ z;refine Z rfl (Z (ld o rfl) (Z (C _) (Z (Xy ..) (Tm (λ_=>rfl) (λ_=>JQ ..) (Ya (λh=>?_) (λh=>?_))))))
 ·simp only[AA,fe]at h;obtain⟨h,A⟩:=h;have h:i<b.aj.length:=by omega
  have p:=Zm J cM false false 12 b.aj .i64 i h
  replace h1:=h1 i h
  replace h2:=h2 i h
  replace h3:=h3 i h
  have y:=HW h (gA A) hr;generalize b.aj[i]=x at p h1 h2 h3;refine Z rfl (Z (ld o rfl) (Z p (Z (bg (oH x)) (Zq (row:=cM x) (row':=cM x) rfl rfl rfl ?_))));have d:=Xc J (.box (cM x));refine Xd rfl (Ze (ld d rfl) (Yd _) (YX h1 g11.ok ?_));refine ay (Ze (ld d rfl) (Yd _) (YX h2 g11.ok ?_));refine ay ?_;refine Ze (ld d rfl) (Yd _) (YX h3 g11.ok (Xd (Qi ..) (Xo (O_ (by simp[qf])) ?_)));refine Z (Qi ..) ?_;rw[Zd (n:=i) (by omega)];exact z (i+1) _ _ (by omega) ⟨⟨_,rfl,y⟩,Zb _ o,by omega⟩
 obtain rfl:=HX (a:=a) (by
  grind) hr
 clear z again hr h E;refine Zh (ι:=Nat) (λi w J=>(∃a,w=[O i,O a]/\j6 (λa=>decide (a<=6000)) st2 (b.ar.length-i) i a=B)/\ai J 0=.box (cf b)/\i<=b.ar.length) (λi=>b.ar.length-i) 0 ⟨⟨_,rfl,N⟩,o,by omega⟩ ?_;rintro i w J again ⟨⟨a,rfl,hr⟩,o,E⟩ z;refine Z rfl (Z (ld o rfl) (Z (D _) (Z (Xy ..) (Tm (λ_=>rfl) (λ_=>JQ ..) (Ya (λh=>?_) (λh=>?_))))))
 ·simp only[AA,fe]at h;obtain⟨h,A⟩:=h;have h:i<b.ar.length:=by omega
  have p:=Zm J oR false false 7 b.ar .i64 i h;have y:=HW h (gA A) hr;have e:b.ar[i]?=some b.ar[i]:=by simp[h]
  simp only[st2,e,E8,Cw]at y;generalize b.ar[i]=f at p y;refine Z rfl (Z (ld o rfl) (Z p (Z rfl (Z (v:=I9 f.jk) (rd:=[]) (bg rfl) (Z (v:=O f.jk.length) (rd:=[]) (by simp[Qe]) (Z (Qi ..) ?_))))));refine Z rfl (Z (ld o rfl) (Z p (Z rfl (Z (v:=I9 f.single) (rd:=[]) (bg rfl) (Z (v:=O f.single.length) (rd:=[]) (by simp[Qe]) ?_)))));refine ay ?_;rw[Zd (n:=i) (by omega)]
  grind
 obtain rfl:=HX (a:=a) (by
  grind) hr
 exact Z (Y4 ..) rfl
def yl(f:Bool)(p:Pt):Bool×Bool:=(f||rS p,!(f||rS p))
theorem Ze0:∀(l:List Pt) (f:Bool),f=false->(fQ yl f l).1=l.any rS
 |[],f,h=>by subst h;rfl
 |p::l,f,h=>by
  subst h;simp only[fQ,yl,FD,List.any_cons];cases h:rS p
  ·simp only[Ej,if_true,FD];exact Ze0 l false rfl
  ·simp
theorem DB(b:Nat):Jc (.func (.func 188) [] [.ak b 0]) b (λf:Bool=>[.bool f]) yl:=by
 intro p v H f J K hb L;refine Xe hP rfl g188.ok rfl ?_;show g188.u VV [v,.ak b 0] J K;rw[H2.e];unfold g188;dsimp only;have Q:=Yb hb;have z:∀d,Bt b J d->ai d b=.box [.bool (f||rS p)]->VV.rd (Xf false 1 [.ak b 0] d) λt=>VV.rd (qH .not [t] d) λu=>K u d:=λd h1 h2=>Z (ld h2 rfl) (Z rfl (L _ h1 h2));have y:∀x,ai (J++[U.box x]) b=.box [.bool f]:=λx=>Zb _ hb;have A:∀x,Bt b J (J++[U.box x]):=λx=>⟨by simp,λc o _=>Zg _ o⟩;cases H with
 |ef x=>
  refine Z rfl (Z rfl (Z rfl ?_));refine Zq (row:=[.al (bC x) 0]) (row':=[.al (bC x) 0]) rfl rfl rfl (Zj λD E=>Xg ?_);have w:=Xc J (U.box [.al (bC x) 0]);have k4d:∀d,Bt b J d->ai d b=.box [.bool (f||rS (.ef x))]->D [] d:=by
   intro d h1 h2;rw[E];refine Z rfl (Z rfl (Z rfl ?_));refine Zq (row:=[.dq]) (row':=[.dq]) rfl rfl rfl (yR (Yf (z _ (h1.trans ⟨by simp,λc o _=>Zg _ o⟩) (Zb _ h2))))
  clear E;refine Z (ld (y _) rfl) ?_;have r:∀q,q=(f||rS (.ef x))->VV.wr (Xh 1 [.ak b 0,.bool q] (J++[U.box [.al (bC x) 0]])) (J++[U.box [.al (bC x) 0]]) λ_ d=>D [] d:=by
   rintro q rfl;exact Qd (cO (y _) rfl rfl rfl) (Ye _ (by simp;omega)) (k4d _ ((A _).trans ⟨by simp,λc o B=>Qb _ o B⟩) (Zc _ (by simp;omega)))
  cases f with
  |true=>
   exact ay (r _ rfl)
  |false=>
   refine ay ?_;refine Z (ld w rfl) ?_;refine ay ?_;refine Z (bg (nB x)) ?_;refine ae ?_;rcases cE (decide (x.who=2))with h|h
   rotate_left
   ·rw[h];refine ay ?_;exact r _ (by simp[rS,h])
   rw[h];refine ay ?_;refine Z (ld w rfl) ?_;refine ay ?_;refine Z (bg (gQ x)) ?_;refine ae ?_;rcases cE (decide (x.op=0))with h0|h0
   ·rw[h0];refine ay ?_;exact r _ (by simp[rS,h,h0])
   rw[h0];refine ay ?_;refine Z (ld w rfl) ?_;refine ay ?_;refine Z (bg (gQ x)) ?_;refine ae ?_;exact r _ (by simp[rS,h,h0])
 |nm row j x w=>
  refine Z rfl (Z rfl (Z rfl ?_));refine Zq (row:=[.dq]) (row':=[.dq]) rfl rfl rfl (yR (Yf ?_));have C:=y [.dq];have bt1:=A [.dq];generalize J++[U.box [.dq]]=d at C bt1 ⊢;have abC:=Yb C;refine Z rfl (Z rfl (Z rfl ?_));refine Zq (row:=[.al row j]) (row':=[.al row j]) rfl rfl rfl (Zj λk34 N=>Xg ?_);have P:=Xc d (U.box [.al row j]);have G:ai (d++[U.box [.al row j]]) b=.box [.bool f]:=Zb _ C;refine Z (ld G rfl) ?_;have r:∀q,q=(f||rS (.nm x))->VV.wr (Xh 1 [.ak b 0,.bool q] (d++[U.box [.al row j]])) (d++[U.box [.al row j]]) λ_ d=>k34 [] d:=by
   rintro q rfl;refine Qd (cO G rfl rfl rfl) (Ye _ (by simp;omega)) ?_;rw[N];exact z _ ((bt1.trans ⟨by simp,λc o _=>Zg _ o⟩).trans ⟨by simp,λc o B=>Qb _ o B⟩) (Zc _ (by simp;omega))
  cases f with
  |true=>
   exact ay (r _ rfl)
  |false=>
   refine ay ?_;refine Z (ld P rfl) ?_;refine ay ?_;refine Z (bg w.h0) ?_;refine ae ?_;exact r _ rfl
 |cn row j x w=>
  refine Z rfl (Z rfl (Z rfl ?_));refine Zq (row:=[.dq]) (row':=[.dq]) rfl rfl rfl (yR (Yf ?_));refine Z rfl (Z rfl (Z rfl ?_));refine Zq (row:=[.dq]) (row':=[.dq]) rfl rfl rfl (yR (Yf (z _ ((A _).trans ⟨by simp,λc o _=>Zg _ o⟩) ?_)));rw[show (f||rS (.cn x))=f by simp[rS]];exact Zb _ (y _)
theorem c214(c:Cd)(f1:bz c.bp=true)(f2:bz c.dead=true)(f3:bz c.dw=true)(hN:(od c).length<=500000000):PC 148 [.agg (cM c)] (.bool ((od c).any rS)):=by
 refine Xa hP g148.ok rfl rfl ?_;rw[H1.e];unfold g148;dsimp only;refine ay (Xe hP rfl g172.ok rfl (c155 (DB 1) c f1 f2 f3 hN (s:=false) rfl rfl (λσ' _ hb=>?_)));rw[Ze0 _ false rfl]at hb;exact Z (ld hb rfl) rfl
@[reducible] def aR(d o y2:I)(side place target:Int):List I:=[d,O side,O place,O target,o,y2]
def wK(b:Bk)(x:Sd)(place:Int):Cd:=(b.aj[((x.hand[place.toNat]?).getD 0).toNat]?).getD default
def zT(s:St)(target:Int):Bool:=decide (target = -2)||(decide (target = -3)||(decide (target>0)&&(aC s target).2.2))
def nK(b:Bk)(s:St)(x:Sd)(place target:Int):Bool:=
 (decide (s.phase=0)&&(decide (0<=place)&&decide (place<(x.hand.length:Int))))&&(!(decide ((wK b x place).cost>x.aW)||((wK b x place).unit&&decide ((x.af.length:Int) >= 7)))&&(if (od (wK b x place)).any rS=true then zT s target else decide (target = -1)))
@[reducible] def aa':List I:=[.str [],.bool false,O 0,O 0,O 0,O 0,O 0,O 0,.aq,.aq,.aq,O 0]
variable{x:Sd}
variable{row:List I}
theorem Qeq(hx:wJ row j x)(u:Bool){K:I->Prop}(d:K (.bool (u&&decide ((x.af.length:Int) >= 7)))) :
  VV.gr (.bool u) true (λk=>VV.rd (mi [.al row j] J) k) λo=>
  VV.gr (.bool u) true (λk=>VV.rd (Yi [o] J) k) λp=>
  VV.gr (.bool u) true (λk=>VV.rd (Qc 6 [p] J) k) λr=>
  VV.gr (.bool u) true (λk=>VV.rd (Xf false 1 [r] J) k) λw=>
  VV.gr (.bool u) true (λk=>VV.rd (Yn [w] J) k) λy=>
  VV.gr (.bool u) true (λk=>VV.rd (Qn .geq false [y,(.int .i64 7)] J) k) λz=>
  VV.gr (.bool false) false (λk=>VV.rd (Xk [(.bool u),z,(.bool false)] J) k) λA=>
  VV.rd (Xk [(.bool false),(.bool true),A] J) K:=by
 cases u with
 |false=>
  exact ay d
 |true=>
  refine ay ?_;refine Z (bg hx.h6) (Xb (Z (v:=O x.af.length) (rd:=[]) (by simp[Qe]) ?_));exact ay d
theorem Zer{r y2 z0 z1 z2:I}{side place target:Int}{c ok:Bool}(hB:ai J 0=.box [r,y2,.al (aR z0 z1 z2 side place target) 0]){K:I->Prop}(d:K (.bool (c||(decide (target>0)&&ok)))) :
  VV.gr (.bool c) false (λk=>VV.rd (Qc 2 [.ak 0 0] J) k) λw=>
  VV.gr (.bool c) false (λk=>VV.rd (Xf false 1 [w] J) k) λy=>
  VV.gr (.bool c) false (λk=>VV.rd (Yi [y] J) k) λz=>
  VV.gr (.bool c) false (λk=>VV.rd (Qc 3 [z] J) k) λA=>
  VV.gr (.bool c) false (λk=>VV.rd (Xf false 1 [A] J) k) λB=>
  VV.gr (.bool c) false (λk=>VV.rd (Qn .gtr false [B,(.int .i64 0)] J) k) λC=>
  VV.gr (.bool c) false (λk=>VV.rd (mi [C] J) k) λo=>
  VV.gr o true (λk=>VV.rd (mi [(.bool ok)] J) k) λD=>
  VV.gr (.bool c) false (λk=>VV.rd (Xk [o,D,(.bool false)] J) k) λE=>
  VV.rd (Xk [(.bool c),(.bool true),E] J) K:=by
 cases c with
 |true=>
  exact ay d
 |false=>
  refine ay ?_;refine Z (ld hB rfl) ?_;refine ax ?_;generalize decide (target>0)=p at d ⊢;cases p with
  |true=>exact Xb (Z rfl (Xb (Z rfl (Z rfl d))))
  |false=>
   refine ay ?_;exact d
theorem c158(b:Bk)(hf:aN b=true)(C:Yg b.aj)(s:St)(hs:ba 1000000000 s)(side:Int)(j:Nat)(x:Sd)(hx:wJ (aH s) j x)(D:∀J,Qo 2 8 [.al (aH s) (0+7),O side] J=.ok (.al (aH s) j) [] [])(hc:∀c∈x.hand,0<=c/\c.toNat<b.aj.length)(place target:Int){E G y2:I}:PC 100 [.agg [.al (cf b) 0,.al (aH s) 0,.al (aR E G y2 side place target) 0]] (.bool (nK b s x place target)):=by
 refine Xa hP g100.ok rfl rfl ?_;rw[H1.e];unfold g100;dsimp only;refine ay ?_;refine Z (D _) ?_;refine ae ?_;refine Ia (λ_=>rfl) (λ_=>rfl) (λ_=>rfl) (λ_=>rfl) (λ_=>rfl) (λ_=>Xy ..) ?_;refine QeG (λ_=>rfl) (λ_=>rfl) (λ_=>rfl) (λ_=>rfl) (λ_=>rfl) (λ_=>rfl) (λ_=>rfl) (λ_=>rfl) (λ_=>bg hx.h4) (v10:=O x.hand.length) (q10:=[]) (λ_=>by simp[Qe]) (λ_=>pL ..) ?_;refine Ya (λh=>?_) (λh=>?_)
 ·grind [nK]
 have h:s.phase=0/\0<=place/\place<(x.hand.length:Int):=by simp at h;omega
 have d:nK b s x place target=(!(decide ((wK b x place).cost>x.aW)||((wK b x place).unit&&decide ((x.af.length:Int) >= 7)))&&(if (od (wK b x place)).any rS=true then zT s target else decide (target = -1))):=by
  grind [nK]
 obtain⟨_,h0,h1⟩:=h;have h2:place.toNat<x.hand.length:=by omega
 have r:=hc _ (AI h2);have z:wK b x place=b.aj[(x.hand[place.toNat]).toNat]'r.2:=by simp_all [wK]
 rw[z]at d;have o:gq (b.aj[(x.hand[place.toNat]).toNat]'r.2)=true:=by
  simp_all [aN,QE]
 have hsc:=C _ (AI r.2);have A:=λ(w:List U)=>wM w aK false false 1 x.hand .i64 place h0 h2;have y:=λ(w:List U)=>wM w cM false false 12 b.aj .i64 _ r.1 r.2;generalize b.aj[(x.hand[place.toNat]).toNat]'r.2=p at d o hsc y;generalize x.hand[place.toNat]=cn at A y;clear z r h1 h2;refine ay ?_;refine Ze (bg hx.h4) (Yd _) ?_;refine ay ?_;refine Ze (A _) (Yd _) ?_;refine ax ?_;refine Ze (y _) (Yd _) (Ze (bg (oH _)) (Yd _) ?_);refine Ze (v:=.ak 1 0) (rd:=[]) (up:=[(1,.box aa')]) rfl rfl (Ze (v:=.aP) (rd:=[]) (up:=[(1,.box (cM p))]) rfl rfl (Xo (by rfl) ?_));refine Z rfl (Z rfl (Z rfl (Z rfl (Z (bg hx.h1) (Z (Y4 ..) ?_)))));have B:nK b s x place target=false->(.bool false:I)=.bool (nK b s x place target):=λh=>by rw[h]
 generalize decide (p.cost>x.aW)=H at d ⊢;cases H with
 |true=>
  repeat first|refine Yc rfl ?_|refine YG rfl ?_|refine Xu rfl ?_|refine XS rfl ?_
  exact Z rfl (Xg (B (by rw[d];simp)))
 |false=>
 refine ay (Qeq hx p.unit (Ya (λh=>?_) (λh=>?_)))
 ·exact B (by rw[d,h];simp)
 rw[h,L0,Ej,Ax]at d;clear h;simp only[gq,AA]at o;refine ay (bD (c214 p o.2.1 o.2.2.1 o.2.2.2 hsc) g148.ok (Z rfl ?_));generalize (od p).any rS=q at d ⊢;cases q with
 |false=>
  rw[aB (by simp)]at d;rw[d];exact ax rfl
 |true=>
  rw[aE rfl]at d;rw[d];refine ax ?_;refine YX (c71 s hs target) g73.ok ?_;refine ax ?_;refine Ia (λ_=>rfl) (λ_=>rfl) (λ_=>rfl) (λ_=>rfl) (λ_=>bg rfl) (λ_=>Xr ..) ?_;refine Zer rfl ?_;simp[zT,Bool.or_assoc]
abbrev CO(s:St):List I:=[.ak 0 0,O s.turn,O s.mover,aS s.phase,.bool s.bq,aS s.result,.sl 2 0 s.an.length false,O s.next,O s.s0.aY,O s.s0.aW,O s.s0.most,.sl 3 0 s.s0.az.length false,.sl 4 0 s.s0.hand.length false,.sl 5 0 s.s0.ao.length false,.sl 6 0 s.s0.af.length false,.sl 7 0 s.s0.told.length false,O s.s1.aY,O s.s1.aW,O s.s1.most,.sl 8 0 s.s1.az.length false,.sl 9 0 s.s1.hand.length false,.sl 10 0 s.s1.ao.length false,.sl 11 0 s.s1.af.length false,.sl 12 0 s.s1.told.length false]
abbrev sg2(b:Bk)(s:St):List U:=[.box (cf b),.box (aH s),.rows 1 (s.an.map aK),.rows 1 (s.s0.az.map aK),.rows 1 (s.s0.hand.map aK),.rows 1 (s.s0.ao.map aK),.rows 4 (s.s0.af.map br),.rows 1 (s.s0.told.map aK),.rows 1 (s.s1.az.map aK),.rows 1 (s.s1.hand.map aK),.rows 1 (s.s1.ao.map aK),.rows 4 (s.s1.af.map br),.rows 1 (s.s1.told.map aK)]
def ZP(b:Bk)(c:Int):Cd:=(b.aj[c.toNat]?).getD default
def nL(b:Bk)(place:Int):List Th->Int->Int×Int->Int×Int
 |[],_,a=>a
 |u::l,i,a=>nL b place l (i+1) (if i=place then (AF.wrap (a.1+(ZP b u.card).e8),AF.wrap (a.2+(ZP b u.card).cm))else (AF.wrap (a.1+(ZP b u.card).f_),AF.wrap (a.2+(ZP b u.card).fh)))
def pr(b:Bk)(l:List Th)(place:Int):Int×Int:=nL b place l 0 (0,0)
def ZU(b:Bk)(all:List Th):List Th->Int->List Int
 |[],_=>[]
 |u::l,i=>if (pr b all i).2<=u.harm then u.id::ZU b all l (i+1)else ZU b all l (i+1)
def uI(b:Bk)(d:Sd):List Int:=ZU b d.af d.af 0
theorem XbI(b:Bk)(all:List Th):∀(l:List Th) (i:Int),(ZU b all l i).length<=l.length
 |[],_=>AO _
 |u::l,i=>by
  have:=XbI b all l (i+1);unfold ZU;split<;>simp<;>omega
def bc(b:Bk)(s:St):List Int:=if s.mover=0 then uI b s.s0++uI b s.s1 else uI b s.s1++uI b s.s0
theorem KS(x:Cd):aO false 3 1 (cM x)=some (O x.e8):=rfl
theorem KU(x:Cd):aO false 4 1 (cM x)=some (O x.cm):=rfl
theorem KW(x:Cd):aO false 6 1 (cM x)=some (O x.f_):=rfl
theorem KX(x:Cd):aO false 7 1 (cM x)=some (O x.fh):=rfl
variable{v:I}
theorem ru{b sz:Nat}{agg:Bool}{rs:List (List I)}(hb:ai J b=.rows sz rs)(hi:rs[i]?=some row)(hv:aO agg j n row=some v):Xf agg n [.ptr b i j] J=.ok v [b] []:=by
 show (match ai J b with
   |.rows _ rs=>match nth rs i with
    |some row=>match aO agg j n row with
     |some v=>aL.ok v [b] []
     |none=>.stop
    |none=>.stop
   | _=>.stop)=_
 rw[hb];simp only[Q4,hi,hv]
theorem Gr.more{σ0:List U}{rows:List (List I)}(h:Gr σ0 n rows k v J)(l:List U):Gr σ0 n rows k v (J++l):=by
 obtain⟨h1,h2,h3⟩:=h;refine⟨by simp;omega,λc d=>by rw[Zg l (by omega),h2 c d],?_⟩;rcases h3 with h3|⟨o,b,p,r,w,y⟩
 ·exact .inl h3
 ·exact .inr ⟨o,b,p,r,Zb l w,y⟩
variable{l:List Int}
theorem Gr.ri{σ0:List U}(h:Gr σ0 1 (l.map aK) l.length v J):∃rd,RI J rd v l:=by
 rcases h.2.2 with ⟨h1,h2,_⟩|⟨_,b,_,h2,h3,_⟩
 ·simp_all [RI.aq]
 ·subst h2;exact⟨[b],RI.own h3 (by simp) rfl⟩
def mq(side:Int):Nat:=if side=0 then 4 else 9
def vi(side:Int):Nat:=if side=0 then 7 else 15
theorem c75(b:Bk)(s:St)(hm:m=0\/m=1)(hl:(s.side m).af.length<=1000000000)(hu:∀u∈(s.side m).af,0<=u.card/\u.card.toNat<b.aj.length)(place:Int):PC 123 [.al (.al (cf b) 0::aH s) 0,O m,O place] (.bw [O (pr b (s.side m).af place).1,O (pr b (s.side m).af place).2]):=by
 generalize B:(s.side m).af=d at *;have o:aO false (vi m+1+6) 1 (.al (cf b) 0::aH s)=some (ly d):=by rw[<-B];rcases hm with rfl|rfl<;>rfl
 have p:∀J,Qo 2 8 [.al (.al (cf b) 0::aH s) (0+1+7),O m] J=.ok (.al (.al (cf b) 0::aH s) (vi m+1)) [] []:=λJ=>by rcases hm with rfl|rfl<;>rfl
 refine Xa hP g123.ok rfl rfl ?_;rw[H3.e];unfold g123;dsimp only;refine Z rfl (Z rfl (Z rfl (Z (p _) (Z rfl (Z (bg o) (Z (v:=O d.length) (rd:=[]) (by simp[Qe]) ?_))))));refine Zh (ι:=Nat) (λi r _=>(∃a:Int×Int,r=[O i,O a.1,O a.2]/\pr b d place=nL b place (d.drop i) i a)/\i<=d.length) (λi=>d.length-i) 0 ⟨⟨(0,0),rfl,by simp[pr]⟩,by omega⟩ ?_;rintro i r J again ⟨⟨a,rfl,hr⟩,p⟩ w;refine Z rfl (Ya (λh=>?_) (λh=>?_));rotate_left
 ·have h:i=d.length:=by simp at h;omega
  simp_all [nL]
 have h:i<d.length:=by simpa using h
 have y:=AI h;rw[gB h,nL]at hr;have z:=λ(t:List U)=>Zm t br false false 4 d .i64 i h;generalize d[i]=u at y hr z;have hcu:=hu u y;have hcx:=λ(t:List U)=>wM t cM false false 12 b.aj .i64 u.card hcu.1 hcu.2;have C:ZP b u.card=b.aj[u.card.toNat]:=by simp_all [ZP]
 rw[C]at hr;generalize b.aj[u.card.toNat]=c at hr hcx;refine Zj λk10 A=>?_;refine Z (z _) (Z (bg rfl) (Zq (row:=br u) (row':=br u) rfl rfl rfl ?_));have D:=Xc J (.box (br u));refine Z rfl (Z rfl (Z (bg rfl) (Z rfl (Z rfl (Z (bg rfl) (Z rfl (Z (ld D rfl) (Z (hcx _) (Z (Xr ..) ?_)))))))));refine Ya (λo=>?_) (λo=>?_)
 ·rw[aE (of_decide_eq_true o)]at hr;refine Z rfl (Z rfl (Z (bg (KS _)) (Z (Qi ..) (Z rfl (Z rfl (Z (bg (KU _)) (Z (Qi ..) ?_)))))));rw[A];refine Z (Qi ..) ?_;rw[Zd (n:=i) (by omega)];exact w (i+1) _ _ (by omega) ⟨⟨_,rfl,by rw[hr];push_cast;rfl⟩,by omega⟩
 ·rw[aB (of_decide_eq_false o)]at hr;refine Z rfl (Z rfl (Z (bg (KW _)) (Z (Qi ..) (Z rfl (Z rfl (Z (bg (KX _)) (Z (Qi ..) ?_)))))));rw[A];refine Z (Qi ..) ?_;rw[Zd (n:=i) (by omega)];exact w (i+1) _ _ (by omega) ⟨⟨_,rfl,by rw[hr];push_cast;rfl⟩,by omega⟩
theorem c28(b:Bk)(hf:aN b=true)(S:Yg b.aj)(s:St)(hs:ba 2000000 s)(hm:aJ (bO b).1 b s true=true):PC 95 [dd b,bN s] (aM (bc b s)):=by
 have T:AF.wrap (0+1)=1:=by decide
 have V:AF.wrap (1+1)=2:=by decide
 have LP:=Xv hm;obtain⟨M,z⟩:∃M,(sg2 b s).append [U.box (CO s)]=M:=⟨_,rfl⟩;have inner:∀(m:Int) (r:m=0\/m=1) (pre:List Int) (v:I) (o:List U) (X:n_),Gr M 1 (pre.map aK) pre.length v o->pre.length<=2000000->(∀A τ',Gr M 1 ((pre++uI b (s.side m)).map aK) (pre++uI b (s.side m)).length A τ'->X [O (s.side m).af.length,A] τ') ->
   VV.loop (λY v22 J=>VV.rd (Qn .lss false [h0 v22,O (s.side m).af.length] J) λt35=>VV.test t35 (
    c8 (λk24=>VV.rd (Zi 4 [.sl (mq m + 2) 0 (s.side m).af.length false,h0 v22] J) λt37=>VV.rd (Xf true 4 [t37] J) λt38=>VV.wr (Zt [.int .i64 0,.int .i64 0,.int .i64 0,.bool false] [] J) J λt10 J=>VV.wr (Xh 4 [t10,t38] J) J λ_ J=>
     VV.call (.call 123) [.ak 13 0,O m,h0 v22] J λt43 J=>VV.rd (Zk 0 [t43] J) λt44=>VV.rd (Zk 1 [t43] J) λt45=>VV.rd (Qc 2 [t10] J) λt46=>VV.rd (Xf false 1 [t46] J) λt47=>VV.rd (Qn .geq false [t47,t45] J) λt49=>VV.test t49 (
      VV.rd (Qc 0 [t10] J) λt51=>VV.rd (Xf false 1 [t51] J) λt52=>VV.wr (Yq 1 1 [.int .i64 0] [(0,1)] [t52] J) J λt53 J=>VV.wr (Yh 1 8 [h1 v22,t53] J) J λt54 J=>k24 [t54] J) (k24 [h1 v22] J)) (λv25 J=>VV.rd (Qn .add false [h0 v22,.int .i64 1] J) λt55=>Y [t55,h0 v25] J)) (X v22 J)) [.int .i64 0,v] o:=by
  intro m r pre v o X B abI hX;have hul:(s.side m).af.length<=2000000:=by rcases r with rfl|rfl;exact hs.s0.af;exact hs.s1.af
  have huu:∀u∈(s.side m).af,0<=u.card/\u.card.toNat<b.aj.length:=by rcases r with rfl|rfl;exact TV hm;exact S_ hm
  have h165:=c75 b s r (by omega) huu;have hMU:ai M (mq m+2)=.rows 4 ((s.side m).af.map br):=by rw[<-z];rcases r with rfl|rfl<;>rfl
  have iZ:uI b (s.side m)=ZU b (s.side m).af (s.side m).af 0:=rfl;generalize (s.side m).af=p at *;refine Zh (ι:=Nat) (λi E o=>(∃(done:List Int) (v:I),E=[O i,v]/\Gr M 1 (done.map aK) done.length v o/\pre++uI b (s.side m)=done++ZU b p (p.drop i) i/\done.length<=pre.length+i)/\i<=p.length) (λi=>p.length-i) 0 ⟨⟨pre,_,rfl,B,by rw[iZ];rfl,by omega⟩,by omega⟩ ?_;rintro i E o again ⟨⟨done,v,rfl,C,hr,hdl⟩,hi⟩ G;refine Z rfl (ZT (λh=>?_) (λh=>?_))
  ·have H:(p.map br)[i]?=some (br p[i]):=by simp[h]
   rw[gB h,ZU]at hr;generalize p[i]=u at hr H;refine Zj λk24 K=>?_;have L:ai o (mq m+2)=.rows 4 (p.map br):=C.fG hMU (by simp);refine Z (v:=.ptr (mq m+2) i 0) (rd:=[mq m+2]) ?_ ?_
   ·have:=Y9 o (mq m+2) 0 p.length false 4 (p.map br) .i64 i h L;rw[Al]at this;exact this
   refine Z (ru L H rfl) (Zq (row:=br u) (row':=br u) rfl rfl rfl ?_);have N:=Xc o (.box (br u));have w:=C.more [.box (br u)];have d:∀c y,y≠U.dead->ai ((sg2 b s).append [U.box (CO s)]) c=y->ai (o++[.box (br u)]) c=y:=λc y hy hc=>w.fG (by rw[<-z];exact hc) hy;refine Yt (rd:=[0,2,3,4,5,6,7,8,9,10,11,12,13]) (h165 i) rfl g123.ok.plain (.cons (aA.box (row:=CO s) (Zw (d 13 _ (by simp) rfl) (by simp)) (by decide) (.cons (aA.box (row:=cf b) (Zw (d 0 _ (by simp) rfl) (by simp)) (by decide) (bA.ro rfl)) ?_)) <| .cons (aA.ro rfl) <| .cons (aA.ro rfl) .nil) rfl ?_
   ·exact SB.mk (s:=s) (RI.own (d 2 _ (by simp) rfl) (by decide) rfl) (RI.own (d 3 _ (by simp) rfl) (by decide) rfl) (RI.own (d 4 _ (by simp) rfl) (by decide) rfl) (RI.own (d 5 _ (by simp) rfl) (by decide) rfl) (RT.own (d 6 _ (by simp) rfl) (by decide) rfl) (RI.own (d 7 _ (by simp) rfl) (by decide) rfl) (RI.own (d 8 _ (by simp) rfl) (by decide) rfl) (RI.own (d 9 _ (by simp) rfl) (by decide) rfl) (RI.own (d 10 _ (by simp) rfl) (by decide) rfl) (RT.own (d 11 _ (by simp) rfl) (by decide) rfl) (RI.own (d 12 _ (by simp) rfl) (by decide) rfl)
   refine ay (Z (ld N rfl) (Z (pL ..) ?_));refine Ya (λD=>?_) (λD=>?_)
   ·rw[aE (of_decide_eq_true D)]at hr;refine Z rfl (Z (ld N rfl) ?_);refine w.put (by_:=8) rfl rfl rfl (by omega) (λA τ' R1=>?_);rw[K];refine Z (Qi ..) ?_;rw[Zd (n:=i) (by omega)];refine G (i+1) _ _ (by omega) ⟨⟨done++[u.id],A,rfl,?_,?_,?_⟩,by omega⟩
    ·rw[A8,AT];exact R1
    ·rw[hr,Cp];push_cast;rfl
    ·rw[AT,EJ];omega
   ·rw[aB (of_decide_eq_false D)]at hr;rw[K];refine Z (Qi ..) ?_;rw[Zd (n:=i) (by omega)];exact G (i+1) _ _ (by omega) ⟨⟨done,v,rfl,w,by rw[hr];push_cast;rfl,by omega⟩,by omega⟩
  subst h;rw[As,ZU,DR]at hr;subst hr;exact hX v o C
 have h01:s.mover=0\/s.mover=1:=by omega
 obtain⟨m,em⟩:∃m,s.mover=m:=⟨_,rfl⟩;rw[em]at h01;have h10:1-m=0\/1-m=1:=by omega
 have pu:∀ {k:Int},k=0\/k=1->aO false (vi k+1+6) 1 (CO s)=some (.sl (mq k+2) 0 (s.side k).af.length false):=by rintro k (rfl|rfl)<;>rfl
 have P:∀ {k:Int},k=0\/k=1->∀J,Qo 2 8 [.ak 13 (0+1+7),O k] J=.ok (.ak 13 (vi k+1)) [] []:=by rintro k (rfl|rfl) J<;>rfl
 refine Zo hP g95.ok rfl ?_;rw[H2.e];unfold g95;dsimp only;refine ay (qK b hf S s (hs.mono (by decide)) (n0:=2) (n:=13) rfl rfl rfl rfl (λh=>by rw[hm]at h;cases h) (λ_=>?_));have Q:∀J,ai J 1=.box (aH s)->Xf false 1 [.ak 1 1] J=.ok (O m) [1] []:=λJ h=>by
  have:=ld (J:=J) (b:=1) (j:=1) (n:=1) (agg:=false) (v:=O s.mover) h rfl;rw[em]at this;exact this
 refine Z rfl (Yf (Z rfl (Z (Q _ rfl) (Z rfl (Z (Q _ rfl) (Z (Bv ..) ?_))))));rw[Bb _ (by omega)];refine Z rfl (ZM 3 (Yk ?_));have B:Gr M 1 ([].map aK) ([]:List Int).length .aq ((sg2 b s).append [.box (CO s)]):=by rw[z];exact Gr.nil 1 _
 have hold:∀ {rows n v J},Gr M 1 rows n v J->ai J 13=.box (CO s):=λh=>h.fG (by rw[<-z];rfl) (by simp);refine Z rfl (Xg (Z rfl (Z rfl (Z rfl (Z rfl (Z (P h01 _) (Z rfl (Z (ld (hold B) (pu h01)) (Z rfl ?_)))))))));refine inner m h01 [] _ _ _ B (by simp) λv1 τ1 R=>?_;have IL:=XbI b (s.side m).af (s.side m).af 0;have hul:(s.side m).af.length<=2000000:=by rcases h01 with rfl|rfl;exact hs.s0.af;exact hs.s1.af
 refine Z rfl ?_;rw[T];refine Yk (Z rfl (Xg (Z rfl (Z rfl (Z rfl (Z rfl (Z (P h10 _) (Z rfl (Z (ld (hold R) (pu h10)) (Z rfl ?_))))))))));refine inner (1-m) h10 _ _ _ _ R (by simp[uI];omega) λv2 τ2 w=>?_;refine Z rfl ?_;rw[V];refine Yk (Z rfl (Yf ?_));obtain⟨rd,hri⟩:=w.ri;refine⟨rd,?_⟩;have e:bc b s=[]++uI b (s.side m)++uI b (s.side (1-m)):=by
  unfold bc;rw[em];rcases h01 with rfl|rfl<;>rfl
 rw[e];exact hri
def I':Th:=⟨0,0,0,false⟩
theorem XbR:∀l:List Th,a_ (l.map br)=true
 |[]=>rfl
 |x::l=>by simp only[B7,a_,XbR l,DZ];rfl
variable{ex:Bool}
theorem JM{sz b:Nat}{rs:List (List I)}(hb:ai J b=.rows sz rs)(hi:i<=n)(h3:AJ sz 3=false:=by rfl):∃v rd,ZB sz [.sl b 0 n ex,O i] J=.ok v rd []/\((i<n/\v=.sl b i (n-i) ex/\rd=[b])\/(i=n/\v=.aX false (C3 0 n) sz []/\rd=[])):=by
 by_cases h:i<n
 ·refine⟨.sl b i (n - i) ex,[b],?_,.inl ⟨h,rfl,rfl⟩⟩;show (match ai J b with
   |.rows s _=>bif AJ s sz then (bif C3 i n then aL.ok (.sl b (0+i) (n-i) ex) [b] []else bif AJ i n then (bif AJ sz 3 then .ok (.sl b (0+n) 0 ex) [b] []else .ok (.aX false (C3 0 n) sz []) [] [])else .stop)else .stop
   | _=>.stop)=_
  rw[hb];have:C3 i n=true:=AH h;simp only[EK,cond_true,this,Al]
 ·have e:i=n:=by omega
  subst e;refine⟨.aX false (C3 0 i) sz [],[],?_,.inr ⟨rfl,rfl,rfl⟩⟩;show (match ai J b with
   |.rows s _=>bif AJ s sz then (bif C3 i i then aL.ok (.sl b (0+i) (i-i) ex) [b] []else bif AJ i i then (bif AJ sz 3 then .ok (.sl b (0+i) 0 ex) [b] []else .ok (.aX false (C3 0 i) sz []) [] [])else .stop)else .stop
   | _=>.stop)=_
  rw[hb];have:C3 i i=false:=by
   cases e:C3 i i<;>simp_all
  simp_all
theorem YcK(l:List Th)(i:Nat)(hi:i<l.length):∃d u o,l=d++u::o/\d.length=i/\l.eraseIdx i=d++o:=by
 refine⟨l.take i,l[i],l.drop (i+1),?_,by simp;omega,List.eraseIdx_eq_take_drop_succ ..⟩;simp
variable{rest:List Th}
variable{K:KT}
theorem c72{b:Nat}{l:List Th}(hb:ai J b=.rows 4 ((l++rest).map br))(hi:i<l.length)(hl:l.length<=1000000000)
 (z:K (.sl b 0 (l.length-1) false) (J.set b (.rows 4 ((l.eraseIdx i++I'::rest).map br)))):g144.u VV [.sl b 0 l.length false,O i,O ((i+1:Nat):Int)] J K:=by
 have p:=Yb hb;obtain⟨o,u,d,A,D,E⟩:=YcK l i hi;have hlen:l.length=i+1+d.length:=by rw[A];simp;omega
 rw[H3.e];unfold g144;dsimp only;refine Z (v:=O l.length) (rd:=[]) rfl (Z (v:=.aP) (rd:=[]) ?_ ?_)
 ·show (bif BY i (i+1)&&(BY (i+1) l.length&&BY l.length l.length)then aL.ok .aP [] []else .stop)=_;simp_all [AH]
 refine Z (Xr ..) ?_;rw[i7 (by omega)];refine Yf (Z (v:=O l.length) (rd:=[]) rfl ?_);refine Ze (v:=.sl b 0 i false) (rd:=[b]) ?_ (Yd _) ?_
 ·show (match ai J b with
   |.rows s _=>bif AJ s 4&&BY i l.length then aL.ok (.sl b 0 i false) [b] []else .stop
   | _=>.stop)=_
  rw[hb];simp only[EK,AH (show i<=l.length by omega),C2,cond_true]
 obtain⟨v,rd,G,H⟩:=JM (n:=l.length) (i:=i+1) (ex:=false) hb (by omega);refine Ze G (Yd _) ?_;have r:∃y,Yl 4 J v=some (d.map br,y):=by
  rcases H with ⟨h1,rfl,_⟩|⟨h1,rfl,_⟩
  ·refine⟨[b],?_⟩;have L:cut (i+1) (i+1+(l.length-(i+1))) ((l++rest).map br)=d.map br:=by
    rw[A];unfold cut;rw[show i+1+((o++u::d).length-(i+1))=(o++u::d).length by simp;omega,A8,List.take_left' (by simp),A8,B7,show i+1=(o.map br++[br u]).length by simp[D],show o.map br++br u::d.map br=(o.map br++[br u])++d.map br by simp];exact HA
   show (match ai J b with
    |.rows s rs=>bif AJ s 4&&BY (i+1+(l.length-(i+1))) rs.length then some (cut (i+1) (i+1+(l.length-(i+1))) rs,[b])else none
    | _=>none)=_
   rw[hb];simp only[EK,AH (show i+1+(l.length-(i+1))<=((l++rest).map br).length by simp;omega),C2,cond_true,L]
  ·have:d=[]:=Ck.1 (by omega);subst this;exact⟨[],rfl⟩
 obtain⟨y,r⟩:=r;have S:((l++rest).map br).length=l.length+rest.length:=by simp
 have N:Yh 4 32 [.sl b 0 i false,v] J=.ok (.sl b 0 (i+d.length) false) y [(b,.rows 4 (over i (d.map br) ((l++rest).map br)))]:=by
  have h1:(AJ 0 0&&AJ ((l++rest).map br).length i)=false:=by
   grind [fK]
  have:Yh 4 32 [.sl b 0 i false,v] J=zN 4 32 J b 0 i ((l++rest).map br) v:=by
   show (match ai J b with
    |.rows s rs=>bif AJ s 4 then (bif AJ 0 0&&AJ rs.length i then Qz 4 32 J rs [(b,.dead)] v else zN 4 32 J b 0 i rs v)else .stop
    |.full s rs=>bif AJ s 4&&AJ 0 0 then zw 4 32 J b i rs v else .stop
    | _=>.stop)=_
   simp_all
  rw[this,zN];simp only[r,XbR,cond_true,Al,AH (show i+(d.map br).length<=((l++rest).map br).length by simp;omega),Be]
  grind [AH]
 refine Ze N (Ye _ p) (Xo (by rfl) ?_);refine Z (v:=O ((i+d.length:Nat):Int)) (rd:=[]) rfl ?_;have B:=Zc (J:=J) (.rows 4 (over i (d.map br) ((l++rest).map br))) p;have C:over i (d.map br) ((l++rest).map br)=(o++d).map br++((u::d).drop d.length).map br++rest.map br:=by
  grind [over,List.drop_drop,HA,Be,Lx]
 have P:∃w,(u::d).drop d.length=[w]:=by
  have:((u::d).drop d.length).length=1:=by simp
  exact List.length_eq_one_iff.1 this
 obtain⟨w,hw⟩:=P;rw[hw]at C;rw[C]at B ⊢;have T:((o++d).map br++[w].map br++rest.map br).length=l.length+rest.length:=by simp;omega
 refine Z (v:=.sl b (0+(i+d.length)) (l.length-(i+d.length)) false) (rd:=[b]) ?_ ?_
 ·show (match ai (J.set b _) b with
   |.rows s rs=>bif AJ s 4&&((C3 (i+d.length) l.length||AJ (i+d.length) 0)&&(BY l.length (i+d.length)||(!(AJ 4 0)&&BY (0+l.length) rs.length)))then aL.ok (.sl b (0+(i+d.length)) (l.length-(i+d.length)) false) [b] []else .stop
   | _=>.stop)=_
  rw[B];have k1:C3 (i+d.length) l.length=true:=AH (show i+d.length+1<=l.length by omega);have k2:BY (0+l.length) ((o++d).map br++[w].map br++rest.map br).length=true:=AH (by omega);simp only[k1,k2,EK,Bool.true_or,Ax,DZ];cases BY l.length (i+d.length)<;>rfl
 refine Qd (v:=.aP) (rd:=[]) (up:=[(b,.rows 4 (over (0+(i+d.length)) (CD (l.length-(i+d.length)) (br I')) ((o++d).map br++[w].map br++rest.map br)))]) ?_ (Ye _ (by simpa using p)) ?_
 ·show (match ai (J.set b _) b with
   |.rows s rs=>bif AJ s 4&&BY (0+(i+d.length)+(l.length-(i+d.length))) rs.length then aL.ok .aP [] [(b,.rows 4 (over (0+(i+d.length)) (CD (l.length-(i+d.length)) (br I')) rs))]else .stop
   | _=>.stop)=_
  simp_all [AH]
 rw[List.set_set];have Q:l.length-1=i+d.length:=by omega
 have R:over (0+(i+d.length)) (CD (l.length-(i+d.length)) (br I')) ((o++d).map br++[w].map br++rest.map br)=(l.eraseIdx i++I'::rest).map br:=by
  rw[show l.length-(i+d.length)=1 by omega,E]
  grind [over]
 rw[Q]at z;rw[R];exact z
theorem c74(x id:Int):PC 146 [O x,.al [O id] 0] (.bool (decide (x=id))):=by
 refine Xa hP g146.ok rfl rfl ?_;rw[H2.e];unfold g146;dsimp only;exact Z (bg rfl) (Z (Xr ..) rfl)
theorem ZcL{b m:Nat}{L:List Int}(hb:ai J b=.rows 1 (L.map aK))(hm:m<L.length)(x:Int):Xh 1 [.ptr b m 0,O x] J=.ok .aP [] [(b,.rows 1 ((L.set m x).map aK))]:=by
 have d:m<(L.map aK).length:=by simpa using hm
 have h1:nth (L.map aK) m=some (aK L[m]):=by simp_all [Q4]
 have h2:QF m [O x] (L.map aK)=some ((L.set m x).map aK):=by
  rw[Dt d,Ga];rfl
 show (match ai J b with
   |.rows sz rs=>match nth rs m with
    |some row=>match cellsOf (O x)with
     | some cs=>bif AJ cs.length 1 then (match bW 0 cs row with
      |some row'=>match QF m row' rs with
       |some rs'=>aL.ok .aP [] [(b,.rows sz rs')]
       |none=>.stop
      | none=>.stop)else .stop
     |none=>.stop
    |none=>.stop
   | _=>.stop)=_
 simp_all [aK]
theorem Zdw(f:α->Bool):∀(l:List α) (n:Int),ea f l n = -1/\(∀x∈l,f x=false)\/∃k:Nat,k<l.length/\ea f l n=n+k/\(∀x∈l.take k,f x=false)/\(l[k]?).map f=some true
 |[],n=>.inl ⟨rfl,by simp⟩
 |x::l,n=>by
  by_cases h:f x=true
  ·grind [ea]
  ·have e:ea f (x::l) n=ea f l (n+1):=aB h;rw[e];have r:f x=false:=by simpa using h
   rcases Zdw f l (n+1)with ⟨o,d⟩|⟨k,o,d,w,p⟩
   ·simp_all
   ·refine .inr ⟨k+1,by simp;omega,by rw[d];push_cast;omega,?_,by simpa using p⟩;simp_all
def cj(id:Int)(l:List Int):List Int:=l.filter λx=>!decide (x=id)
theorem XcF(id:Int)(l:List Int):(cj id l).length<=l.length:=List.length_filter_le _ _
theorem Ycr(h:∀x∈l,decide (x=id)=false):cj id l=l:=by
 simp_all [cj]
variable{rd:List Nat}
theorem T'{b:Nat}{rest:List Int}(hb:ai J b=.rows 1 ((l++rest).map aK))(ct:b∈rd)(hn:n=l.length):RI J rd (.sl b 0 n ex) l:=by
 subst hn;refine aA.own hb ct (by simp) ?_ To;simp[cut]
theorem ZcP{y:Nat}(h:¬y<J.length):ai J y=.dead:=by
 induction J generalizing y with
 |nil=>rfl
 |cons x J d=>cases y<;>simp_all
theorem c73{b c:Nat}{rest:List Int}(hb:ai J b=.rows 1 ((l++rest).map aK))(hc:ai J c=.box [O id])(hl:l.length<=1000000000)
 (z:∀d Q,d.length=J.length->(∀k,k≠b->ai d k=ai J k)->ai d b=.rows 1 ((cj id l++Q).map aK)->K (.sl b 0 (cj id l).length false) d) :
  g145.u VV [.sl b 0 l.length false,.func (.func 146) [] [.ak c 0]] J K:=by
 have X:=Yb hb;have hbc:c≠b:=by rintro rfl;rw[hb]at hc;cases hc
 rw[H2.e];unfold g145;dsimp only;refine Yt (rd:=[b,c]) (c120 l (by rw[de];omega) 146 [] [.al [O id] 0] g146.ok.plain (λx=>decide (x=id)) (λx _=>c74 x id) (λx=>rfl)) rfl g60.ok.plain (.cons (T' hb (by simp) rfl) <| .cons (aA.func .nil (.cons (aA.box (Zw hc (by simp)) (by simp) (bA.ro rfl)) .nil)) .nil) rfl (Z (Xr ..) ?_);rcases Zdw (λx=>decide (x=id)) l 0 with ⟨A,r⟩|⟨k,A,r,Y,q4⟩
 ·rw[A];refine Xg ?_;have e:=Ycr r
  grind
 rw[r,Int.zero_add,i7 (by omega)];refine Yf (Z (Qi ..) ?_);rw[Zd (n:=k) (by omega)];have WT:cj id (l.take (k+1))=l.take k:=by
  simp_all [cj,GV]
 refine Zh (ι:=Nat) (λj B d=>∃(m:Nat) (L:List Int),B=[O j,O m]/\j<=l.length/\m<j/\L.length=l.length+rest.length/\L.take m=cj id (l.take j)/\(∀i,j<=i->i<l.length->L[i]?=l[i]?)/\ai d b=.rows 1 (L.map aK)/\d.length=J.length/\(∀x,x≠b->ai d x=ai J x)) (λj=>l.length-j) (k+1)
  ⟨k,l++rest,rfl,by omega,by omega,by simp,by grind,λi h1 h2=>by rw[Bi h2],hb,rfl,λ_ _=>rfl⟩ ?_
 rintro j B d again ⟨m,L,rfl,hj,hm,C,p,hr,o,w,D⟩ E;have sF:m<=L.length:=by omega
 refine Z rfl (Z rfl (ZT (λh=>?_) (λh=>?_)))
 ·have G:L[j]?=some l[j]:=by rw[hr j (AO _) h];simp[h]
  have H:l.take (j+1)=l.take j++[l[j]]:=by rw[GV];simp[h]
  generalize l[j]=x at G H;refine Zj λk7 hk7=>?_;refine Z (v:=.ptr b j 0) (rd:=[b]) ?_ ?_
  ·have:=Y9 d b 0 l.length false 1 (L.map aK) .i64 j h o;rw[Al]at this;exact this
  refine Z (ru o (row:=aK x) (by rw[Ba,G];rfl) rfl) ?_;have R:ai d c=.box [O id]:=by rw[D c hbc];exact hc
  refine Yt (rd:=[c]) (c74 x id) rfl g146.ok.plain (.cons (aA.ro rfl) <| .cons (aA.box (Zw R (by simp)) (by simp) (bA.ro rfl)) .nil) rfl (Z rfl (Ya (λS=>?_) (λS=>?_)))
  ·refine Z (v:=.ptr b m 0) (rd:=[b]) ?_ ?_
   ·have:=Y9 d b 0 l.length false 1 (L.map aK) .i64 m (by omega) o;rw[Al]at this;exact this
   refine Qd (ZcL o (by omega) x) (Ye _ (by omega)) (Z (Qi ..) ?_);rw[Zd (n:=m) (by omega),hk7];refine Z (Qi ..) ?_;rw[Zd (n:=j) (by omega)];refine E (j+1) _ _ (by omega) ⟨m+1,L.set m x,rfl,by omega,by omega,by simpa using C,?_,λi h1 h2=>?_,Zc _ (by omega),by simpa using w,λy T=>?_⟩
   ·rw[H,cj,List.filter_append,GV,List.take_set_of_le (AO _),p]
    grind [cj]
   ·grind
   grind [Qb,ZcP]
  ·rw[hk7];refine Z (Qi ..) ?_;rw[Zd (n:=j) (by omega)];refine E (j+1) _ _ (by omega) ⟨m,L,rfl,by omega,by omega,C,?_,λi h1 h2=>hr i (by omega) h2,o,w,D⟩
   grind [cj]
 ·subst h;rw[C5]at p;have hmw:(cj id l).length=m:=by rw[<-p,EM];omega
  obtain⟨v,rd,V,N⟩:=JM (n:=l.length) (i:=m) (ex:=false) o (by omega);have N:v=.sl b m (l.length-m) false/\rd=[b]:=by
   grind
  obtain⟨rfl,rfl⟩:=N;refine Z V (Qd (v:=.aP) (rd:=[]) (up:=[(b,.rows 1 (over m (CD (l.length-m) (aK 0)) (L.map aK)))]) ?_ (Ye _ (by omega)) ?_)
  ·show (match ai d b with
    |.rows s rs=>bif AJ s 1&&BY (m+(l.length-m)) rs.length then aL.ok .aP [] [(b,.rows 1 (over m (CD (l.length-m) (aK 0)) rs))]else .stop
    | _=>.stop)=_
   rw[o];simp only[EK,Ax,AH (show m+(l.length-m)<=(L.map aK).length by simp;omega),cond_true]
  have P:=Zc (J:=d) (.rows 1 (over m (CD (l.length-m) (aK 0)) (L.map aK))) (show b<d.length by omega);refine Z (v:=.sl b 0 m false) (rd:=[b]) ?_ ?_
  ·show (match ai (d.set b _) b with
    |.rows s _=>bif AJ s 1&&BY m l.length then aL.ok (.sl b 0 m false) [b] []else .stop
    | _=>.stop)=_
   rw[P];simp only[EK,AH (show m<=l.length by omega),C2,cond_true]
  rw[hmw]at z;refine z _ (CD (l.length-m) 0++L.drop l.length) (by simpa using w) (λy T=>?_) ?_
  ·grind [Qb,ZcP]
  ·rw[P]
   congr 1
   unfold over;rw[List.length_replicate,show m+(l.length-m)=l.length by omega,<-List.map_take,p,<-Lx];simp
abbrev UF(x:St)(g0 g1:Nat):List I:=[O x.turn,O x.mover,aS x.phase,.bool x.bq,aS x.result,.sl 3 0 x.an.length false,O x.next,O x.s0.aY,O x.s0.aW,O x.s0.most,.sl 4 0 x.s0.az.length false,.sl 5 0 x.s0.hand.length false,.sl g0 0 x.s0.ao.length false,.sl 7 0 x.s0.af.length false,.sl 8 0 x.s0.told.length false,O x.s1.aY,O x.s1.aW,O x.s1.most,.sl 9 0 x.s1.az.length false,.sl 10 0 x.s1.hand.length false,.sl g1 0 x.s1.ao.length false,.sl 12 0 x.s1.af.length false,.sl 13 0 x.s1.told.length false]
def la(e:Ev):List I:=[aS e.kind,O e.side,O e.card,O e.id,O e.other,O e.n,.aq]
def Yp(s:St)(id:Int):St×List Ev:=
 match gk s.s0.af id with
 |some k=>let u:=(s.s0.af[k]?).getD default
  ({ s with an:=cj id s.an,s0:={ s.s0 with af:=s.s0.af.eraseIdx k,ao:=s.s0.ao++[u.card] } },[⟨13,0,u.card,id,0,0,[]⟩])
 |none=>match gk s.s1.af id with
  |some k=>let u:=(s.s1.af[k]?).getD default
   ({ s with an:=cj id s.an,s1:={ s.s1 with af:=s.s1.af.eraseIdx k,ao:=s.s1.ao++[u.card] } },[⟨13,1,u.card,id,0,0,[]⟩])
  |none=>(s,[])
def Qq:List Int->St->St×List Ev
 |[],s=>(s,[])
 |id::l,s=>((Qq l (Yp s id).1).1,(Yp s id).2++(Qq l (Yp s id).1).2)
def dk(τ τ':List U)(ex:List Nat):Prop:=τ.length<=τ'.length/\∀c,c<τ.length->c∉ex->ai τ' c=ai τ c
theorem dk.app(τ l:List U):dk τ (τ++l) []:=⟨by simp,λc d _=>Zg l d⟩
theorem dk.set(τ:List U)(b:Nat)(x:U):dk τ (τ.set b x) [b]:=⟨by simp,λc d h=>Qb x d (by simpa using h)⟩
theorem dk.trans{a b c:List U}{e f:List Nat}(h:dk a b e)(k:dk b c f):dk a c (e++f):=
 ⟨CI h.1 k.1,λx o d=>by
  rw[Bd,not_or]at d;rw[k.2 x (Nat.lt_of_lt_of_le o h.1) d.2,h.2 x o d.1]⟩
theorem dk.get{a b:List U}{e:List Nat}(h:dk a b e){c:Nat}{x:U}(hx:ai a c=x)(hd:x≠.dead:=by simp)(hn:c∉e:=by simp):ai b c=x:=by
 rw[h.2 c (Yb hx hd) hn];exact hx
def Cg(b:Bk)(s x:St):List (Nat×U):=[(0,.box (cf b)),(1,.box (aH s)),(2,.box aU),(4,.rows 1 (x.s0.az.map aK)),(5,.rows 1 (x.s0.hand.map aK)),(8,.rows 1 (x.s0.told.map aK)),(9,.rows 1 (x.s1.az.map aK)),(10,.rows 1 (x.s1.hand.map aK)),(13,.rows 1 (x.s1.told.map aK))]
theorem Xek{x:St}{p:Nat×U}(h:p∈Cg b s x):p.2≠.dead/\(∀rs,p.2≠.rows 7 rs)/\p.1<14/\p.1∉[3,6,7,11,12]:=by
 simp only[Cg,Az,List.not_mem_nil,or_false]at h;rcases h with rfl|rfl|rfl|rfl|rfl|rfl|rfl|rfl|rfl<;>simp
structure wz (b:Bk) (s x:St) (g0 g1:Nat) (τ:List U):Prop where
 fx:∀p∈Cg b s x,ai τ p.1=p.2
 mv:ai τ 14=.box (.ak 0 0::UF x g0 g1)
 at_:∃r,ai τ 3=.rows 1 ((x.an++r).map aK)
 Lo:ai τ g0=.rows 1 (x.s0.ao.map aK)
 r7:∃r,ai τ 7=.rows 4 ((x.s0.af++r).map br)
 Lp:ai τ g1=.rows 1 (x.s1.ao.map aK)
 r12:∃r,ai τ 12=.rows 4 ((x.s1.af++r).map br)
 n0:g0=6\/15<=g0
 n1:g1=11\/15<=g1
 ne:g0≠g1
def GR{α:Type}(n:Nat)(f:α->List I)(B:Nat)(l:List α)(v:I)(J:List U):Prop:=(l=[]/\v=.aq)\/∃c,v=.sl c 0 l.length false/\B<=c/\ai J c=.rows n (l.map f)
theorem GR.cq{f:α->List I}{B:Nat}{l:List α}{τ:List U}(h:GR n f B l v J)(hk:∀c rs,ai J c=.rows n rs->ai τ c=.rows n rs):GR n f B l v τ:=by
 rcases h with h|⟨c,h1,h2,h3⟩
 ·exact .inl h
 ·exact .inr ⟨c,h1,h2,hk _ _ h3⟩
theorem Tj{b:Nat}{l:List Th}(hb:ai J b=.rows 4 ((l++rest).map br))(ct:b∈rd)(hn:n=l.length):RT J rd (.sl b 0 n ex) l:=by
 subst hn;refine aA.own hb ct (by simp) ?_ Xe3;simp[cut]
theorem dk.refl(τ:List U):dk τ τ []:=⟨AO _,λ_ _ _=>rfl⟩
theorem wz.sb{x:St}{g0 g1:Nat}{τ τ':List U}{ex:List Nat}(h:wz b s x g0 g1 τ)(A:dk τ τ' ex)(hr:∀c∈[3,4,5,g0,7,8,9,10,g1,12,13],c∉ex/\c∈rd):SB τ' rd (UF x g0 g1) x:=by
 obtain⟨r,C⟩:=h.at_;obtain⟨r7,h7⟩:=h.r7;obtain⟨r12,h12⟩:=h.r12;have f:=h.fx;simp only[Cg,F6]at f;obtain⟨-,-,-,D,E,H,L,f10,f13,-⟩:=f;simp only[F6]at hr;obtain⟨d,o,p,w,y,z,B,q10,q11,q12,q13,-⟩:=hr;have G:∀ {c n rs},ai τ c=.rows n rs->c∉ex->ai τ' c=.rows n rs:=λe q=>A.get e (by simp) q;exact SB.mk (s:=x) (T' (G C d.1) d.2 rfl) (RI.own (G D o.1) o.2 rfl) (RI.own (G E p.1) p.2 rfl) (RI.own (G h.Lo w.1) w.2 rfl) (Tj (G h7 y.1) y.2 rfl) (RI.own (G H z.1) z.2 rfl) (RI.own (G L B.1) B.2 rfl) (RI.own (G f10 q10.1) q10.2 rfl) (RI.own (G h.Lp q11.1) q11.2 rfl) (Tj (G h12 q12.1) q12.2 rfl) (RI.own (G f13 q13.1) q13.2 rfl)
theorem QdP(s:St)(id:Int):(aC s id).2.2=false\/∃side,∃k:Nat,aC s id=(side,(k:Int),true):=by
 unfold aC;split
 ·exact .inr ⟨_,_,rfl⟩
 ·split
  ·exact .inr ⟨_,_,rfl⟩
  ·exact .inl rfl
theorem Zc1{side:Int}(h:aC s id=(side,(k:Int),true)):(side=0\/side=1)/\∃u,(s.side side).af[k]?=some u/\u.id=id /\
  Yp s id=({ (s.put side { s.side side with af:=(s.side side).af.eraseIdx k,ao:=(s.side side).ao++[u.card] })with an:=cj id s.an },[⟨13,side,u.card,id,0,0,[]⟩]):=by
 unfold aC at h;cases d:gk s.s0.af id with
 |some j=>
  rw[d]at h;simp only[F0]at h;obtain⟨rfl,o,_⟩:=h;have o:j=k:=by omega
  subst o;obtain⟨u,p,w⟩:=ZO d;refine⟨.inl rfl,u,p,w,?_⟩;unfold Yp;rw[d];simp only[p,Cw];rfl
 |none=>
  rw[d]at h;cases r:gk s.s1.af id with
  |some j=>
   rw[r]at h;simp only[F0]at h;obtain⟨rfl,o,_⟩:=h;have o:j=k:=by omega
   subst o;obtain⟨u,p,w⟩:=ZO r;refine⟨.inr rfl,u,p,w,?_⟩;unfold Yp;rw[d,r];simp only[p,Cw];rfl
  |none=>rw[r]at h;simp at h
theorem Qc1(h:(aC s id).2.2=false):Yp s id=(s,[]):=by
 unfold aC at h;unfold Yp;cases d:gk s.s0.af id with
 |some j=>rw[d]at h;simp at h
 |none=>
  rw[d]at h;cases o:gk s.s1.af id with
  |some j=>rw[o]at h;simp at h
  |none=>rfl
theorem mX.u6{M:Nat}(h:mX M x):mX (M+1) x:=⟨C7 h.az,C7 h.hand,C7 h.ao,C7 h.af,C7 h.told⟩
theorem Xc1{M:Nat}(h:ba M s)(id:Int):ba (M+1) (Yp s id).1:=by
 have w:=XcF id s.an;have d:=λk=>HE s.s0.af k;have o:=λk=>HE s.s1.af k;have p:=h.an;unfold Yp;split
 ·rename_i k _;exact⟨by show (cj id s.an).length<=_;omega,⟨C7 h.s0.az,C7 h.s0.hand,by simpa using h.s0.ao,C7 (CI (d k) h.s0.af),C7 h.s0.told⟩,h.s1.u6⟩
 ·split
  ·rename_i k _;exact⟨by show (cj id s.an).length<=_;omega,h.s0.u6,⟨C7 h.s1.az,C7 h.s1.hand,by simpa using h.s1.ao,C7 (CI (o k) h.s1.af),C7 h.s1.told⟩⟩
  ·exact⟨C7 p,h.s0.u6,h.s1.u6⟩
theorem XdK{by_:Nat}{f:α->List I}{B:Nat}{l:List α}(h:GR n f B l v J)(hB:B<=J.length)(x:α){z:List I}{ps:List (Nat×Nat)}{w:I}(hb:Yq n 1 z ps [w] J=.ok (.sl J.length 0 1 true) [] [(J.length,.rows n [f x])])(hc:a_ [f x]=true)(hlen:(2*(l.length+1)+192)*by_<=2 ^ 48)
 (o:∀p d,GR n f B (l++[x]) p d->(∀c,c<B->ai d c=ai J c)->J.length<=d.length->(∀c,c<J.length->(∀rs,ai J c≠.rows n rs)->ai d c=ai J c)->K p d) :
  VV.wr (Yq n 1 z ps [w] J) J λy J=>VV.wr (Yh n by_ [v,y] J) J K:=by
 refine Qd hb (Qf J _) ?_;rcases h with ⟨rfl,rfl⟩|⟨c,rfl,h2,h3⟩
 ·refine Qd (X8 n by_ (Xc J _) rfl hc (by simpa using hlen)) (Qf _ _) ?_;exact o _ _ (.inr ⟨_,rfl,by simp<;>omega,Xc _ _⟩) (λc hc=>by rw[Zg _ (by simp<;>omega),Zg _ (by omega)]) (by simp<;>omega) (λc hc _=>by rw[Zg _ (by simp<;>omega),Zg _ hc])
 ·have C:=Yb h3;have A:=Zb [U.rows n [f x]] h3;refine Qd (Q8 n by_ (rs2:=[f x]) A (Xc J _) (by simp) rfl hc hlen) (YK _ _ (by simp<;>omega)) ?_;refine o _ _ (.inr ⟨(J++[U.rows n [f x]]).length,by simp,by simp<;>omega,?_⟩) (λk r=>by rw[Zg _ (by simp<;>omega),Qb _ (by simp<;>omega) (by omega),Zg _ (by omega)]) (by simp<;>omega) (λk r hr=>by rw[Zg _ (by simp<;>omega),Qb _ (by simp<;>omega) (by rintro rfl;exact hr _ h3),Zg _ r]);have:=Di (J:=J++[U.rows n [f x]]) c (.rows n (l.map f++[f x]));simpa using this
theorem VM{b:Nat}{l:List Th}(hb:ai J b=.rows 4 ((l++rest).map br))(hi:i<l.length)(hl:l.length<=1000000000)
 (o:∀d,dk J d [b]->ai d b=.rows 4 ((l.eraseIdx i++I'::rest).map br)->K (.sl b 0 (l.length-1) false) d):g144.u VV [.sl b 0 l.length false,O i,O ((i+1:Nat):Int)] J K:=
 c72 hb hi hl (o _ (dk.set ..) (Zc _ (Yb hb)))
theorem P4{d:Nat}{x:I}{cs row':List I}(hb:ai J d=.box row)(hc:cellsOf x=some cs)(hn:AJ cs.length n=true)(hs:bW j cs row=some row')
 (p:∀o,ai o d=.box row'->dk J o [d]->K .aP o):VV.wr (Xh n [.ak d j,x] J) J K:=
 Qd (cO hb hc hn hs) (Ye _ (Yb hb)) (p _ (Zc _ (Yb hb)) (dk.set ..))
theorem YeG{b:Nat}{x:Int}(hb:ai J b=.rows 1 (l.map aK))(hl:l.length<=1000000000)
 (o:∀d,dk J d [b]->ai d (J.length+1)=.rows 1 ((l++[x]).map aK)->K (.sl (J.length+1) 0 (l++[x]).length false) d) :
  VV.wr (Yq 1 1 [.int .i64 0] [(0,1)] [O x] J) J λy J=>VV.wr (Yh 1 8 [.sl b 0 l.length false,y] J) J K:=by
 rw[Rg _ _ _ _ _ (aK x) rfl rfl,OD _ 1 8 J b l.length false _ (aK x) hb (by simp) rfl (by omega)];have h:=Xc (J.set b .dead++[.rows 1 [aK x]]) (.rows 1 (l.map aK++[aK x]));simpa using o _ (((dk.set J b .dead).trans (dk.app _ [_])).trans (dk.app _ [_])) (by simpa using h)
theorem c27(b:Bk)(hf:aN b=true)(bn:Yg b.aj)(s:St)(hs:ba 2000000 s)(hm:aJ (bO b).1 b s true=true)(ids:List Int)(qZ:ids.length<=1000000):PC 96 [dd b,bN s,aM ids] (.bw [bN (Qq ids s).1,.aX false false 7 ((Qq ids s).2.map la)]):=by
 refine Zo hP g96.ok rfl ?_;rw[H3.e];unfold g96;dsimp only;refine ay (qK b hf bn s (hs.mono (by decide)) (n0:=3) (n:=14) rfl rfl rfl rfl (λh=>by rw[hm]at h;cases h) (λ_=>?_));refine Z rfl (Yf (Z (v:=O ids.length) (rd:=[]) (by simp[Qe]) ?_));refine Zh (ι:=Nat) (λi vs z=>∃(x:St) (g0 g1:Nat) (v:I) (ed:List Ev),vs=[O i,v]/\i<=ids.length/\wz b s x g0 g1 z/\GR 7 la 0 ed v z/\ba (2000000+i) x/\ed.length<=i/\Qq ids s=((Qq (ids.drop i) x).1,ed++(Qq (ids.drop i) x).2)) (λi=>ids.length-i) 0
  ⟨s,6,11,.aq,[],rfl,by omega,⟨by simp only[Cg,F6];exact⟨rfl,rfl,rfl,rfl,rfl,rfl,rfl,rfl,rfl,nofun⟩,rfl,⟨[],by rw[DR];rfl⟩,rfl,⟨[],by rw[DR];rfl⟩,rfl,⟨[],by rw[DR];rfl⟩,.inl rfl,.inl rfl,by decide⟩,.inl ⟨rfl,rfl⟩,hs,by simp,rfl⟩ ?_
 rintro i vs z again ⟨x,g0,g1,v,ed,rfl,hi,d,S,hle,hel,C⟩ bj;refine Z rfl (ZT (λh=>?_) (λh=>?_));rotate_left
 ·subst h;rw[As,Qq,DR]at C;rw[C];have T:=d.mv;refine ag (P4 (d.fx (2,.box aU) (by simp[Cg])) rfl rfl rfl λτ' b2 A=>Zp (Q7 b2 rfl) ?_);simp only;have hS:∀rd,(∀c∈[3,4,5,g0,7,8,9,10,g1,12,13],c∈rd)->SB τ' rd (UF x g0 g1) x:=λrd hr=>d.sb A λc w=>⟨by have:=d.n0;have:=d.n1;simp at w ⊢;omega,hr c w⟩;rcases S with ⟨rfl,rfl⟩|⟨bo,rfl,_,V⟩
  ·exact⟨_,aA.bw (.cons (SB.agg (hS _ λc w=>w)) <| .cons (aA.nl 7) .nil)⟩
  ·have km:∀l:List Ev,∀r∈l.map la,fV r=true:=by
    intro l r hr;obtain⟨e,_,rfl⟩:=By.1 hr;rfl
   exact⟨bo::[3,4,5,g0,7,8,9,10,g1,12,13],aA.bw (.cons (SB.agg (hS _ λc w=>DI _ w)) <| .cons (aA.own (A.get V (by simp) (by rintro w;simp at w;subst w;rw[d.fx (2,.box aU) (by simp[Cg])]at V;cases V)) (by simp) (by simp) (HO _ _ (by simp)) (km _)) .nil)⟩
 rw[gB h,Qq]at C;have X:=λ(t:List U)=>Zm t aK false false 1 ids .i64 i h;generalize ids[i]=id at C X;refine Zj λk11 mK=>?_;refine Z (X _) (Z (bg rfl) (Zq (row:=[O id]) (row':=[O id]) rfl rfl rfl ?_));have L:=dk.app z [.box [O id]];have Y:=Xc z (.box [O id]);have lN:=Yb d.mv;generalize z++[U.box [O id]]=τ1 at L Y ⊢;have B:∀ {c y},ai z c=y->y≠.dead->ai τ1 c=y:=λe h=>L.get e h (by simp);have o:wz b s x g0 g1 τ1:=⟨λp H=>B (d.fx p H) (Xek H).1,B d.mv (by simp),d.at_.imp λ_ e=>B e (by simp),B d.Lo (by simp),d.r7.imp λ_ e=>B e (by simp),B d.Lp (by simp),d.r12.imp λ_ e=>B e (by simp),d.n0,d.n1,d.ne⟩;have LN:=S.cq (τ:=τ1) λc D e=>B e (by simp);have lg0:=Yb d.Lo;have lg1:=Yb d.Lp;have l1:=L.1;clear d S X B L;generalize z.length=N at *;have T:=o.mv;have h71:=c71 x (hle.mono (by omega)) id;refine Xd rfl (Xd rfl (Ze (ld T rfl) (Yd _) (Ze (ld Y rfl) (Yd _) ?_)));refine Ir (rd:=[3,4,5,g0,7,8,9,10,g1,12,13]) h71 rfl g73.ok.plain (.cons (SB.agg (o.sb (dk.refl _) λc w=>⟨by simp,w⟩)) <| .cons (aA.ro rfl) .nil) rfl (Xd rfl (Xd rfl (Xd rfl (Xo (by rfl) ?_))));clear h71;have Wa:=Xc1 hle id;rcases QdP x id with mL|⟨side,k,wu⟩
 ·rw[mL];refine ag ?_;rw[mK];refine ag ?_;rw[Zd (n:=i) (by omega)];exact bj (i+1) _ _ (by omega) ⟨x,g0,g1,v,ed,rfl,by omega,o,LN,hle.mono (by omega),by omega,by rw[C,Qc1 mL];simp⟩
 obtain⟨IZ,u,E,jE,hBo⟩:=Zc1 wu;rw[wu];refine ag ?_;have WZ:=hle.an;have hng:=And.intro o.n0 o.n1;have cC:=o.ne;rcases IZ with rfl|rfl
 rotate_left;obtain⟨r,P⟩:=o.r12;have hG:=o.Lp;have E:x.s1.af[k]?=some u:=E;have Se:=hle.s1.af;have W2:=hle.s1.ao;rotate_left;obtain⟨r,P⟩:=o.r7;have hG:=o.Lo;have E:x.s0.af[k]?=some u:=E;have Se:=hle.s0.af;have W2:=hle.s0.ao
 all_goals
  have Q:=(eS E).1;refine ag (Z (Y9 _ _ 0 _ false 4 _ .i64 k Q P) ?_);refine ag (Z (ru (i:=0+k) P (row:=br u) (by rw[Al,Ba,Bi Q,E];rfl) rfl) ?_);refine ag ?_;rw[Zd (n:=k) (by omega)];refine Xe hP rfl g144.ok rfl (VM P Q (by omega) λτ2 A2 mU=>?_);refine ag (P4 (A2.get T) rfl rfl rfl λτ3 b3 A3=>?_);have A13:=A2.trans A3;refine ag (YeG (A13.get hG (by simp) (by simp;omega)) (by omega) λτ4 A4 mG=>?_);have l3:=A13.1;refine ag (P4 (A4.get b3 (by simp) (by simp;omega)) rfl rfl rfl λτ5 b5 A5=>?_);have A15:=(A13.trans A4).trans A5;obtain⟨ra,rL⟩:=o.at_;have hN5:=A15.get Y (by simp) (by simp;omega);refine ag (Xe hP rfl g145.ok rfl (c73 (A15.get rL (by simp) (by simp;omega)) hN5 (by omega) λτ6 abn l6 o6 m3=>?_));have A6:dk τ5 τ6 [3]:=⟨by omega,λc _ w=>o6 c (by simpa using w)⟩;refine ag (P4 (A6.get b5) rfl rfl rfl λτ7 b7 A7=>?_);have A67:=A6.trans A7;have A17:=A15.trans A67;have hN7:=A67.get hN5 (by simp) (by simp;omega);have Wy:=LN.cq (τ:=τ7) λc D e=>A17.get e (by simp) (by simp;grind);refine ag ?_;refine(XdK (by_:=72) Wy (Nat.zero_le _) (⟨13,_,u.card,id,0,0,[]⟩:Ev) rfl rfl (by omega) λnv τ8 g9998 _ q2 q3=>?_);rw[mK];refine ag ?_;rw[Zd (n:=i) (by omega)];have G:∀ {c y},ai τ7 c=y->y≠.dead->(∀D,y≠.rows 7 D)->ai τ8 c=y:=λe h1 h2=>by rw[q3 _ (Yb e h1) (by rw[e];exact h2)];exact e
  have R:∀ {c n D},ai τ1 c=.rows n D->n≠7->c∉_->ai τ8 c=.rows n D:=λe h1 h2=>G (A17.get e (by simp) h2) (by simp) (by simp[h1]);have F:∀p∈Cg b s x,ai τ8 p.1=p.2:=λp H=>by
   obtain⟨h1,h2,h3,h4⟩:=Xek H;exact G (A17.get (o.fx p H) h1 (by simp at h4 ⊢;omega)) h1 h2
  have b8:=G b7 (by simp) (by simp);have m8:=G (A7.get m3) (by simp) (by simp);have U8:=G ((((A3.trans A4).trans A5).trans A67).get mU (by simp) (by simp;omega)) (by simp) (by simp);have G8:=G ((A5.trans A67).get mG (by simp) (by simp;omega)) (by simp) (by simp);have hE:=E2 Q;have BM:∃V5 V6,wz b s (Yp x id).1 V5 V6 τ8:=by
   rw[hBo]
   first
    |exact⟨_,g1,F,by rw[b8,<-hE];rfl,⟨_,m8⟩,G8,⟨_,U8⟩,R o.Lp (by simp) (by simp;omega),o.r12.imp λr e=>R e (by simp) (by simp;omega),.inr (by omega),o.n1,by omega⟩
    |exact⟨g0,_,F,by rw[b8,<-hE];rfl,⟨_,m8⟩,R o.Lo (by simp) (by simp;omega),o.r7.imp λr e=>R e (by simp) (by simp;omega),G8,⟨_,U8⟩,o.n0,.inr (by omega),by omega⟩
  obtain⟨V5,V6,BM⟩:=BM;exact bj (i+1) _ _ (by omega) ⟨_,V5,V6,nv,_,rfl,by omega,BM,g9998,Wa,by simp;omega,by rw[C,congrArg Prod.snd hBo];simp⟩
theorem Ql{most:Int}:Zn n l most=true↔(l.length:Int)<=most/\∀c∈l,0<=c/\c<n:=by
 simp[Zn,C1]
structure gp (b:Bk) (x:Sd):Prop where
 aY:i5 x.aY=true
 aW:0<=x.aW/\i5 x.aW=true
 most:0<=x.most/\x.most<=10
 az:Zn b.aj.length x.az 60=true
 hand:Zn b.aj.length x.hand 10=true
 ao:Zn b.aj.length x.ao 1000000=true
 told:Zn b.aj.length x.told 1000000=true
 af:x.af.length<=7
theorem QdJ:Yx b.aj.length x=true↔gp b x:=by
 simp only[Yx,AA,fe];constructor
 ·rintro⟨h1,h2,h3,h4,h5,h6,h7,d,o,h10⟩;exact⟨h1,⟨h2,h3⟩,⟨h4,h5⟩,h6,h7,d,o,by omega⟩
 ·rintro⟨h1,⟨h2,h3⟩,⟨h4,h5⟩,h6,h7,d,o,h10⟩;exact⟨h1,h2,h3,h4,h5,h6,h7,d,o,by omega⟩
theorem UW{b:Bk}{next:Int}:∀ {l:List Th} {ids:List Int},QA b next ids l=true↔(∀u∈l,Qv b next u=true)/\(l.map Th.id).Nodup/\∀u∈l,u.id∉ids
 |[],ids=>by simp[QA]
 |u::l,ids=>by
  simp only[QA,AA,UW (l:=l),B9,B7,EX,Az,forall_eq_or_imp,Bd,not_or];have o:ids.contains u.id=false↔u.id∉ids:=by simp
  rw[o];constructor
  ·rintro⟨h1,h2,h3,h4,h5⟩;refine⟨⟨h1,h3⟩,⟨?_,h4⟩,h2,λv d=>(h5 v d).1⟩;intro p;obtain⟨v,d,e⟩:=By.1 p;exact(h5 v d).2.1 e
  ·rintro⟨⟨h1,h3⟩,⟨h6,h4⟩,h2,h5⟩;exact⟨h1,h2,h3,h4,λv d=>⟨h5 v d,λe=>h6 (By.2 ⟨v,d,e⟩),by simp⟩⟩
def OZ(b:Bk)(s:St):Prop:=(∀u∈s.s0.af++s.s1.af,Qv b s.next u=true)/\((s.s0.af++s.s1.af).map Th.id).Nodup
theorem YdP:(QA b s.next [] s.s0.af=true/\QA b s.next (s.s0.af.map Th.id) s.s1.af=true)↔OZ b s:=by
 rw[UW,UW,OZ,A8,Gf];constructor
 ·rintro⟨⟨h1,h2,_⟩,h3,h4,h5⟩;refine⟨λu d=>?_,h2,h4,λa o c p e=>?_⟩
  ·rcases Bd.1 d with d|d
   ·exact h1 u d
   ·exact h3 u d
  ·subst e;obtain⟨v,r,rfl⟩:=By.1 p;exact h5 v r o
 ·rintro⟨h1,h2,h3,h4⟩;refine⟨⟨λu d=>h1 u (DS _ d),h2,by simp⟩,λu d=>h1 u (DO _ d),h3,λu d w=>h4 _ w _ (By.2 ⟨u,d,rfl⟩) rfl⟩
theorem S6{s:St}:∀ {l prev:List Int},fg s prev l=true↔(∀a∈l,(aC s a).2.2=true/\(aC s a).1=s.mover)/\l.Nodup/\∀a∈l,a∉prev
 |[],prev=>by simp[fg]
 |a::l,prev=>by
  simp only[fg,AA,S6 (l:=l),fe,B9,EX,Az,forall_eq_or_imp,Bd,not_or];have d:prev.contains a=false↔a∉prev:=by simp
  rw[d];constructor
  ·rintro⟨h1,h2,h3,h4,h5⟩;exact⟨⟨h1,h3⟩,⟨λo=>(h5 a o).2.1 rfl,h4⟩,h2,λc d=>(h5 c d).1⟩
  ·rintro⟨⟨h1,h3⟩,⟨h6,h4⟩,h2,h5⟩;exact⟨h1,h2,h3,h4,λc d=>⟨h5 c d,λe=>h6 (e▸d),by simp⟩⟩
def SA(s:St):Prop:=(s.phase≠1->s.an=[])/\(s.phase=1->s.bq=true/\s.an.length<=7/\s.an.Nodup/\∀a∈s.an,(aC s a).2.2=true/\(aC s a).1=s.mover)
def Bl(s:St):Prop:=1<=s.turn/\s.turn<=4096/\0<=s.mover/\s.mover<=1/\0<=s.phase/\s.phase<=2/\0<=s.result/\s.result<=3/\((s.result==0)==(s.phase != 2))=true/\1<=s.next/\s.next<=1000000
structure cc (b:Bk) (s:St):Prop where
 hd:Bl s
 s0:gp b s.s0
 s1:gp b s.s1
 un:OZ b s
 at_:SA s
theorem Qs:aJ e b s true=true↔e=0/\cc b s:=by
 simp only[aJ,ZD,AA,fe,QdJ];constructor
 ·rintro⟨h1,h2,h3,h4,h5,h6,h7,o,p,h10,h11,h12,⟨k1,k2,k3,r⟩,h14⟩;refine⟨h1,⟨h2,h3,h4,h5,h6,h7,o,p,h10,h11,h12⟩,k1,k3,YdP.1 ⟨k2,r⟩,?_,?_⟩
  ·intro d;rw[aE d]at h14;exact Ck.1 (of_decide_eq_true h14)
  ·intro d;rw[aB (by simpa using d)]at h14;simp only[AA,fe]at h14;obtain⟨_,w,z,y⟩:=h14;obtain⟨r1,A,_⟩:=S6.1 y;exact⟨w,by omega,A,r1⟩
 ·rintro⟨h1,⟨h2,h3,h4,h5,h6,h7,o,p,h10,h11,h12⟩,k1,k3,B,ha1,ha2⟩;obtain⟨k2,r⟩:=YdP.2 B;refine⟨h1,h2,h3,h4,h5,h6,h7,o,p,h10,h11,h12,⟨k1,k2,k3,r⟩,?_⟩;by_cases d:s.phase≠1
  ·rw[aE d,ha1 d];rfl
  ·rw[aB d];obtain⟨w,z,y,C⟩:=ha2 (by simpa using d);simp only[AA,fe];exact⟨by simp,w,by omega,S6.2 ⟨C,y,by simp⟩⟩
theorem Jy(h:aJ e b s false=true):aJ e b s true=true:=by
 simp only[aJ,AA]at h ⊢
 grind
theorem VH(a:St)(ha:ba 1000000000 a):PC 7 [bN a,bN a] (.bool true):=by
 have:=c20 a a ha
 rwa [gA rfl]at this
def rI(s:St):Int:=if s.phase=0 then s.mover else if s.phase=1 then 1-s.mover else 0
theorem c37(s:St)(hm:s.mover=0\/s.mover=1):PC 66 [bN s] (O (rI s)):=by
 refine Xa hP g66.ok rfl rfl ?_;rw[H1.e];unfold g66;dsimp only;refine Qd rfl rfl (Z rfl (Z rfl ?_));refine Z (v:=O s.mover) (rd:=[]) (by rcases hm with h|h<;>rw[h]<;>rfl) (ae (Ya (λh=>?_) (λh=>?_)))
 ·exact congrArg O (by rw[rI,aE (by simpa using h)])
 have h0:¬s.phase=0:=by simpa using h
 refine Z (Xr ..) (Ya (λh=>?_) (λh=>?_))
 ·exact Z (v:=O (1-s.mover)) (rd:=[]) (by rcases hm with h|h<;>rw[h]<;>rfl) (congrArg O (by rw[rI,aB h0,aE (by simpa using h)]))
 ·exact congrArg O (by rw[rI,aB h0,aB (by simpa using h)])
theorem c127:PC 67 [] (.agg [.func (.func 100) [] [],.func (.func 101) [] [],.func (.func 102) [] [],.func (.func 103) [] [],.func (.func 104) [] []]):=by
 refine Xa hP g67.ok rfl rfl ?_;unfold g67;dsimp only[H0.u];exact ay rfl
theorem c55(b:Bk)(hf:aN b=true)(d:Yg b.aj)(s:St)(hs:ba 1000000000 s):PC 35 [dd b,bN s] (O (bif aJ (bO b).1 b s false then 0 else 170)):=by
 refine Xa hP g35.ok rfl rfl ?_;rw[H2.e];unfold g35;dsimp only;refine ay ?_;refine Yt (rd:=[0,1]) (c111 b hf d s hs false) rfl g64.ok.plain (.cons (aA.box (row:=cf b) rfl (by simp) (bA.ro rfl)) <| .cons (aA.box (row:=aH s) rfl (by simp) (bA.ro rfl)) <| .cons (aA.ro rfl) .nil) rfl ?_;generalize aJ (bO b).1 b s false=q;cases q with
 |true=>exact Z rfl (Yf rfl)
 |false=>exact Z rfl (Xg rfl)
structure Ac where
 op:Int
 side:Int
 place:Int
 target:Int
 ids:List Int
 cN:List (Int×Int)
def jr(p:Int×Int):List I:=[O p.1,O p.2]
@[reducible] def AX(l:List (Int×Int)):I:=.aX false false 2 (l.map jr)
@[reducible] def iK(a:Ac):List I:=[aS a.op,O a.side,O a.place,O a.target,aM a.ids,AX a.cN]
def pZ(s:St)(side id:Int):Bool:=(aC s id).2.2&&(decide ((aC s id).1=side) && !(((if (aC s id).1=0 then s.s0.af else s.s1.af)[(aC s id).2.1.toNat]?).getD default).e_)
def j_(s:St)(side:Int):List Int->List Int->Bool
 |_,[]=>true
 |prev,a::l=>pZ s side a&&(!prev.contains a&&j_ s side (prev++[a]) l)
def ke(s:St)(side:Int):List (Int×Int)->List (Int×Int)->Bool
 |_,[]=>true
 |prev,p::l=>((s.an.any λx=>decide (x=p.1))&&((aC s p.2).2.2&&decide ((aC s p.2).1=side)))&&(!(prev.any λq=>decide (q.1=p.1)||decide (q.2=p.2))&&ke s side (prev++[p]) l)
def nz(a:Ac):Bool:=!(decide (a.op≠0)&&(decide (a.place≠0)||decide (a.target≠-1)))&&((decide (a.op=1)||decide ((a.ids.length:Int)=0))&&(decide (a.op=2)||decide ((a.cN.length:Int)=0)))
theorem Yeq(a:Ac){K:I->Prop}(o:K (.bool (decide (a.op≠0)&&(decide (a.place≠0)||decide (a.target≠-1))))) :
  VV.gr (.bool (decide (a.op≠0))) true (λk=>VV.rd (mi [.al (iK a) 0] J) k) λp=>
  VV.gr (.bool (decide (a.op≠0))) true (λk=>VV.rd (Yi [p] J) k) λr=>
  VV.gr (.bool (decide (a.op≠0))) true (λk=>VV.rd (Qc 2 [r] J) k) λw=>
  VV.gr (.bool (decide (a.op≠0))) true (λk=>VV.rd (Xf false 1 [w] J) k) λy=>
  VV.gr (.bool (decide (a.op≠0))) true (λk=>VV.rd (Qn .neq false [y,(.int .i64 0)] J) k) λz=>
  VV.gr (.bool (decide (a.op≠0))) true (λk=>VV.rd (mi [z] J) k) λd=>
  VV.gr d false (λk=>VV.rd (mi [.al (iK a) 0] J) k) λA=>
  VV.gr d false (λk=>VV.rd (Yi [A] J) k) λB=>
  VV.gr d false (λk=>VV.rd (Qc 3 [B] J) k) λC=>
  VV.gr d false (λk=>VV.rd (Xf false 1 [C] J) k) λD=>
  VV.gr d false (λk=>VV.rd (Qn .neq false [D,(.int .i64 (-1))] J) k) λE=>
  VV.gr (.bool (decide (a.op≠0))) true (λk=>VV.rd (Xk [d,(.bool true),E] J) k) λG=>
  VV.rd (Xk [(.bool (decide (a.op≠0))),G,(.bool false)] J) K:=by
 generalize decide (a.op≠0)=H at o ⊢;cases H with
 |false=>
  exact ay o
 |true=>
  refine ax ?_;generalize decide (a.place≠0)=L at o ⊢;cases L with
  |true=>
   exact ay o
  |false=>
   exact ax o
theorem Xeq(a:Ac)(c:Bool){K:I->Prop}(o:K (.bool (c&&(decide (a.op=2)||decide ((a.cN.length:Int)=0))))) :
  VV.gr (.bool c) true (λk=>VV.rd (mi [.al (iK a) 0] J) k) λp=>
  VV.gr (.bool c) true (λk=>VV.rd (Yi [p] J) k) λr=>
  VV.gr (.bool c) true (λk=>VV.rd (Qc 0 [r] J) k) λw=>
  VV.gr (.bool c) true (λk=>VV.rd (Xf false 1 [w] J) k) λy=>
  VV.gr (.bool c) true (λk=>VV.rd (Qn .eql false [y,(.int .i8 2)] J) k) λz=>
  VV.gr (.bool c) true (λk=>VV.rd (mi [z] J) k) λd=>
  VV.gr d false (λk=>VV.rd (mi [.al (iK a) 0] J) k) λA=>
  VV.gr d false (λk=>VV.rd (Yi [A] J) k) λB=>
  VV.gr d false (λk=>VV.rd (Qc 5 [B] J) k) λC=>
  VV.gr d false (λk=>VV.rd (Xf false 1 [C] J) k) λD=>
  VV.gr d false (λk=>VV.rd (Yn [D] J) k) λE=>
  VV.gr d false (λk=>VV.rd (Qn .eql false [E,(.int .i64 0)] J) k) λG=>
  VV.gr (.bool c) true (λk=>VV.rd (Xk [d,(.bool true),G] J) k) λH=>
  VV.rd (Xk [(.bool c),H,(.bool false)] J) K:=by
 cases c with
 |false=>
  exact ay o
 |true=>
  refine ax ?_;generalize decide (a.op=2)=L at o ⊢;cases L with
  |true=>
   exact ay o
  |false=>
   refine Xb (Z rfl (Xb (Z rfl (Xb (Z rfl (Xb (Z (bg rfl) (Xb (Z (v:=O a.cN.length) (rd:=[]) (by simp[Qe]) ?_)))))))));exact ae o
theorem Kz(a:Ac):PC 65 [.al (iK a) 0] (.bool (nz a)):=by
 refine Xa hP g65.ok rfl rfl ?_;rw[H1.e];unfold g65;dsimp only;refine ax ?_;have o:(decide (a.op≠0)&&(decide (a.place≠0)||decide (a.target≠-1)))=true->(I.bool false=.bool (nz a)):=λh=>by
  rw[nz,h];rfl
 have d:(decide (a.op≠0)&&(decide (a.place≠0)||decide (a.target≠-1)))=false->(I.bool ((decide (a.op=1)||decide ((a.ids.length:Int)=0))&&(decide (a.op=2)||decide ((a.cN.length:Int)=0)))=.bool (nz a)):=λh=>by
  rw[nz,h];rfl
 refine Yeq a (Ya (λh=>o h) (λh=>?_));have d:=d h;refine ax ?_;refine Ia (λ_=>rfl) (λ_=>rfl) (λ_=>rfl) (λ_=>bg rfl) (v5:=O a.ids.length) (q5:=[]) (λ_=>by simp[Qe]) (λ_=>Xr ..) ?_;exact Xeq a _ d
def pq(b:Bk)(s:St)(x:Sd)(place target:Int):Bool:=
 (decide (0<=place)&&decide (place<(x.hand.length:Int)))&&(!(decide ((wK b x place).cost>x.aW)||((wK b x place).unit&&decide ((x.af.length:Int) >= 7)))&&(if (od (wK b x place)).any rS=true then zT s target else decide (target = -1)))
theorem QeD(b:Bk)(s:St)(x:Sd)(place target:Int):nK b s x place target=(decide (s.phase=0)&&pq b s x place target):=by
 rw[nK,pq,FL]
theorem YbU(s:St)(id:Int):(∃k:Nat,∃u,aC s id=(0,(k:Int),true)/\s.s0.af[k]?=some u)\/(∃k:Nat,∃u,aC s id=(1,(k:Int),true)/\s.s1.af[k]?=some u)\/aC s id=(0,0,false):=by
 unfold aC;cases o:gk s.s0.af id with
 |some k=>obtain⟨u,d,_⟩:=ZO o;exact .inl ⟨k,u,rfl,d⟩
 |none=>
  cases p:gk s.s1.af id with
  |some k=>obtain⟨u,d,_⟩:=ZO p;exact .inr (.inl ⟨k,u,rfl,d⟩)
  |none=>exact .inr (.inr rfl)
def zU(s:St)(a:Ac):Bool:=(!(s.bq||decide ((a.ids.length:Int)=0)) && !decide ((a.ids.length:Int)>7))&&j_ s a.side [] a.ids
end Go.Ah.Tz
end
section
namespace Go.Ah
open Go.Sort (Holds putRow grow putCells)
def jN(P:Program)(f:FuncId):Prop:=∀(aD off cap:Nat) (b:List Int) (w:World),Holds (Eo .i64) w aD off b.toArray->aD<w.heap.size->b.length<4611686018427387904 ->
 Calls P f #[.slice (some ⟨aD,off,none⟩) b.length cap] w λe d=>e=.returned (.tuple #[])/\∃n os,d=grow (putRow (Eo .i64) (GM w n) aD off (b.mergeSort λx y=>decide (x<=y)).toArray) os
def tw(l:List Int):List Int:=l.mergeSort λx y=>decide (x<=y)
theorem UB(l:List Int):(tw l).length=l.length:=by simp[tw]
theorem Qee(l:List Int):(tw l).Perm l:=List.mergeSort_perm l _
theorem Xe0(l:List Int):(tw l).Pairwise (·<=·):=by
 have:=List.pairwise_mergeSort (le:=λx y:Int=>decide (x<=y)) (λa b c h k=>by simp at h k ⊢;omega) (λa b=>by simp;omega) l;exact this.imp (λh=>by simpa using h)
section
variable {P:Program} {GL:aw}
variable{g o:Nat}
variable{w:World}
theorem Zd7{cur:Array Value}{e:TypeId}{b:List Int}(hb:w.heap[g]?=some (.cells cur e (0,0)))(ht:∀j,(h:j<b.length)->cur[o+j]?=some (.int .i64 b[j])):Holds (Eo .i64) w g o b.toArray:=by
 intro j d;simp_all [World.frozen?,World.cell?]
theorem Yb0{n:Nat}{os:Array Obj}{cur:Array Value}{e:TypeId}{fr:Nat×Nat}(d:Array Int)(hb:w.heap[g]?=some (.cells cur e fr)) :
  (Ms (Gh (Eo .i64) (GM w n) g o d) os).heap[g]?=some (.cells (putCells (Eo .i64) o d cur) e fr):=by
 grind [Gh,Lt,GM,Sort.onCells,Hs]
theorem Zbb{n:Nat}{os:Array Obj}(d:Array Int):w.grownBy (Ms (Gh (Eo .i64) (GM w n) g o d) os) (some g):=by
 refine⟨rfl,rfl,rfl,by simp,λk b f=>?_⟩
 grind [Gh,Lt,GM,Hs]
theorem QcZ{f:FuncId}(hs:jN P f){h0:Hp}{b:Nat}{zs:List Int}{ex:Bool}(hb:h0 b=some (.rows 1 (zs.map λz=>[.int .i64 z])))(cC:zs≠[])(hlen:zs.length<4611686018427387904) :
  im P GL f [.sl b 0 zs.length ex] h0 (.bw []) [] [(b,.rows 1 ((tw zs).map λz=>[.int .i64 z]))]:=by
 intro w0 L g h w K r B _ dQ;have C:h b=some (.rows 1 (zs.map λz=>[.int .i64 z])):=by simp_all
 have rh:0<zs.length:=Ho.2 cC
 match K,B with
 |[v],B=>
 have hd:=B.1;generalize D:zs.length=k at hd;cases hd with
 |n9 _ _ _ d a s y=>omega
 |sle _ _ _ _ d a s y=>omega
 |sl _ _ _ _ _ d cap s y h1 h2 h3=>
 subst D;obtain⟨N,ct,_⟩:=r.own b _ d C rfl s y;obtain⟨Q,arr,T,E,R,hle,_,S⟩:=r.ff C s y;simp only[Be,Mn]at hle;have V:∀j,(h:j<zs.length)->arr[d.base+j]?=some (.int .i64 zs[j]):=by
  intro j F;obtain⟨u,hu⟩:∃u,arr[d.base+j]?=some u:=⟨arr[d.base+j]'(by omega),by simp⟩;have:=S j [.int .i64 zs[j]] 0 (.int .i64 zs[j]) u (by simp[F]) rfl (by simpa using hu);rw[hu];cases this;rfl
 have X:d.aD<w.heap.size:=(Array.getElem?_eq_some_iff.1 E).1;have Y:d.base+0*d.sz=d.base:=by simp
 rw[Y];refine(hs d.aD d.base cap zs w (Zd7 E V) X hlen).mono ?_;rintro e w' ⟨rfl,n,os,rfl⟩;refine⟨_,rfl,g,Gm.Le.refl _,?_,.bw _ [] #[] rfl (by simp)⟩;have dg:(tw zs).length=zs.length:=UB zs;have r1:=r.write (b:=b) (blk':=.rows 1 ((tw zs).map λz=>[.int .i64 z])) (o':=.cells (putCells (Eo .i64) d.base (tw zs).toArray arr) T (0,0)) (w':={ w with heap:=w.heap.setIfInBounds d.aD (.cells (putCells (Eo .i64) d.base (tw zs).toArray arr) T (0,0)) }) C rfl s y rfl rfl rfl rfl rfl ⟨Q,_,T,rfl,by simp[putCells,R],by simp;omega,by simp,?_⟩
 ·have hgr:=Zbb (w:=w) (o:=d.base) (g:=d.aD) (n:=n) (os:=os) (tw zs).toArray;have hh:=Yb0 (w:=w) (o:=d.base) (g:=d.aD) (n:=n) (os:=os) (tw zs).toArray E;refine r1.after (M:=λ_=>none) (M':=g.M) ?_ (iJ.refl _) (λc o p=>?_) (λc o p=>.inl p)
  ·refine⟨rfl,rfl,rfl,?_,λk D _=>?_⟩
   ·simp
   ·have G:k<w.heap.size:=by simpa using D
    show _=(w.heap.setIfInBounds _ _)[k]?;by_cases e:k=d.aD
    ·subst e;rw[show (w.heap.setIfInBounds d.aD _)[d.aD]?=_ from Array.getElem?_setIfInBounds_self_of_lt G];exact hh
    ·rw[Array.getElem?_setIfInBounds_ne (λq=>e q.symm)];exact hgr.block k G (λq=>e (GC q))
  ·have hc:c<w.heap.size:=r.fT p;exact(hgr.block c hc (λq=>by cases q;rw[N]at p;cases p)).trans (r.aZ c o p)
 ·intro i row j x v H F A;rw[Ba]at H;obtain⟨z,hz,rfl⟩:=Option.map_eq_some_iff.1 H;have hj0:j=0:=by
   grind
  subst hj0;cases F;have hi':i<(tw zs).length:=(eS hz).1;simp only[putCells,Mn,Nat.add_zero,Array.getElem?_mapIdx]at A;have hai:d.base+i<arr.size:=by omega
  rw[Array.getElem?_eq_getElem hai,E8,aE ⟨by omega,by simpa using hi'⟩]at A;have:(tw zs).toArray[d.base+i-d.base]! = z:=by
   simp_all
  rw[this]at A;cases A;exact .int _ _ _
end
theorem Ib(n:Nat)(J:List U)(x:I)(z cs:List I)(hx:fill z [(0,n)] [x]=some cs)(hc:chunk n 1 cs=some [cs]):Yq n 1 z [(0,n)] [x] J=.ok (.sl J.length 0 1 true) [] [(J.length,.rows n [cs])]:=by simp only[Yq,hx,hc]
theorem aA.more{h0:Hp}{rd f:List Nat}{x y:I}(h:aA h0 rd x y)(hs:∀b∈rd,b∈f):aA h0 f x y:=
 λi j L g o w p r s z v d=>h i j L g o w p r s (λb hb=>z b (hs b hb)) v d
end Go.Ah
end
section
namespace Go.Ah.Tz
open Go.Proofs.Tryz (prog)
theorem QeL{J:List U}{b:Nat}{l:List Int}{ex:Bool}(h:jN prog 118)(hb:ai J b=.rows 1 (l.map aK))(cC:l≠[])(hlen:l.length<=1000000000){K:KT}(d:K (.bw []) (J.set b (.rows 1 ((tw l).map aK)))) :
  VV.call (.call 118) [.sl b 0 l.length ex] J K:=
 Y5 rfl g118.ok.plain (QcZ h (Zw hb (by simp)) cC (by omega)) (Ye _ (Yb hb)) d
end Go.Ah.Tz
end
section
namespace Go.Ah
def j8(P:Program)(f:FuncId):Prop:=∀(p:Option Addr) (cap:Nat) (w:World),Calls P f #[.slice p 0 cap] w λe b=>e=.returned (.tuple #[])/\b=w
section
variable {P:Program} {GL:aw}
theorem Xcs{f:FuncId}(hs:j8 P f){h0:Hp}{b:Nat}{ex:Bool}:im P GL f [.sl b 0 0 ex] h0 (.bw []) [] []:=by
 intro x L g h w i r d _ _
 match i,d with
 |[v],d=>
 have hd:=d.1;have key:∃p cap,v=.slice p 0 cap:=by
  cases hd with
  |n9 _ _ _ j a o s=>exact⟨_,_,rfl⟩
  |sle=>exact⟨_,_,rfl⟩
  |sl _ _ _ _ _ j cap o s h1 h2 h3=>exact⟨_,_,rfl⟩
 obtain⟨p,cap,rfl⟩:=key;refine(hs p cap w).mono ?_;rintro e y ⟨rfl,rfl⟩;exact⟨_,rfl,g,Gm.Le.refl _,r,.bw _ [] #[] rfl (by simp)⟩
end
end Go.Ah
namespace Go.Ah.Tz
open Go.Proofs.Tryz (prog)
attribute [local irreducible] aI.rd aI.pu aI.wr aI.dr aI.gr aI.gw aI.gl aI.gd aI.opt c8 W
set_option maxHeartbeats 8000000
theorem Xcr{n:Nat}(h:n<=1000000000):AF.wrap (((n+1:Nat):Int)-1)=(n:Int):=by
 rw[Bb _ (by omega)];omega
def YeM(l:List Int):Prop:=∀i (h:i+1<l.length),l[i]≠l[i+1]
theorem Qd8{l:List Int}(hs:l.Pairwise (·<=·))(ha:YeM l):l.Nodup:=by
 rw[FX,EV];rw[EV]at hs;intro i j b d hij e;have h1:l[i]<=l[i+1]:=hs i (i+1) b (by omega) (by omega);have h2:l[i+1]<=l[j]:=by
  by_cases h:i+1=j
  ·subst h;exact Int.le_refl _
  ·exact hs (i+1) j (by omega) d (by omega)
 have:=ha i (by omega);omega
theorem c137{J:List U}{b:Nat}{l:List Int}(hb:ai J b=.rows 1 (l.map aK))(hs:l.Pairwise (·<=·))(hl:l.length<=1000000000){K:KT}(r:∀(m:Nat) d,decide ((m:Int)<l.length) = !decide l.Nodup->K (.sl b 0 m false) d) :
  g119.u VV [.sl b 0 l.length false] J K:=by
 have y:l.Nodup->∀d,K (.sl b 0 l.length false) d:=λh d=>r _ d (by rw[i7 (by omega),gA h];rfl);rw[H1.e];unfold g119;dsimp only;refine Z rfl (Z (Xy ..) (Ya (λh=>?_) (λh=>?_)))
 ·refine y ?_ _;have h:l.length<2:=by simp at h;omega
  match l,h with
  |[],_=>simp
  |[x],_=>simp
  |_::_::_,h=>simp at h;omega
 have R:2<=l.length:=by simp at h;omega
 clear h;refine Zh (ι:=Nat) (λi f d=>f=[O (i+1:Nat)]/\d=J/\i+1<=l.length/\∀j (h:j<i) (h2:j+1<l.length),l[j]≠l[j+1]) (λi=>l.length-i) 0 ⟨rfl,rfl,by omega,λj h=>by omega⟩ ?_;rintro i f d again ⟨rfl,rfl,S,z⟩ o;refine Z rfl (Z (Xy ..) (Ya (λh=>?_) (λh=>?_)));rotate_left
 ·have h:i+1=l.length:=by simp at h;omega
  exact y (Qd8 hs λj C=>z j (by omega) C) _
 have h:i+1<l.length:=by simp at h;omega
 have A:∀(d:List U) (L:List Int) (n:Nat),ai d b=.rows 1 (L.map aK)->n<l.length->Zi 1 [.sl b 0 l.length false,O n] d=.ok (.ptr b n 0) [b] []:=λd L n hb p=>by
  have:=Y9 d b 0 l.length false 1 (L.map aK) .i64 n p hb;rw[Al]at this;exact this
 have gt:∀ {L:List Int} {n:Nat} (h:n<L.length),(L.map aK)[n]?=some (aK L[n]):=λh=>by simp[h]
 refine Z (A _ l _ hb h) (Z (v:=O l[i+1]) (ru hb (gt h) rfl) (Z (Bv ..) ?_));rw[Xcr (by omega)];refine Z (A _ l _ hb (by omega)) (Z (v:=O l[i]) (ru hb (gt (by omega)) rfl) (Z (Xr ..) (Ya (λhq=>?_) (λhq=>?_))));rotate_left
 ·have hq:¬l[i+1]=l[i]:=by simpa using hq
  refine Z (Qi ..) ?_;rw[Zd (n:=i+1) (by omega)];refine o (i+1) _ _ (by omega) ⟨rfl,rfl,by omega,λj h1 h2=>?_⟩;by_cases e:j=i
  ·subst e;exact λe=>hq e.symm
  ·exact z j (by omega) h2
 have hq:l[i+1]=l[i]:=by simpa using hq
 have H:¬l.Nodup:=λp=>by
  have h1:=EV.1 (FX.1 p) i (i+1) (by omega) h (by omega);exact h1 hq.symm
 replace r:∀(m:Nat) d,m<l.length->K (.sl b 0 m false) d:=λm d N=>r m d (by rw[gA (by omega),i7 H];rfl)
 clear y z o hq;obtain⟨v,rd,B,⟨_,rfl,rfl⟩|⟨h0,_⟩⟩:=JM (n:=l.length) (i:=i+1) (ex:=false) hb (by omega);rotate_left
 ·omega
 refine Z B ?_;have ix2:∀(d:List U) (L:List Int) (n:Nat),ai d b=.rows 1 (L.map aK)->n<l.length-(i+1)->Zi 1 [.sl b (i+1) (l.length-(i+1)) false,O n] d=.ok (.ptr b (i+1+n) 0) [b] []:=λd L n hb p=>
  Y9 d b (i+1) (l.length-(i+1)) false 1 (L.map aK) .i64 n p hb
 refine Zh (ι:=Nat) (λj f d=>∃(m:Nat) (L:List Int),f=[O (j+1:Nat),O m]/\ai d b=.rows 1 (L.map aK)/\L.length=l.length/\m<=i+1+j/\i+1+(j+1)<=l.length) (λj=>l.length-j) 0 ⟨i+1,l,rfl,hb,rfl,by omega,by omega⟩ ?_;clear hb;rintro j f d again ⟨m,L,rfl,hb,D,N,C⟩ o;have w:=Yb hb;refine Z rfl (Z (Xy ..) (Ya (λh=>?_) (λh=>?_)))
 ·have h:j+1<l.length-(i+1):=by simp at h;omega
  refine Zj λk17 E=>?_;have F:i+1+(j+1)<L.length:=by omega
  have P:i+1+j<L.length:=by omega
  refine Z (ix2 _ L _ hb h) (Z (v:=O L[i+1+(j+1)]) (ru hb (gt F) rfl) (Z (Bv ..) ?_));rw[Xcr (by omega)];refine Z (ix2 _ L _ hb (by omega)) (Z (v:=O L[i+1+j]) (ru hb (gt P) rfl) (Z (QM ..) (Ya (λ_=>?_) (λ_=>?_))))
  ·refine Z (ix2 _ L _ hb h) (Z (v:=O L[i+1+(j+1)]) (ru hb (gt F) rfl) (Z (A _ L _ hb (by omega)) ?_));refine Qd (ZcL hb (by omega) _) (Ye _ w) (Z (Qi ..) ?_);rw[Zd (n:=m) (by omega),E];refine Z (Qi ..) ?_;rw[Zd (n:=j+1) (by omega)];exact o (j+1) _ _ (by omega) ⟨m+1,_,rfl,Zc _ w,by simpa using D,by omega,by omega⟩
  ·rw[E];refine Z (Qi ..) ?_;rw[Zd (n:=j+1) (by omega)];exact o (j+1) _ _ (by omega) ⟨m,L,rfl,hb,D,by omega,by omega⟩
 have hmn:m<l.length:=by omega
 obtain⟨v,rd,B,⟨_,rfl,rfl⟩|⟨h0,_⟩⟩:=JM (n:=l.length) (i:=m) (ex:=false) hb (by omega);rotate_left
 ·omega
 refine Z B ?_;have Q:Z4 1 [.int .i64 0] [.sl b m (l.length-m) false] d=.ok .aP [] [(b,.rows 1 (over m (CD (l.length-m) [.int .i64 0]) (L.map aK)))]:=by
  show (match ai d b with
   |.rows s rs=>bif AJ s 1&&BY (m+(l.length-m)) rs.length then aL.ok .aP [] [(b,.rows 1 (over m (CD (l.length-m) [.int .i64 0]) rs))]else .stop
   | _=>.stop)=_
  rw[hb];have:BY (m+(l.length-m)) (L.map aK).length=true:=AH (by simp;omega);simp only[this,EK,C2,cond_true]
 refine Qd Q (Ye _ w) (Z (v:=.sl b 0 m false) (rd:=[b]) ?_ (r m _ hmn));show (match ai (d.set b _) b with
  |.rows s _=>bif AJ s 1&&BY m l.length then aL.ok (.sl b 0 m false) [b] []else .stop
  | _=>.stop)=_
 rw[Zc _ w];have:BY m l.length=true:=AH (by omega);simp only[this,EK,C2,cond_true]
theorem c95(h89:jN prog 118)(hn:j8 prog 118)(l:List Int)(hl:l.length<=1000000000):PC 72 [aM l] (.bool (!decide l.Nodup)):=by
 refine Xa hP g72.ok rfl rfl ?_;rw[H1.e];unfold g72;dsimp only;refine J9 (c96 l hl) rfl g30.ok.plain rfl ?_;simp only[Zx,B7,E4,Du,I.cy,ZG,Cb,Al,Cm];have key:∀J,ai J 0=.rows 1 ((tw l).map aK)->VV.call (.call 119) [.sl 0 0 l.length false] J λf J=>VV.rd (Yn [f] J) λi=>VV.rd (Yn [aM l] J) λj=>VV.rd (Qn .lss false [i,j] J) λo=>o=.bool (!decide l.Nodup):=λJ hb=>by
  have b:=UB l;refine Xe hP rfl g119.ok rfl ?_;rw[<-b];refine c137 hb (Xe0 l) (by omega) (λm p d=>?_);refine Z rfl (Z (Qe ..) ?_);rw[Be];refine Z (Xy ..) ?_;rw[b,decide_eq_decide.2 (Qee l).nodup_iff]at d;exact congrArg I.bool d
 by_cases h0:l=[]
 ·subst h0;exact Y5 rfl g118.ok.plain (Xcs hn) (Yd _) (key _ (by rw[show tw []=[] from List.eq_nil_of_length_eq_zero (UB [])];rfl))
 ·exact QeL h89 rfl h0 hl (key _ rfl)
end Go.Ah.Tz
end
section
namespace Go.Ah.Tz
open Go.Proofs.Tryz (prog)
def QG(s:St)(side:Int):Sd:=if side=0 then s.s0 else s.s1
def ca(ids:List Int)(u:Th):Th:=if ids.contains u.id then { u with e_:=true }else u
def bI(ids:List Int)(s:St):St:={ s with s0:={ s.s0 with af:=s.s0.af.map (ca ids) },s1:={ s.s1 with af:=s.s1.af.map (ca ids) } }
theorem XcX(ids:List Int)(u:Th):(ca ids u).id=u.id:=by unfold ca;split<;>rfl
theorem ZdO(s:St):bI [] s=s:=by
 simp[ca,bI,List.map_id'']
theorem XdZ(ids:List Int)(l:List Th)(id:Int):gk (l.map (ca ids)) id=gk l id:=by
 unfold gk;rw[List.findIdx?_map]
 congr 1
 funext u
 simp[XcX]
theorem Ug(ids:List Int)(s:St)(id:Int):aC (bI ids s) id=aC s id:=by
 simp only[aC,bI,XdZ]
variable{id c a n h sd:Int}
theorem Tb{s:St}(h:(aC s id).2.2=true):∃(k:Nat) (u:Th),(aC s id).2.1=k/\(QG s (aC s id).1).af[k]?=some u/\u.id=id/\((aC s id).1=0\/(aC s id).1=1):=by
 unfold aC at h ⊢;cases f:gk s.s0.af id with
 |some k=>obtain⟨u,b,d⟩:=ZO f;exact⟨k,u,rfl,b,d,.inl rfl⟩
 |none=>
  cases i:gk s.s1.af id with
  |some k=>obtain⟨u,b,d⟩:=ZO i;exact⟨k,u,rfl,b,d,.inr rfl⟩
  |none=>rw[f,i]at h;cases h
theorem OS(s:St)(side id:Int):pZ s side id=((aC s id).2.2&&(decide ((aC s id).1=side) && !(((QG s (aC s id).1).af[(aC s id).2.1.toNat]?).getD default).e_)):=by
 rw[pZ,QG];split<;>rfl
theorem JT(ids:List Int)(s:St)(k:Int):(QG (bI ids s) k).af=(QG s k).af.map (ca ids):=by
 unfold QG bI;split<;>rfl
variable{ids:List Int}
theorem Zd9{s:St}{side:Int}(h:id∉ids):pZ (bI ids s) side id=pZ s side id:=by
 rw[OS,OS,Ug];cases hu:(aC s id).2.2 with
 |false=>rfl
 |true=>
  obtain⟨k,u,h1,h2,h3,_⟩:=Tb hu;simp_all [ca,JT]
variable{l:List Th}
variable{k:Nat}
variable{u:Th}
theorem QcX(hk:l[k]?=some u)(hn:(l.map Th.id).Nodup):(l.map (ca ids)).set k { ca ids u with e_:=true }=l.map (ca (ids++[u.id])):=by
 apply List.ext_getElem?;intro j;have b:k<l.length:=(eS hk).1;by_cases e:j=k
 ·subst e;rw[List.getElem?_set_self (by simpa using b),Ba,hk];simp only[E8,E7,ca]
  grind
 ·rw[List.getElem?_set_ne (λh=>e h.symm),Ba,Ba];cases d:l[j]? with
  |none=>rfl
  |some w=>
   have i:j<l.length:=(eS d).1;have f:w.id≠u.id:=λh=>by
    have h1:=EV.1 (FX.1 hn)
    grind
   simp[ca,f]
theorem XbT(h:id∉l.map Th.id):l.map (ca (ids++[id]))=l.map (ca ids):=by
 simp_all [ca]
def XT(s:St)(ids:List Int):St:={ bI ids s with an:=ids,bq:=true,phase:=1 }
def wP(s:St)(ids:List Int):List Ev:=ids.map λid=>⟨11,s.mover,0,id,0,0,[]⟩
def Kf(s:St)(ids:List Int):Bool:=((!(decide (s.phase≠0)||s.bq) && !decide ((ids.length:Int)=0))&&decide ids.Nodup)&&ids.all λid=>pZ s s.mover id
def vm(b:Bk)(s:St)(ids:List Int):St×List Ev×Int:=if aJ (bO b).1 b s false=true then (if Kf s ids=true then (XT s ids,wP s ids,0)else (eG,[],2))else (eG,[],170)
@[reducible] def Rx(r:St×List Ev×Int):I:=.bw [bN r.1,.aX false false 7 (r.2.1.map la),O r.2.2]
structure CP (τ:List U) (n:Nat) (t:St):Prop where
 box:ai τ (n+11)=.box (jL t n)
 key:∀i x,(hJ t)[i]?=some x->ai τ (n+i)=x
variable{τ J:List U}
theorem CP.sb{n:Nat}{t:St}(h:CP τ n t):∃rd,SB τ rd (jL t n) t:=
 ⟨(Ao 11).map (n + ·),SB.copy h.key λi b=>By.2 ⟨i,DW.2 b,rfl⟩⟩
theorem CP.af{n:Nat}{t:St}(h:CP τ n t){side:Int}(hs:side=0\/side=1):ai τ (n+mq side)=.rows 4 ((QG t side).af.map br)/\(∀J,Qo 2 8 [.ak (n+11) (0+7),O side] J=.ok (.ak (n+11) (vi side)) [] []) /\
  aO false (vi side+6) 1 (jL t n)=some (.sl (n+mq side) 0 (QG t side).af.length false):=by
 rcases hs with rfl|rfl
 ·exact⟨h.key 4 _ rfl,λ_=>rfl,rfl⟩
 ·exact⟨h.key 9 _ rfl,λ_=>rfl,rfl⟩
theorem XdY{b:Nat}(hb:ai J b=.rows 4 (l.map br))(hk:l[k]?=some u):Xh 1 [.ptr b k 3,.bool true] J=.ok .aP [] [(b,.rows 4 ((l.set k { u with e_:=true }).map br))]:=by
 have d:k<(l.map br).length:=by grind
 have h1:nth (l.map br) k=some (br u):=by rw[Q4,Ba,hk];rfl
 have h2:QF k (br { u with e_:=true }) (l.map br)=some ((l.set k { u with e_:=true }).map br):=by
  rw[Dt d,Ga]
 show (match ai J b with
   |.rows sz rs=>match nth rs k with
    |some row=>match cellsOf (.bool true)with
     | some cs=>bif AJ cs.length 1 then (match bW 3 cs row with
      |some row'=>match QF k row' rs with
       |some rs'=>aL.ok .aP [] [(b,.rows sz rs')]
       |none=>.stop
      | none=>.stop)else .stop
     |none=>.stop
    |none=>.stop
   | _=>.stop)=_
 simp_all [br]
theorem CP.aa8{n:Nat}{s:St}{d:List Int}(h:CP τ n (bI d s)){side:Int}(hs:side=0\/side=1)(hk:(QG s side).af[k]?=some u)(hn:((s.s0.af++s.s1.af).map Th.id).Nodup) :
  CP (τ.set (n+mq side) (.rows 4 (((QG (bI d s) side).af.set k { ca d u with e_:=true }).map br))) n (bI (d++[u.id]) s):=by
 rw[A8,Gf]at hn;obtain⟨n0,n1,w⟩:=hn;have y:u∈(QG s side).af:=Au hk;have hb:=h.box;rcases hs with rfl|rfl
 ·have j:s.s0.af.map (ca (d++[u.id]))=(s.s0.af.map (ca d)).set k { ca d u with e_:=true }:=(QcX hk n0).symm;have o:s.s1.af.map (ca (d++[u.id]))=s.s1.af.map (ca d):=XbT λp=>w u.id (By.2 ⟨u,y,rfl⟩) u.id p rfl;have r:=Yb (h.key 4 _ rfl);refine⟨?_,λi x b=>?_⟩
  ·rw[Qb _ (Yb hb) (by show n+11≠n+4;omega),hb];simp[bI]
  ·by_cases e:i=4
   ·subst e;rw[show mq 0=4 from rfl,Zc _ r];cases b;show U.rows 4 _=.rows 4 ((s.s0.af.map (ca (d++[u.id]))).map br);rw[j];rfl
   ·have f:(hJ (bI d s))[i]?=some x:=by
     rw[<-b]
     match i,e with
     |0,_|1,_|2,_|3,_|5,_|6,_|7,_|8,_|10,_=>rfl
     |9,_=>show some (U.rows 4 ((s.s1.af.map (ca d)).map br))=some (.rows 4 ((s.s1.af.map (ca (d++[u.id]))).map br));rw[o]
     |i+11,_=>rfl
    have:=h.key i x f;have z:i<11:=(eS f).1;rw[Qb _ (by have:=Yb hb;omega) (by show n+i≠n+4;omega)];exact this
 ·have o:s.s1.af.map (ca (d++[u.id]))=(s.s1.af.map (ca d)).set k { ca d u with e_:=true }:=(QcX hk n1).symm;have j:s.s0.af.map (ca (d++[u.id]))=s.s0.af.map (ca d):=XbT λp=>w u.id p u.id (By.2 ⟨u,y,rfl⟩) rfl;have r:=Yb (h.key 9 _ rfl);refine⟨?_,λi x b=>?_⟩
  ·rw[Qb _ (Yb hb) (by show n+11≠n+9;omega),hb];simp[bI]
  ·by_cases e:i=9
   ·subst e;rw[show mq 1=9 from rfl,Zc _ r];cases b;show U.rows 4 _=.rows 4 ((s.s1.af.map (ca (d++[u.id]))).map br);rw[o];rfl
   ·have f:(hJ (bI d s))[i]?=some x:=by
     rw[<-b]
     match i,e with
     |0,_|1,_|2,_|3,_|5,_|6,_|7,_|8,_|10,_=>rfl
     |4,_=>show some (U.rows 4 ((s.s0.af.map (ca d)).map br))=some (.rows 4 ((s.s0.af.map (ca (d++[u.id]))).map br));rw[j]
     |i+11,_=>rfl
    have:=h.key i x f;have z:i<11:=(eS f).1;rw[Qb _ (by have:=Yb hb;omega) (by show n+i≠n+9;omega)];exact this
attribute [local irreducible] aI.rd aI.pu aI.wr aI.dr aI.gr aI.gw aI.gl aI.gd aI.opt c8 W
set_option maxHeartbeats 8000000
variable{v:I}
theorem Gr.set{n:Nat}{rows:List (List I)}(h:Gr J n rows k v τ){c:Nat}(hc:c<J.length)(x:U):Gr (J.set c x) n rows k v (τ.set c x):=by
 obtain⟨h1,h2,h3⟩:=h;refine⟨by simpa using h1,λd hd=>?_,?_⟩
 ·have f:d<J.length:=by simpa using hd
  by_cases e:d=c
  ·grind [Zc]
  ·rw[Qb _ (by omega) e,Qb _ f e];exact h2 d f
 ·rcases h3 with h3|⟨i,b,j,o,p,r⟩
  ·exact .inl h3
  ·exact .inr ⟨i,b,by simpa using j,o,Qa p (by simp) (by omega),r⟩
theorem Gr.ed{σ0:List U}{l:List Ev}(h:Gr σ0 7 (l.map la) l.length v J):∃rd,aA (Go.Ah.hp J) rd v (.aX false false 7 (l.map la)):=by
 rcases h.2.2 with ⟨h1,rfl,h3⟩|⟨_,b,_,rfl,h4,_⟩
 ·have:l=[]:=by simpa using h3
  subst this;exact⟨[],aA.d_ (aA.ro rfl) (λM u d=>d.eZ 7)⟩
 ·refine⟨[b],aA.own h4 (by simp) (by simp) (HO _ _ (by simp)) (λr hr=>?_)⟩;obtain⟨e,_,rfl⟩:=By.1 hr;rfl
theorem Ue(e:Int):∃rd,aA (Go.Ah.hp J) rd (.bw [.agg aU,.aq,O e]) (Rx (eG,[],e)):=
 ⟨[],aA.bw (.cons SB.zero.agg <| .cons (aA.nl 7) <| .cons (aA.ro rfl) .nil)⟩
theorem Zef{s:St}(hs:ba 1000000000 s){n:Nat}(hn:J.length=n){K:I->KT}(d:∀τ,τ.length=n+12->(∀c y,ai J c=.box y->ai τ c=.box y)->CP τ n s->K (.ak (n+11) 0) .aP τ) :
  VV.call (.call 17) [bN s] J λv J=>VV.wr (Zt aU [] J) J λt J=>VV.wr (Xh 23 [t,v] J) J (K t):=by
 subst hn;refine w59 hs (SB.ro (rd:=[]) s) ?_;have f:(J++hJ s).length=J.length+11:=by simp[hJ,rU]
 refine Zq (row:=jL s J.length) (row':=jL s J.length) rfl rfl rfl ?_;have h11:=Xc (J++hJ s) (.box (jL s J.length));rw[f]at h11 ⊢;refine d _ (by simp[hJ,rU]) (λc y h=>Zb _ (Zb _ h (by simp))) ⟨h11,λi x b=>?_⟩;have j:i<11:=(eS b).1;exact Qp (by rw[Bi (by omega),List.getElem?_append_right (by omega)];simpa using b)
@[reducible] def gC(t s:St)(ids:List Int)(n c:Nat):List I:=ui t (.sl c 0 ids.length false) (.sl (n+1) 0 s.s0.az.length false) (.sl (n+2) 0 s.s0.hand.length false) (.sl (n+3) 0 s.s0.ao.length false) (.sl (n+4) 0 (s.s0.af.map (ca ids)).length false) (.sl (n+5) 0 s.s0.told.length false) (.sl (n+6) 0 s.s1.az.length false) (.sl (n+7) 0 s.s1.hand.length false) (.sl (n+8) 0 s.s1.ao.length false) (.sl (n+9) 0 (s.s1.af.map (ca ids)).length false) (.sl (n+10) 0 s.s1.told.length false)
theorem QdR{n c:Nat}{s:St}(key:∀i x,1<=i->(hJ (bI ids s))[i]?=some x->ai τ (n+i)=x)(hc:ai τ c=.rows 1 (ids.map aK)):∃rd,SB τ rd (gC (XT s ids) s ids n c) (XT s ids):=by
 have b:∀ i,i < 11->n + i∈c :: (Ao 11).map (n + ·):=λi d=>DI _ (By.2 ⟨i,DW.2 d,rfl⟩);exact⟨c :: (Ao 11).map (n + ·),SB.mk (RI.own hc (by simp) rfl) (RI.own (key 1 _ (by decide) rfl) (b 1 (by decide)) rfl) (RI.own (key 2 _ (by decide) rfl) (b 2 (by decide)) rfl) (RI.own (key 3 _ (by decide) rfl) (b 3 (by decide)) rfl) (RT.own (key 4 _ (by decide) rfl) (b 4 (by decide)) rfl) (RI.own (key 5 _ (by decide) rfl) (b 5 (by decide)) rfl)
  (RI.own (key 6 _ (by decide) rfl) (b 6 (by decide)) rfl) (RI.own (key 7 _ (by decide) rfl) (b 7 (by decide)) rfl) (RI.own (key 8 _ (by decide) rfl) (b 8 (by decide)) rfl) (RT.own (key 9 _ (by decide) rfl) (b 9 (by decide)) rfl) (RI.own (key 10 _ (by decide) rfl) (b 10 (by decide)) rfl)⟩
theorem Zdg{s:St}{σ1 τ1:List U}{c:Nat}(Ag:Gr σ1 7 ((wP s ids).map la) ids.length v τ1)(hlen:σ1.length=15)(x2:ai σ1 2=.box aU)(i:∀j x,1<=j->(hJ (bI ids s))[j]?=some x->ai σ1 (3+j)=x)(fD:ai τ1 c=.rows 1 (ids.map aK))(B:15<=c)(b14:3+11<τ1.length) :
  VV.rd (Xf true 23 [.ak (3+11) 0] (((τ1.set (3+11) (.box (gC (bI ids s) s ids 3 c))).set (3+11) (.box (gC { bI ids s with bq:=true } s ids 3 c))).set (3+11) (.box (gC (XT s ids) s ids 3 c)))) λo=>
  VV.wr (Xh 23 [.ak 2 0,o] (((τ1.set (3+11) (.box (gC (bI ids s) s ids 3 c))).set (3+11) (.box (gC { bI ids s with bq:=true } s ids 3 c))).set (3+11) (.box (gC (XT s ids) s ids 3 c)))) (((τ1.set (3+11) (.box (gC (bI ids s) s ids 3 c))).set (3+11) (.box (gC { bI ids s with bq:=true } s ids 3 c))).set (3+11) (.box (gC (XT s ids) s ids 3 c))) λ_ J=>
  VV.opt (fz true 23 (.ak 2 0) J) λr71=>(λp J=>∃rd,aA (Go.Ah.hp J) rd p (Rx (XT s ids,wP s ids,0))) (.bw [r71,v,(.int .i64 0)]) J:=by
 have b:=((Ag.set (c:=3+11) (by omega) (.box (gC (bI ids s) s ids 3 c))).set (c:=3+11) (by simp;omega) (.box (gC { bI ids s with bq:=true } s ids 3 c))).set (c:=3+11) (by simp;omega) (.box (gC (XT s ids) s ids 3 c));have y22:=b.fG (c:=2) (Qa (Qa (Qa x2 (by simp) (by omega)) (by simp) (by omega)) (by simp) (by omega)) (by simp);have hc4:ai (((τ1.set (3+11) (.box (gC (bI ids s) s ids 3 c))).set (3+11) (.box (gC { bI ids s with bq:=true } s ids 3 c))).set (3+11) (.box (gC (XT s ids) s ids 3 c))) c=.rows 1 (ids.map aK):=Qa (Qa (Qa fD (by simp) (by omega)) (by simp) (by omega)) (by simp) (by omega);refine Z (v:=.agg (gC (XT s ids) s ids 3 c)) (ld (Zc _ (by simpa using b14)) rfl) ?_;generalize (((τ1.set (3+11) (.box (gC (bI ids s) s ids 3 c))).set (3+11) (.box (gC { bI ids s with bq:=true } s ids 3 c))).set (3+11) (.box (gC (XT s ids) s ids 3 c)))=τ4 at b y22 hc4 ⊢;have b24:=Yb y22;refine Qd (cO (row':=gC (XT s ids) s ids 3 c) y22 rfl rfl rfl) (Ye _ b24) (Zp (v:=.agg (gC (XT s ids) s ids 3 c)) (Q7 (Zc _ b24) rfl) ?_);have d:=b.set (c:=2) (by simp;omega) (.box (gC (XT s ids) s ids 3 c));have e3:(wP s ids).length=ids.length:=by simp[wP]
 rw[<-e3]at d;obtain⟨r,w⟩:=d.ed;have y:∀j x,1<=j->(hJ (bI ids s))[j]?=some x->ai (τ4.set 2 (.box (gC (XT s ids) s ids 3 c))) (3+j)=x:=λj x hj1 f=>by
  have C:j<11:=(eS f).1;rw[d.2.1 (3+j) (by simp;omega),Qb _ (by simp;omega) (by omega),Qb _ (by simp;omega) (by omega),Qb _ (by simp;omega) (by omega),Qb _ (by omega) (by omega)];exact i j x hj1 f
 obtain⟨z,A⟩:=QdR y (Qa hc4 (by simp) (by omega));exact⟨z++r,aA.bw (.cons (aA.more A.agg (by simp +contextual)) <| .cons (aA.more w (by simp +contextual)) <| .cons (aA.ro rfl) .nil)⟩
theorem c45(h89:jN prog 118)(hn:j8 prog 118)(b:Bk)(hf:aN b=true)(bn:Yg b.aj)(s:St)(hs:ba 1000000000 s)(ids:List Int)(hl:ids.length<=1000000000):PC 48 [dd b,bN s,aM ids] (Rx (vm b s ids)):=by
 refine Zo hP g48.ok rfl ?_;rw[H3.e];unfold g48;dsimp only;refine ay (bD (c55 b hf bn s hs) g35.ok (Z (QM ..) ?_));rcases cE (aJ (bO b).1 b s false)with hm|hm
 rotate_left
 ·rw[vm,aB (by rw[hm];simp),hm];exact ay (Ue 170)
 rw[vm,aE hm,hm];have hM:=(Qs.1 (Jy hm)).2;refine ae (X3 (v1:=.ak 1 3) (d:=s.bq) (λ_=>rfl) (λ_=>rfl) ?_);refine vl (v2:=O ids.length) (q2:=[]) (λ_=>rfl) (λ_=>by simp[Qe]) (λ_=>Xr ..) (U2 (v1:=aM ids) (λ_=>rfl) (λ_ k hk=>bD (c95 h89 hn ids hl) g72.ok hk) (Ya (λh=>?_) (λh=>?_)))
 ·rw[aB]
  ·exact ay (Ue 2)
  grind [Kf]
 obtain⟨hh,IX⟩:(!(decide (s.phase≠0)||s.bq) && !decide ((ids.length:Int)=0))=true/\ids.Nodup:=by
  simp_all
 have P:Kf s ids=ids.all λid=>pZ s s.mover id:=by simp_all [Kf]
 clear h;have cC:ids≠[]:=by rintro rfl;simp at hh
 refine Z rfl (Zef hs (n:=3) rfl (λτ hlen G f=>?_));have x0:ai τ 0=.box (cf b):=G 0 _ rfl;have z:ai τ 2=.box aU:=G 2 _ rfl;rw[<-ZdO s]at f;have f:CP τ 3 (bI [] s):=f;have hlen:τ.length=15:=hlen;clear G;refine Z (v:=O ids.length) (rd:=[]) (by simp[Qe]) (Zh (ι:=Nat) (λi Q τ=>∃(σ1:List U) (v:I),Q=[O i,v]/\i<=ids.length/\σ1.length=15/\ai σ1 2=.box aU/\CP σ1 3 (bI (ids.take i) s)/\Gr σ1 7 ((wP s (ids.take i)).map la) i v τ/\(ids.take i).all (λid=>pZ s s.mover id)=true) (λi=>ids.length-i) 0 ⟨τ,_,rfl,by omega,hlen,z,f,Gr.nil 7 τ,rfl⟩ ?_);clear x0 z f hlen;rintro i Q τ again ⟨σ1,v,rfl,hi,hlen,z,f,p,R⟩ S;have H:=p.fG z (by simp);have B:=p.fG f.box (by simp);refine Z (Xy ..) (Ya (λh=>?_) (λh=>?_))
 ·have h:i<ids.length:=by simpa using h
  have T:=λ(t:List U)=>Zm t aK false false 1 ids .i64 i h;have V:ids.take (i+1)=ids.take i++[ids[i]]:=by rw[Cq h]
  have X:ids[i]∉ids.take i:=λo=>by
   grind [List.getElem_of_mem,EV]
  have iO:ids[i]∈ids:=AI h;generalize jE:ids[i]=id at T V X iO;have Y:∀j x,(hJ (bI (ids.take i) s))[j]?=some x->ai τ (3+j)=x:=λj x r=>by
   have hj:j<11:=(eS r).1;rw[p.2.1 (3+j) (by omega)];exact f.key j x r
  have ycp:CP τ 3 (bI (ids.take i) s):=⟨B,Y⟩;obtain⟨rd,AK⟩:=ycp.sb;have hle:ba 1000000000 (bI (ids.take i) s):=⟨hs.1,⟨hs.2.1,hs.2.2,hs.2.3,by simpa[bI]using hs.2.4,hs.2.5⟩,⟨hs.3.1,hs.3.2,hs.3.3,by simpa[bI]using hs.3.4,hs.3.5⟩⟩;refine Z (T _) (Z (v:=O id) (bg rfl) (Z (v:=.agg (jL (bI (ids.take i) s) 3)) (ld B rfl) ?_));refine Yt (rd:=rd) (c71 _ hle id) rfl g73.ok.plain (.cons AK.agg <| .cons (aA.ro rfl) .nil) rfl ?_;have wu:aC (bI (ids.take i) s) id=aC s id:=Ug _ _ _;refine ay ?_;rw[wu];refine Qen (v3:=O s.mover) (λ_=>rfl) (λ_=>rfl) (λ_=>ld B rfl) (λ_=>QM ..) ?_;have C:=Zd9 (s:=s) (side:=s.mover) X;rw[OS,wu]at C;have D:=ycp.af (side:=(aC s id).1);have A:(!(aC s id).2.2||decide ((aC s id).1≠s.mover))=false->∃(k:Nat) (u:Th),(aC s id).2.1=k/\(QG s (aC s id).1).af[k]?=some u/\u.id=id/\((aC s id).1=0\/(aC s id).1=1):=λo=>Tb (by simp_all);generalize abK:(aC s id).1=sd at C D A ⊢;generalize D4:(aC s id).2.1=E at C A ⊢;generalize (aC s id).2.2=ok at C A ⊢;refine Xe1 (q3:=[]) (q5:=[14]) (q7:=[3+mq sd]) (q9:=[3+mq sd]) (v3:=.ak 14 (vi sd)) (v4:=.ak 14 (vi sd+6)) (v5:=.sl (3+mq sd) 0 (QG (bI (ids.take i) s) sd).af.length false) (v7:=.ptr (3+mq sd) E.toNat 0) (v8:=.ptr (3+mq sd) E.toNat 3) (d:=(((QG (bI (ids.take i) s) sd).af[E.toNat]?).getD default).e_) (λ_=>rfl) (λ_=>rfl) (λo=>?_) (λ_=>rfl) (λo=>?_) (λ_=>rfl) (λo=>?_) (λ_=>rfl) (λo=>?_) ?_
  ·grind
  ·grind [ld]
  ·obtain⟨k,u,rfl,y,q3,w⟩:=A o;have K:k<(QG s sd).af.length:=(eS y).1;have:=Y9 τ (3+mq sd) 0 (QG (bI (ids.take i) s) sd).af.length false 4 _ .i64 k (by rw[JT];simpa using K) (D w).1;rw[Al]at this;exact this
  ·obtain⟨k,u,rfl,y,q3,w⟩:=A o;have e:(QG (bI (ids.take i) s) sd).af[k]?=some (ca (ids.take i) u):=by simp_all [JT]
   rw[Int.toNat_natCast,e];exact ru (D w).1 (row:=br (ca (ids.take i) u)) (by rw[Ba,e];rfl) rfl
  have rq:(((!ok||decide (sd≠s.mover))||(((QG (bI (ids.take i) s) sd).af[E.toNat]?).getD default).e_)) = !pZ s s.mover id:=by
   grind
  rw[rq];refine Ya (λhq=>?_) (λhq=>?_)
  ·have hq:pZ s s.mover id=false:=by simpa using hq
   rw[P,aB (λo=>by grind)];refine Z rfl (Qd (cO (row':=aU) H rfl rfl rfl) (Ye _ (Yb H)) (Zp (Q7 (Zc _ (Yb H)) rfl) (Ue 2)))
  have hq:pZ s s.mover id=true:=by simpa using hq
  have o:(!ok||decide (sd≠s.mover))=false:=by
   simp_all
  have IZ:sd=s.mover:=by
   simp_all
  obtain⟨k,u,rfl,y,rfl,w⟩:=A o;obtain⟨L,z2,z3⟩:=D w;have K:k<(QG s sd).af.length:=(eS y).1;have e:(QG (bI (ids.take i) s) sd).af[k]?=some (ca (ids.take i) u):=by grind [JT]
  refine Z rfl (Z (z2 _) (Z rfl (Z (ld B z3) ?_)));refine Z (v:=.ptr (3+mq sd) k 0) (rd:=[3+mq sd]) ?_ (Z rfl ?_)
  ·have:=Y9 τ (3+mq sd) 0 (QG (bI (ids.take i) s) sd).af.length false 4 _ .i64 k (by rw[JT];simpa using K) L;rw[Al]at this;exact this
  refine Qd (XdY L e) (Ye _ (Yb L)) ?_;have hub:mq sd=4\/mq sd=9:=by rcases w with rfl|rfl;exact .inl rfl;exact .inr rfl
  have DK:=p.set (c:=3+mq sd) (by omega) (.rows 4 (((QG (bI (ids.take i) s) sd).af.set k { ca (ids.take i) u with e_:=true }).map br));have LF:=f.aa8 w y hM.un.2;refine ay (DK.put (by_:=72) (cs:=la ⟨11,sd,0,u.id,0,0,[]⟩) rfl rfl rfl (by omega) (λv' τ' R1=>?_));refine Z (Qi ..) ?_;rw[Zd (n:=i) (by omega)];rw[<-V]at LF;have e7:(wP s (ids.take i)).map la++[la ⟨11,sd,0,u.id,0,0,[]⟩]=(wP s (ids.take (i+1))).map la:=by
   grind [wP]
  rw[e7]at R1;exact S (i+1) _ _ (by omega) ⟨_,v',rfl,by omega,by rw[Fu];exact hlen,Qa z (by simp) (by omega),LF,R1,by grind⟩
 have h:i=ids.length:=by simp at h;omega
 subst h;rw[C5]at f p R;rw[P,R,aE rfl];clear S again hi;refine J9 (c96 ids hl) rfl g30.ok.plain rfl ?_;have e1:(I.sl 0 0 ids.length false).cy (ZG τ.length)=.sl τ.length 0 ids.length false:=by simp[I.cy,ZG]
 have e2:Zx τ.length [U.rows 1 (ids.map aK)]=[.rows 1 (ids.map aK)]:=by grind [Zx,Du]
 rw[e1,e2];have F:=p.more [.rows 1 (ids.map aK)];have N:=Xc τ (.rows 1 (ids.map aK));have D6:15<=τ.length:=by have:=p.1;omega
 generalize τ.length=c at N D6;generalize τ++[U.rows 1 (ids.map aK)]=τ1 at F N;have C8:=F.fG f.box (by simp);have b14:=Yb C8;have Y:∀j x,(hJ (bI ids s))[j]?=some x->ai τ1 (3+j)=x:=λj x r=>by
  have hj:j<11:=(eS r).1;rw[F.2.1 (3+j) (by omega)];exact f.key j x r
 refine Z rfl (Qd (cO (row':=gC (bI ids s) s ids 3 c) C8 rfl rfl rfl) (Ye _ b14) ?_);refine Z rfl (Qd (cO (row':=gC { bI ids s with bq:=true } s ids 3 c) (Zc _ b14) rfl rfl rfl) (Ye _ (by simpa using b14)) ?_);refine Z rfl (Qd (cO (row':=gC (XT s ids) s ids 3 c) (Zc _ (by simpa using b14)) rfl rfl rfl) (Ye _ (by simpa using b14)) ?_);exact Zdg F hlen z (λj x _ r=>f.key j x r) N D6 b14
def Dz(s:St)(a:Ac):Bool:=!(decide ((a.cN.length:Int)=0)||decide ((a.cN.length:Int)>7))&&ke s a.side [] a.cN
def kR(b:Bk)(s:St)(a:Ac):Bool:=if a.op=0 then decide (s.phase=0)&&pq b s (if a.side=0 then s.s0 else s.s1) a.place a.target else if a.op=1 then decide (s.phase=0)&&zU s a else if a.op=2 then decide (s.phase=1)&&Dz s a else true
def oF(a:Ac):Bool:=(((decide (a.side<0)||decide (a.side>1))||decide (a.op<0))||decide (a.op>4)) || !nz a
def wa(b:Bk)(s:St)(a:Ac):Int:=if oF a=true then 2 else if a.op=4 then 0 else if a.side=rI s/\kR b s a=true then 0 else 210
def mS(l:List Int):List (Int×Bool):=l.map λx=>(x,true)
theorem HL(t:Int):∀l:List Int,c7 t (mS l)=if l.contains t then some true else none
 |[]=>rfl
 |x::l=>by
  have b:=HL t l
  grind [mS,c7]
def tJ(s:St)(a:Ac):Bool:=j_ s a.side [] a.ids&&((decide (s.phase=0) && !s.bq)&&decide ((a.ids.length:Int)>0))
theorem Yer(s:St)(a:Ac)(id:Int){y:I}(h0:ai J 0=.box [y,.al (aH s) 0,.al (iK a) 0]){K:I->Prop}(d:K (.bool (!pZ s a.side id))) :
  VV.rd (qH .not [.bool (aC s id).2.2] J) λf=>
  VV.gr f false (λk=>VV.rd (mi [O (aC s id).1] J) k) λr=>
  VV.gr f false (λk=>VV.rd (Qc 2 [.ak 0 0] J) k) λw=>
  VV.gr f false (λk=>VV.rd (Xf false 1 [w] J) k) λx=>
  VV.gr f false (λk=>VV.rd (Yi [x] J) k) λz=>
  VV.gr f false (λk=>VV.rd (Qc 1 [z] J) k) λA=>
  VV.gr f false (λk=>VV.rd (Xf false 1 [A] J) k) λB=>
  VV.gr f false (λk=>VV.rd (Qn .neq false [r,B] J) k) λC=>
  VV.rd (Xk [f,(.bool true),C] J) λb=>
  VV.gr b false (λk=>VV.rd (Qc 1 [.ak 0 0] J) k) λD=>
  VV.gr b false (λk=>VV.rd (Xf false 1 [D] J) k) λE=>
  VV.gr b false (λk=>VV.rd (mi [O (aC s id).1] J) k) λF=>
  VV.gr b false (λk=>VV.rd (Yi [E] J) k) λG=>
  VV.gr b false (λk=>VV.rd (Qc 7 [G] J) k) λH=>
  VV.gr b false (λk=>VV.rd (Qo 2 8 [H,F] J) k) λL=>
  VV.gr b false (λk=>VV.rd (Qc 6 [L] J) k) λN=>
  VV.gr b false (λk=>VV.rd (Xf false 1 [N] J) k) λP=>
  VV.gr b false (λk=>VV.rd (mi [O (aC s id).2.1] J) k) λQ=>
  VV.gr b false (λk=>VV.rd (Zi 4 [P,Q] J) k) λR=>
  VV.gr b false (λk=>VV.rd (Qc 3 [R] J) k) λS=>
  VV.gr b false (λk=>VV.rd (Xf false 1 [S] J) k) λT=>
  VV.rd (Xk [b,(.bool true),T] J) K:=by
 rcases YbU s id with ⟨k,u,hu,i⟩|⟨k,u,hu,i⟩|hu
 ·rw[show pZ s a.side id=(decide ((0:Int)=a.side) && !u.e_) by simp[pZ,hu,i]]at d;rw[hu];have o:k<s.s0.af.length:=(eS i).1;have p:s.s0.af[k]=u:=(eS i).2;have j:=λ(τ:List U)=>Zm τ br false false 4 s.s0.af .i64 k o;rw[p]at j;refine ay ?_;refine Z (ld h0 rfl) ?_;refine ax ?_;rw[show decide ((0:Int)≠a.side) = !decide ((0:Int)=a.side) by simp];generalize decide ((0:Int)=a.side)=c at d ⊢;cases c with
  |false=>
   refine ay ?_;exact d
  |true=>
   refine ay ?_;refine Z (ld h0 rfl) ?_;refine ax ?_;refine Z (j _) ?_;refine ax ?_;simp_all
 ·rw[show pZ s a.side id=(decide ((1:Int)=a.side) && !u.e_) by simp[pZ,hu,i]]at d;rw[hu];have o:k<s.s1.af.length:=(eS i).1;have p:s.s1.af[k]=u:=(eS i).2;have j:=λ(τ:List U)=>Zm τ br false false 4 s.s1.af .i64 k o;rw[p]at j;refine ay ?_;refine Z (ld h0 rfl) ?_;refine ax ?_;rw[show decide ((1:Int)≠a.side) = !decide ((1:Int)=a.side) by simp];generalize decide ((1:Int)=a.side)=c at d ⊢;cases c with
  |false=>
   refine ay ?_;exact d
  |true=>
   refine ay ?_;refine Z (ld h0 rfl) ?_;refine ax ?_;refine Z (j _) ?_;refine ax ?_;simp_all
 ·rw[show pZ s a.side id=false by simp[pZ,hu]]at d;rw[hu];exact ay d
theorem c159(b:Bk)(s:St)(hs:ba 1000000000 s)(a:Ac)(hl:a.ids.length<=1000000000):PC 101 [.agg [.al (cf b) 0,.al (aH s) 0,.al (iK a) 0]] (.bool (tJ s a)):=by
 refine Xa hP g101.ok rfl rfl ?_;rw[H1.e];unfold g101;dsimp only;refine Qd (v:=.ak 0 0) (rd:=[]) (up:=[(0,.box [.al (cf b) 0,.al (aH s) 0,.al (iK a) 0])]) rfl rfl (Qd (v:=.map 1) (rd:=[]) (up:=[(1,.map (jq I.bool (mS [])))]) rfl rfl ?_);have h0:ai ([]++[U.box [.al (cf b) 0,.al (aH s) 0,.al (iK a) 0]]++[U.map (jq I.bool (mS []))]) 0=.box [.al (cf b) 0,.al (aH s) 0,.al (iK a) 0]:=rfl;have h1:ai ([]++[U.box [.al (cf b) 0,.al (aH s) 0,.al (iK a) 0]]++[U.map (jq I.bool (mS []))]) 1=.map (jq I.bool (mS [])):=rfl;refine Z rfl (Z (ld h0 rfl) (Z rfl (Z rfl (Z (bg rfl) (Z (v:=O a.ids.length) (rd:=[]) (by simp[Qe]) ?_)))));generalize ([]++[U.box [.al (cf b) 0,.al (aH s) 0,.al (iK a) 0]]++[U.map (jq I.bool (mS []))]:List U)=base at h0 h1 ⊢;refine Zh (ι:=Nat) (λi j J=>j=[O i]/\ai J 0=.box [.al (cf b) 0,.al (aH s) 0,.al (iK a) 0]/\ai J 1=.map (jq I.bool (mS (a.ids.take i)))/\i<=a.ids.length/\j_ s a.side [] a.ids=j_ s a.side (a.ids.take i) (a.ids.drop i)) (λi=>a.ids.length-i) 0 ⟨rfl,h0,h1,by omega,by simp⟩ ?_;clear h0 h1 base;rintro i j J again ⟨rfl,h0,h1,G,hu⟩ w;refine Z (Xy ..) (Ya (λh=>?_) (λh=>?_));rotate_left
 ·have h:i=a.ids.length:=by simp at h;omega
  subst h;rw[As]at hu;rw[C5]at h1;have x:tJ s a=((decide (s.phase=0) && !s.bq)&&decide ((a.ids.length:Int)>0)):=by rw[tJ,hu];rfl
  rw[x];refine Z rfl (Z (ld h0 rfl) ?_);refine ax ?_;refine Xen (λ_=>rfl) (λ_=>ld h0 rfl) (λ_=>rfl) (λ_=>rfl) (λ_=>bg rfl) (λ_=>rfl) ?_;refine Yen (λ_=>rfl) (v2:=O a.ids.length) (q2:=[1]) (λ_=>by simp[JB,h1,jq,mS]) (λ_=>Y4 ..) ?_;rfl
 have h:i<a.ids.length:=by simp at h;omega
 have o:=λ(τ:List U)=>Zm τ aK false false 1 a.ids .i64 i h;have y:a.ids.drop i=a.ids[i]::a.ids.drop (i+1):=by rw[gB h]
 have p:a.ids.take (i+1)=a.ids.take i++[a.ids[i]]:=by rw[Cq h]
 rw[y,j_,<-p]at hu;have z:∀ {q},j_ s a.side [] a.ids=q->q=false->(I.bool false=.bool (tJ s a)):=λA B=>by rw[tJ,A,B];rfl
 generalize K:a.ids[i]=id at o hu p;refine Z (o _) (Z (bg rfl) (Z rfl (Z (ld h0 rfl) ?_)));refine ay (bD (c71 s hs id) g73.ok (Z rfl (Z rfl (Z rfl (Yer s a id h0 ?_)))));have r:=Dl I.bool (.bool false) false h1 id;rw[HL]at r;refine vl (d:=(a.ids.take i).contains id) (λ_=>rfl) (λ_=>rfl) (v2:=O id) (λ_=>r.trans (by cases (a.ids.take i).contains id<;>rfl)) (Ya (λC=>z hu ?_) (λC=>?_))
 ·grind
 have f:pZ s a.side id=true/\(a.ids.take i).contains id=false:=by
  simp_all
 rw[f.1,f.2]at hu;have D:=H_ I.bool h1 id true (by rw[HL,f.2];rfl);have E:=Yb h1;refine Qd D (Ye _ E) (Z (Qi ..) ?_);rw[Zd (n:=i) (by omega)];refine w (i+1) _ _ (by omega) ⟨rfl,Qa h0 (by simp) (by decide),?_,by omega,by rw[hu];rfl⟩;simp_all [mS,Zc]
theorem QeC(p:Int×Int):∀l:List (Int×Int),((l.map (·.1)).contains p.1||(l.map (·.2)).contains p.2)=l.any λq=>decide (q.1=p.1)||decide (q.2=p.2)
 |[]=>rfl
 |q::l=>by
  grind
def tK(s:St)(a:Ac):Bool:=ke s a.side [] a.cN&&(decide (s.phase=1)&&decide ((a.cN.length:Int)>0))
theorem c176(l:List Int)(hl:l.length<=1000000000)(x:Int):∃n:Int,PC 161 [aM l,O x] (O n)/\decide (n >= 0)=l.any λy=>decide (y=x):=by
 have key:∀n:Int,(∀i:Nat,i<=l.length->((l.take i).any λy=>decide (y=x))=false->(∀h:i<l.length,l[i]=x->n=i)/\(i=l.length->n = -1))->PC 161 [aM l,O x] (O n):=by
  intro n b;refine Xa hP g161.ok rfl rfl ?_;rw[H2.e];unfold g161;dsimp only;refine Z (v:=O l.length) (rd:=[]) (by simp[Qe]) (Zh (ι:=Nat) (λi f J=>f=[O i]/\i<=l.length/\((l.take i).any λy=>decide (y=x))=false) (λi=>l.length-i) 0 ⟨rfl,by omega,rfl⟩ ?_);rintro i f J again ⟨rfl,d,hu⟩ j;refine Z (Xy ..) (ZT (λh=>?_) (λh=>?_))
  ·refine Z (Zm _ aK false false 1 l .i64 i h) (Z (bg rfl) (Z (Xr ..) (Ya (λhe=>?_) (λhe=>?_))))
   ·have he:l[i]=x:=by simp at he;exact he.symm
    rw[(b i d hu).1 h he];rfl
   ·refine Z (Qi ..) ?_;rw[Zd (n:=i) (by omega)];refine j (i+1) _ _ (by omega) ⟨rfl,by omega,?_⟩;rw[Cq h,Gn,hu];have he:¬x=l[i]:=by simpa using he
    simpa using λk=>he k.symm
  ·rw[(b i d hu).2 h]
 cases hf:l.findIdx? (λy=>decide (y=x))with
 |none=>
  have b:∀y∈l,¬y=x:=by simpa[List.findIdx?_eq_none_iff]using hf
  refine⟨-1,key _ (λi d _=>⟨λh e=>(b _ (AI h) e).elim,λ_=>rfl⟩),?_⟩;have:(l.any λy=>decide (y=x))=false:=by simpa using b
  rw[this];rfl
 |some k=>
  obtain⟨o,h2,h3⟩:=GU.1 hf;have h2:l[k]=x:=by simpa using h2
  refine⟨k,key _ (λi d hu=>⟨λh e=>?_,λh=>?_⟩),?_⟩
  ·rcases Nat.lt_trichotomy i k with q|q|q
   ·have h4:¬l[i]=x:=by simpa using h3 i q
    exact(h4 e).elim
   ·rw[q]
   ·have:((l.take i).any λy=>decide (y=x))=true:=FV.2 ⟨_,Ff.2 ⟨k,by omega,rfl⟩,by simpa using h2⟩;rw[this]at hu;cases hu
  ·have:((l.take i).any λy=>decide (y=x))=true:=FV.2 ⟨_,Ff.2 ⟨k,by omega,rfl⟩,by simpa using h2⟩;rw[this]at hu;cases hu
  ·have:(l.any λy=>decide (y=x))=true:=FV.2 ⟨_,AI o,by simpa using h2⟩;rw[this];simp
theorem c138(l:List Int)(hl:l.length<=1000000000)(x:Int):PC 122 [aM l,O x] (.bool (l.any λy=>decide (y=x))):=by
 obtain⟨n,h1,h2⟩:=c176 l hl x;refine Xa hP g122.ok rfl rfl ?_;rw[H2.e];unfold g122;dsimp only;rw[<-h2];exact bD h1 g161.ok (Z (pL ..) rfl)
theorem Xer(s:St)(hs:ba 1000000000 s)(a:Ac)(p:Int×Int)(sd:Int)(ok:Bool){y:I}{np:Nat}{mA mB:Bool}(h0:ai J 0=.box [y,.al (aH s) 0,.al (iK a) 0])(hB:ai J np=.box (jr p))(hA:Yu false false (.bool false) [.map 1,O p.1] J=.ok (.bool mA) [1] [])(hM:Yu false false (.bool false) [.map 2,O p.2] J=.ok (.bool mB) [2] []){K:List U->I->Prop}
 (d:K J (.bool ((((!(s.an.any λx=>decide (x=p.1)) || !ok)||decide (sd≠a.side))||mA)||mB))) :
  VV.pu (Qc 1 [.ak 0 0] J) λo=>
  VV.dr (Xf false 1 [o] J) J λr l31 J=>
  VV.pu (Yi [r] J) λw=>
  VV.pu (Qc 5 [w] J) λz=>
  VV.dr (Xf false 1 [z] J) J λA l35 J=>
  VV.pu (Qc 0 [.ak np 0] J) λB=>
  VV.dr (Xf false 1 [B] J) J λC l38 J=>
  VV.dT (.call 122) [A,C] J λD l40 J=>
  VV.pu (qH .not [D] J) λj=>
  VV.gr j false (λk=>VV.pu (mi [.bool ok] J) k) λE=>
  VV.gr j false (λk=>VV.pu (qH .not [E] J) k) λF=>
  VV.pu (Xk [j,(.bool true),F] J) λb=>
  VV.gr b false (λk=>VV.pu (mi [O sd] J) k) λG=>
  VV.gr b false (λk=>VV.pu (Qc 2 [.ak 0 0] J) k) λH=>
  VV.gl b false (λk=>VV.dr (Xf false 1 [H] J) J k) J λL l48 J=>
  VV.gr b false (λk=>VV.pu (Yi [L] J) k) λN=>
  VV.gr b false (λk=>VV.pu (Qc 1 [N] J) k) λP=>
  VV.gl b false (λk=>VV.dr (Xf false 1 [P] J) J k) J λQ l52 J=>
  VV.gr b false (λk=>VV.pu (Qn .neq false [G,Q] J) k) λR=>
  VV.pu (Xk [b,(.bool true),R] J) λf=>
  VV.gr f false (λk=>VV.pu (mi [.map 1] J) k) λS=>
  VV.gr f false (λk=>VV.pu (Qc 0 [.ak np 0] J) k) λT=>
  VV.gl f false (λk=>VV.dr (Xf false 1 [T] J) J k) J λV l58 J=>
  VV.gl f false (λk=>VV.dr (Yu false false (.bool false) [S,V] J) J k) J λX l60 J=>
  VV.pu (Xk [f,(.bool true),X] J) λi=>
  VV.gr i false (λk=>VV.pu (mi [.map 2] J) k) λY=>
  VV.gr i false (λk=>VV.pu (Qc 1 [.ak np 0] J) k) λGX=>
  VV.gl i false (λk=>VV.dr (Xf false 1 [GX] J) J k) J λGY l65 J=>
  VV.gl i false (λk=>VV.dr (Yu false false (.bool false) [Y,GY] J) J k) J λGZ l67 J=>
  VV.pu (Xk [i,(.bool true),GZ] J) λG1=>
  VV.gd (Qg [[],[0],[0,1],[0,1,2],[0,1,2,3],[],[5],[0,1,2,3,4,5,6],[0,1,2,3,4,5,6,7],[0,1,2,3,4,5,6,7,8],[0,1,2,3,4,5,6,7,8,9],[0,1,2,3,4,5,6,7,8,9,10],[0,1,2,3,4,5,6,7,8,9,10,11],[0,1,2,3,4,5,6,7,8,9,10,11,12],[0,1,2,3,4,5,6,7,8,9,10,11,12,13],[0,1,2,3,4,5,6,7,8,9,10,11,12,13],[0,1,2,3,4,5,6,7,8,9,10,11,12,13,15],[0,1,2,3,4,5,6,7,8,9,10,11,12,13,15,16],[0,1,2,3,4,5,6,7,8,9,10,11,12,13,15,16,17],[0,1,2,3,4,5,6,7,8,9,10,11,12,13,15,16,17,18],[0,1,2,3,4,5,6,7,8,9,10,11,12,13,14,15,16,17,18,19],[0,1,2,3,4,5,6,7,8,9,10,11,12,13,14,15,16,17,18,19,20],[0,1,2,3,4,5,6,7,8,9,10,11,12,13,14,15,16,17,18,19,20,21],[0,1,2,3,4,5,6,7,8,9,10,11,12,13,14,15,16,17,18,19,20,21,22],[0,1,2,3,4,5,6,7,8,9,10,11,12,13,14,15,16,17,18,19,20,21,22],[0,1,2,3,4,5,6,7,8,9,10,11,12,13,14,15,16,17,18,19,20,21,22,24],[0,1,2,3,4,5,6,7,8,9,10,11,12,13,14,15,16,17,18,19,20,21,22,23,24,25],[0,1,2,3,4,5,6,7,8,9,10,11,12,13,14,15,16,17,18,19,20,21,22,23,24,25,26],[0,1,2,3,4,5,6,7,8,9,10,11,12,13,14,15,16,17,18,19,20,21,22,23,24,25,26,27],[0,1,2,3,4,5,6,7,8,9,10,11,12,13,14,15,16,17,18,19,20,21,22,23,24,25,26,27,28],[0,1,2,3,4,5,6,7,8,9,10,11,12,13,14,15,16,17,18,19,20,21,22,23,24,25,26,27,28],[0,1,2,3,4,5,6,7,8,9,10,11,12,13,14,15,16,17,18,19,20,21,22,23,24,25,26,27,28,30],[0,1,2,3,4,5,6,7,8,9,10,11,12,13,14,15,16,17,18,19,20,21,22,23,24,25,26,27,28,29,30,31],[0,1,2,3,4,5,6,7,8,9,10,11,12,13,14,15,16,17,18,19,20,21,22,23,24,25,26,27,28,29,30,31,32]] [([],[]),l31,([],[]),([],[]),l35,([],[]),l38,l40,([],[]),([],[]),([],[]),([],[]),([],[]),([],[]),([],[]),([],[]),l48,([],[]),([],[]),l52,([],[]),([],[]),([],[]),([],[]),([],[]),l58,l60,([],[]),([],[]),([],[]),([],[]),l65,l67,([],[])]) <| K J G1:=by
 refine Xd rfl (Ze (ld h0 rfl) rfl (Xd rfl (Xd rfl (Ze (bg (v:=aM s.an) rfl) rfl (Xd rfl (Ze (ld hB rfl) rfl ?_))))));refine YX (c138 s.an hs.an p.1) g122.ok (Xd rfl ?_);generalize (s.an.any λx=>decide (x=p.1))=att at d ⊢;cases att with
 |false=>
  repeat first|refine Yc rfl ?_|refine HY rfl ?_|refine YG rfl ?_|refine Xd rfl ?_
  exact Xo (by kernel_rfl) d
 |true=>
 refine Xb (Xd rfl (Xb (Xd rfl (Xd rfl ?_))));cases ok with
 |false=>
  repeat first|refine Yc rfl ?_|refine HY rfl ?_|refine YG rfl ?_|refine Xd rfl ?_
  exact Xo (by kernel_rfl) d
 |true=>
 refine Xb (Xd rfl (Xb (Xd rfl (ZX (Ze (ld h0 rfl) rfl ?_)))));refine Xb (Xd rfl (Xb (Xd rfl (ZX (Ze (bg rfl) rfl (Xb (Xd (QM ..) (Xd rfl ?_))))))));generalize decide (sd≠a.side)=c at d ⊢;cases c with
 |true=>
  repeat first|refine Yc rfl ?_|refine HY rfl ?_|refine YG rfl ?_|refine Xd rfl ?_
  exact Xo (by kernel_rfl) d
 |false=>
 refine Xb (Xd rfl (Xb (Xd rfl (ZX (Ze (ld hB rfl) rfl (ZX (Ze hA rfl (Xd rfl ?_))))))));cases mA with
 |true=>
  repeat first|refine Yc rfl ?_|refine HY rfl ?_|refine YG rfl ?_|refine Xd rfl ?_
  exact Xo (by kernel_rfl) d
 |false=>
 refine Xb (Xd rfl (Xb (Xd rfl (ZX (Ze (ld hB rfl) rfl (ZX (Ze hM rfl (Xd rfl (Xo (by kernel_rfl) ?_)))))))));exact d
theorem c160(b:Bk)(s:St)(hs:ba 1000000000 s)(a:Ac)(hl:a.cN.length<=1000000000):PC 102 [.agg [.al (cf b) 0,.al (aH s) 0,.al (iK a) 0]] (.bool (tK s a)):=by
 refine Xa hP g102.ok rfl rfl ?_;rw[H1.e];unfold g102;dsimp only;refine Qd (v:=.ak 0 0) (rd:=[]) (up:=[(0,.box [.al (cf b) 0,.al (aH s) 0,.al (iK a) 0])]) rfl rfl (Qd (v:=.map 1) (rd:=[]) (up:=[(1,.map (jq I.bool (mS [])))]) rfl rfl (Qd (v:=.map 2) (rd:=[]) (up:=[(2,.map (jq I.bool (mS [])))]) rfl rfl ?_));have h0:ai ([]++[U.box [.al (cf b) 0,.al (aH s) 0,.al (iK a) 0]]++[U.map (jq I.bool (mS []))]++[U.map (jq I.bool (mS []))]) 0=.box [.al (cf b) 0,.al (aH s) 0,.al (iK a) 0]:=rfl;have h1:ai ([]++[U.box [.al (cf b) 0,.al (aH s) 0,.al (iK a) 0]]++[U.map (jq I.bool (mS []))]++[U.map (jq I.bool (mS []))]) 1=.map (jq I.bool (mS [])):=rfl;have h2:ai ([]++[U.box [.al (cf b) 0,.al (aH s) 0,.al (iK a) 0]]++[U.map (jq I.bool (mS []))]++[U.map (jq I.bool (mS []))]) 2=.map (jq I.bool (mS [])):=rfl;refine Z rfl (Z (ld h0 rfl) (Z rfl (Z rfl (Z (bg rfl) (Z (v:=O a.cN.length) (rd:=[]) (by simp[Qe]) ?_)))));generalize ([]++[U.box [.al (cf b) 0,.al (aH s) 0,.al (iK a) 0]]++[U.map (jq I.bool (mS []))]++[U.map (jq I.bool (mS []))]:List U)=base at h0 h1 h2 ⊢;refine Zh (ι:=Nat) (λi r J=>r=[O i]/\ai J 0=.box [.al (cf b) 0,.al (aH s) 0,.al (iK a) 0]/\ai J 1=.map (jq I.bool (mS ((a.cN.take i).map (·.1))))/\ai J 2=.map (jq I.bool (mS ((a.cN.take i).map (·.2))))/\i<=a.cN.length/\ke s a.side [] a.cN=ke s a.side (a.cN.take i) (a.cN.drop i)) (λi=>a.cN.length-i) 0 ⟨rfl,h0,h1,h2,by omega,by simp⟩ ?_;clear h0 h1 h2 base;rintro i r J again ⟨rfl,h0,h1,h2,R,hu⟩ C;refine Z (Xy ..) (Ya (λh=>?_) (λh=>?_));rotate_left
 ·have h:i=a.cN.length:=by simp at h;omega
  subst h;rw[As]at hu;rw[C5]at h1;have D:tK s a=(decide (s.phase=1)&&decide ((a.cN.length:Int)>0)):=by rw[tK,hu];rfl
  rw[D];refine Z rfl (Z (ld h0 rfl) (Z rfl (Z rfl (Z (bg rfl) (Z (Xr ..) ?_)))));refine Yen (λ_=>rfl) (v2:=O a.cN.length) (q2:=[1]) (λ_=>by simp[JB,h1,jq,mS]) (λ_=>Y4 ..) ?_;rfl
 have h:i<a.cN.length:=by simp at h;omega
 have w:=λ(τ:List U)=>Zm τ jr false false 2 a.cN .i64 i h;have E:a.cN.drop i=a.cN[i]::a.cN.drop (i+1):=by rw[gB h]
 have j:a.cN.take (i+1)=a.cN.take i++[a.cN[i]]:=by rw[Cq h]
 rw[E,ke,<-j,<-QeC]at hu;have F:∀ {q},ke s a.side [] a.cN=q->q=false->(I.bool false=.bool (tK s a)):=λG H=>by rw[tK,G,H];rfl
 generalize T:a.cN[i]=p at w hu j;have K:=Yb h2;refine Z (w _) (Z (v:=.agg (jr p)) (rd:=[]) (bg rfl) ?_);refine Zq (row:=jr p) (row':=jr p) rfl rfl rfl ?_;have d:=Xc J (U.box (jr p));have h0:ai (J++[U.box (jr p)]) 0=.box [.al (cf b) 0,.al (aH s) 0,.al (iK a) 0]:=Zb _ h0;have h1:=Zb [U.box (jr p)] h1;have h2:=Zb [U.box (jr p)] h2;generalize J++[U.box (jr p)]=τ at d h0 h1 h2 ⊢;obtain⟨np,y⟩:∃np,J.length=np+3:=⟨J.length-3,by omega⟩;rw[y]at d ⊢;clear y K;refine Xd rfl (Ze (ld h0 rfl) rfl (Xd rfl (Ze (bg (v:=bN s) rfl) rfl (Xd rfl (Ze (ld d rfl) rfl ?_)))));refine YX (c71 s hs p.2) g73.ok (Xd rfl (Xd rfl (Xd rfl (Xo (by kernel_rfl) ?_))));have z:=Dl I.bool (.bool false) false h1 p.1;have A:=Dl I.bool (.bool false) false h2 p.2;rw[HL]at z A;refine Xer s hs a p (aC s p.2).1 (aC s p.2).2.2 h0 d (mA:=((a.cN.take i).map (·.1)).contains p.1) (mB:=((a.cN.take i).map (·.2)).contains p.2) (z.trans (by cases ((a.cN.take i).map (·.1)).contains p.1<;>rfl)) (A.trans (by cases ((a.cN.take i).map (·.2)).contains p.2<;>rfl)) ?_;have L:decide ((aC s p.2).1≠a.side) = !decide ((aC s p.2).1=a.side):=by simp
 rw[L];refine Ya (λo=>F hu ?_) (λo=>?_)
 ·revert o
  cases (s.an.any λx=>decide (x=p.1))<;>cases (aC s p.2).2.2<;>cases decide ((aC s p.2).1=a.side)<;>cases ((a.cN.take i).map (·.1)).contains p.1<;>cases ((a.cN.take i).map (·.2)).contains p.2<;>simp
 have f:((s.an.any λx=>decide (x=p.1))&&((aC s p.2).2.2&&decide ((aC s p.2).1=a.side)))=true/\((a.cN.take i).map (·.1)).contains p.1=false/\((a.cN.take i).map (·.2)).contains p.2=false:=by
  revert o
  cases (s.an.any λx=>decide (x=p.1))<;>cases (aC s p.2).2.2<;>cases decide ((aC s p.2).1=a.side)<;>cases ((a.cN.take i).map (·.1)).contains p.1<;>cases ((a.cN.take i).map (·.2)).contains p.2<;>simp
 rw[f.1,f.2.1,f.2.2]at hu;have N:=H_ I.bool h1 p.1 true (by rw[HL,f.2.1];rfl);have B:=Yb h1;have Y:=Yb h2;have P:=Qa (c:=1) (x:=.map (jq I.bool (mS ((a.cN.take i).map (·.1))++[(p.1,true)]))) h2 (by simp) (by decide);have aaq:=H_ I.bool P p.2 true (by rw[HL,f.2.2];rfl);refine Xd rfl (Ze (ld d rfl) rfl (Xd rfl (Ze (ld d rfl) rfl (Ze N (Ye _ B) (Ze aaq (Ye _ (by simp;omega)) (Xo (by kernel_rfl) (Z (Qi ..) ?_)))))));rw[Zd (n:=i) (by omega)];refine C (i+1) _ _ (by omega) ⟨rfl,Qa (Qa h0 (by simp) (by decide)) (by simp) (by decide),?_,?_,by omega,by rw[hu];rfl⟩
 ·rw[Qa (Zc _ B) (by simp) (by decide),j];simp[mS]
 ·rw[Zc _ (by simp;omega),j];simp[mS]
def tF:List (Int×Int)->Int->Option (Int×Int)
 |[],_=>none
 |p::l,a=>if p.1=a then some p else tF l a
def lM:List (Int×Int)->Int->Int->Int
 |[],_,_=>-1
 |p::l,i,a=>if p.1=a then i else lM l (i+1) a
theorem XbP(a:Int):∀(l:List (Int×Int)) (i:Nat),(∃(k:Nat) (h:k<l.length),lM l i a=((i+k:Nat):Int)/\tF l a=some l[k]/\l[k].1=a)\/(lM l i a = -1/\tF l a=none)
 |[],_=>.inr ⟨rfl,rfl⟩
 |p::l,i=>by
  unfold lM tF;by_cases h:p.1=a
  ·rw[aE h,aE h];exact .inl ⟨0,by simp,rfl,rfl,h⟩
  ·rw[aB h,aB h];rcases XbP a l (i+1)with ⟨k,b,h1,h2,h3⟩|⟨h1,h2⟩
   ·refine .inl ⟨k+1,by simpa using b,?_,by simpa using h2,by simpa using h3⟩
    grind
   simp_all
def Im(s:St)(p:Int×Int):Bool:=((aC s p.2).2.2 && !decide ((aC s p.2).1=s.mover))&&s.an.any λx=>decide (x=p.1)
def Ki(s:St)(l:List (Int×Int)):Bool:=l.all (Im s)&&(decide (l.map (·.1)).Nodup&&decide (l.map (·.2)).Nodup)
theorem c104(p:Int×Int)(a:Int):PC 80 [.agg (jr p),.al [O a] 0] (.bool (decide (p.1=a))):=by
 refine Xa hP g80.ok rfl rfl ?_;rw[H2.e];unfold g80;dsimp only;exact Qd (v:=.ak 0 0) (rd:=[]) (up:=[(0,.box (jr p))]) rfl rfl (Z rfl (Z (v:=O p.1) (rd:=[0]) rfl (Z (bg rfl) (Z (Xr ..) rfl))))
theorem c139(l:List (Int×Int))(hl:l.length<=1000000000)(a:Int):PC 127 [AX l,.func (.func 80) [] [.al [O a] 0]] (O (lM l 0 a)):=by
 refine Xa hP g127.ok rfl rfl ?_;rw[H2.e];unfold g127;dsimp only;refine Z (v:=O l.length) (rd:=[]) (by simp[Qe]) (Zh (ι:=Nat) (λi b _=>b=[O i]/\i<=l.length/\lM l 0 a=lM (l.drop i) i a) (λi=>l.length-i) 0 ⟨rfl,by omega,rfl⟩ ?_);rintro i b J again ⟨rfl,f,hu⟩ j;refine Z (Xy ..) (ZT (λh=>?_) (λh=>?_))
 ·rw[gB h,lM]at hu;refine Z (Zm _ jr false false 2 l .i64 i h) (ax (Qm (c104 l[i] a) rfl g80.ok.plain rfl (Ya (λq=>?_) (λq=>?_))))
  ·rw[hu,aE (by simpa using q)];rfl
  ·rw[aB (by simpa using q)]at hu;refine Z (Qi ..) ?_;rw[Zd (n:=i) (by omega)]
   grind
 ·subst h;rw[As]at hu;rw[hu];rfl
theorem c103(l:List (Int×Int))(hl:l.length<=1000000000)(a:Int):PC 79 [AX l,.func (.func 80) [] [.al [O a] 0]] (.bw [.agg (jr ((tF l a).getD (0,0))),.bool (tF l a).isSome]):=by
 refine Xa hP g79.ok rfl rfl ?_;rw[H2.e];unfold g79;dsimp only;refine ay (bD (c139 l hl a) g127.ok ?_);rcases XbP a l 0 with ⟨k,b,h1,h2,_⟩|⟨h1,h2⟩
 ·have h1:lM l 0 a=(k:Int):=by simpa using h1
  rw[h1,h2];refine Z (pL ..) ?_;rw[gA (by omega)];refine Xg (Z (Zm _ jr false false 2 l .i64 k b) (Z (v:=.agg (jr l[k])) (bg rfl) (Qd (v:=.aP) (rd:=[]) (up:=[(0,.box (jr l[k]))]) rfl rfl (Zp rfl rfl))))
 ·have h1:lM l 0 a = -1:=by simpa using h1
  rw[h1,h2];refine ay rfl
def Tw(a d:List Int)(b f:I)(τ:List U):Prop:=
 (a=[]/\d=[]/\b=.aq/\f=.aq)\/(∃p q,p≠q/\1<=p/\1<=q/\b=.sl p 0 a.length false/\f=.sl q 0 d.length false/\ai τ p=.rows 1 (a.map aK)/\ai τ q=.rows 1 (d.map aK))
theorem Tw.ri{a d:List Int}{b f:I}(h:Tw a d b f τ):(∃rd,RI τ rd b a)/\∃rd,RI τ rd f d:=by
 rcases h with ⟨rfl,rfl,rfl,rfl⟩|⟨p,q,_,_,_,rfl,rfl,h1,h2⟩
 ·simp[RI.aq]
 ·exact⟨⟨[p],RI.own h1 (by simp) rfl⟩,⟨[q],RI.own h2 (by simp) rfl⟩⟩
theorem c100(h89:jN prog 118)(hn:j8 prog 118)(s:St)(hs:ba 1000000000 s)(l:List (Int×Int))(hl:l.length<=1000000000)(hsa:s.an.length<=1000000000):PC 74 [bN s,AX l] (.bool (Ki s l)):=by
 refine Xa hP g74.ok rfl rfl ?_;rw[H2.e];unfold g74;dsimp only;refine Qd (v:=.ak 0 0) (rd:=[]) (up:=[(0,.box (aH s))]) rfl rfl (Z (v:=O l.length) (rd:=[]) (by simp[Qe]) (Zh (ι:=Nat) (λi H τ=>∃F w,H=[O i,F,w]/\i<=l.length/\ai τ 0=.box (aH s)/\Tw ((l.take i).map (·.1)) ((l.take i).map (·.2)) F w τ/\l.all (Im s)=(l.drop i).all (Im s)) (λi=>l.length-i) 0 ⟨_,_,rfl,by omega,rfl,.inl ⟨rfl,rfl,rfl,rfl⟩,rfl⟩ ?_));rintro i H τ again ⟨F,w,rfl,hi,h0,o,j⟩ T;refine Z (Xy ..) (Ya (λh=>?_) (λh=>?_))
 ·have h:i<l.length:=by simpa using h
  have V:l.take (i+1)=l.take i++[l[i]]:=by rw[Cq h]
  have K:=λ(t:List U)=>Zm t jr false false 2 l .i64 i h;rw[gB h,List.all_cons]at j;have hlen:(l.take i).length=i:=by simp;omega
  generalize l[i]=p at K V j;refine Z (K _) (Z (v:=.agg (jr p)) (rd:=[]) (bg rfl) ?_);refine Zq (row:=jr p) (row':=jr p) rfl rfl rfl ?_;have y:=Xc τ (U.box (jr p));have z:=Zb [U.box (jr p)] h0;have abB:=Yb h0;refine Z (ld z rfl) (Z rfl (Z (v:=O p.2) (ld y rfl) ?_));refine bD (c71 s hs p.2) g73.ok (ay (Qen (v3:=O s.mover) (λ_=>rfl) (λ_=>rfl) (λ_=>ld z rfl) (λ_=>Xr ..) (Xcp (v2:=aM s.an) (v4:=O p.1) (u0:=.bool (s.an.any λx=>decide (x=p.1))) (λ_=>rfl) (λ_=>ld z rfl) (λ_=>rfl) (λ_=>ld y rfl) (λ_ k b=>bD (c138 s.an hsa p.1) g122.ok b) (λ_=>rfl) ?_)));have hpk:(((!(aC s p.2).2.2||decide ((aC s p.2).1=s.mover)) || !(s.an.any λx=>decide (x=p.1)))) = !Im s p:=by
   simp[Im]
  rw[hpk];refine Ya (λb=>?_) (λb=>?_)
  ·grind [Ki]
  have b:Im s p=true:=by simpa using b
  rw[b,Ax]at j;clear hpk b;have A:∀B C τ',ai τ' 0=.box (aH s)->Tw (((l.take i).map (·.1))++[p.1]) (((l.take i).map (·.2))++[p.2]) B C τ'->again [O (i+1),B,C] τ':=λB C τ' X q1=>by
   refine T (i+1) _ _ (by omega) ⟨B,C,rfl,by omega,X,by simp_all,j⟩
  have L:((l.take i).map (·.1)).length=i:=by simpa using hlen
  have Aw:((l.take i).map (·.2)).length=i:=by simpa using hlen
  generalize (l.take i).map (·.1)=a at o A L;generalize (l.take i).map (·.2)=d at o A Aw;refine Xd rfl (Ze (v:=O p.1) (ld y rfl) (Yd _) (Ze (Ib 1 _ _ _ [O p.1] rfl rfl) (Qf _ _) ?_));have N:=Xc (τ++[U.box (jr p)]) (.rows 1 [[O p.1]]);have P:=Zb [U.rows 1 [[O p.1]]] y;have h01:=Zb [U.rows 1 [[O p.1]]] z;rcases o with ⟨rfl,rfl,rfl,rfl⟩|⟨f,Q,cC,CC,Mt,rfl,rfl,R,hpd⟩
  ·refine Ze (X8 1 8 N rfl rfl (by simp)) (Qf _ _) ?_;have D:=Zb [U.rows 1 [[O p.1]]] P;refine Xd rfl (Ze (v:=O p.2) (ld D rfl) (Yd _) (Ze (Ib 1 _ _ _ [O p.2] rfl rfl) (Qf _ _) ?_));have E:=Xc ((τ++[U.box (jr p)]++[U.rows 1 [[O p.1]]])++[U.rows 1 [[O p.1]]]) (.rows 1 [[O p.2]]);refine Ze (X8 1 8 E rfl rfl (by simp)) (Qf _ _) (Xo ?_ ?_)
   ·simp[Qg,Ao,B0,Zl,Zs,Qj,bF,df]
   refine Z (Qi ..) ?_;rw[Zd (n:=i) (by omega)];refine A _ _ _ (Zb _ (Zb _ (Zb _ h01 (by simp)) (by simp))) (.inr ⟨_,_,?_,?_,?_,rfl,rfl,Zb _ (Zb _ (Xc _ _) (by simp)),Xc _ _⟩)
   ·simp
   ·simp
   ·simp
  ·have W6:=Yb R;have Mg:=Yb hpd;have aaf:=Zb [U.rows 1 [[O p.1]]] (Zb [U.box (jr p)] R (by simp));have aag:=Zb [U.rows 1 [[O p.1]]] (Zb [U.box (jr p)] hpd (by simp));refine Ze (Q8 1 8 aaf N (by simp) rfl rfl (by simp[L];omega)) (YK _ _ (by simp;omega)) ?_;have D:=Zb [U.rows 1 (a.map aK++[[O p.1]])] (Qa (c:=f) (x:=.dead) P (by simp) (by omega));have h02:=Zb [U.rows 1 (a.map aK++[[O p.1]])] (Qa (c:=f) (x:=.dead) h01 (by simp) (by omega));have S:=Zb [U.rows 1 (a.map aK++[[O p.1]])] (Qa (c:=f) (x:=.dead) aag (by simp) (by omega));have G:=Xc ((τ++[U.box (jr p)]++[U.rows 1 [[O p.1]]]).set f .dead) (.rows 1 (a.map aK++[[O p.1]]));have r:((τ++[U.box (jr p)]++[U.rows 1 [[O p.1]]]).set f .dead++[U.rows 1 (a.map aK++[[O p.1]])]).length=τ.length+3:=by simp
   have Y:((τ++[U.box (jr p)]++[U.rows 1 [[O p.1]]]).set f .dead).length=τ.length+2:=by simp
   have Md:(τ++[U.box (jr p)]++[U.rows 1 [[O p.1]]]).length=τ.length+2:=by simp
   have WX:(τ++[U.box (jr p)]).length=τ.length+1:=by simp
   rw[Y]at G;rw[Md,WX];generalize (τ++[U.box (jr p)]++[U.rows 1 [[O p.1]]]).set f .dead++[U.rows 1 (a.map aK++[[O p.1]])]=τ2 at D h02 S G r ⊢;refine Xd rfl (Ze (v:=O p.2) (ld D rfl) (Yd _) (Ze (Ib 1 _ _ _ [O p.2] rfl rfl) (Qf _ _) ?_));have E:=Xc τ2 (.rows 1 [[O p.2]]);have aah:=Zb [U.rows 1 [[O p.2]]] S;rw[r]at E ⊢;refine Ze (Q8 1 8 aah E (by simp) rfl rfl (by simp[Aw];omega)) (YK _ _ (by simp;omega)) (Xo ?_ ?_)
   ·have e1:¬τ.length=f:=by omega
    have e2:¬τ.length+1=f:=by omega
    have e5:¬τ.length=Q:=by omega
    simp[Qg,Ao,B0,Zl,Zs,Qj,bF,df,e1,e2,e5,r];omega
   refine Z (Qi ..) ?_;rw[Zd (n:=i) (by omega)];refine A _ _ _ (Zb _ (Qa (Zb _ h02 (by simp)) (by simp) (by omega))) (.inr ⟨τ.length+2,τ.length+4,by omega,by omega,by omega,?_,?_,Zb _ (Qa (Zb _ (G.trans (by rw[A8];rfl)) (by simp)) (by simp) (by omega)),?_⟩)
   ·simp
   ·simp[r]
   ·have:=Xc ((τ2++[U.rows 1 [[O p.2]]]).set Q .dead) (.rows 1 (d.map aK++[[O p.2]]));simp only[Fu,AT,r,EJ]at this;rw[A8];exact this
 have h:i=l.length:=by simp at h;omega
 subst h;rw[As,List.all_nil]at j;rw[C5]at o;obtain⟨⟨r1,hA⟩,r2,hD⟩:=o.ri;refine Yt (rd:=r1) (c95 h89 hn (l.map λx=>x.1) (by simpa using hl)) rfl g72.ok.plain (.cons (show aA _ _ _ (aM (l.map λx=>x.1)) from hA) .nil) rfl (Z rfl ?_);refine ZdL (v1:=w) (u0:=.bool (!decide (l.map (·.2)).Nodup)) (λ_=>rfl) (λ_ k b=>Yt (rd:=r2) (c95 h89 hn (l.map λx=>x.2) (by simpa using hl)) rfl g72.ok.plain (.cons (show aA _ _ _ (aM (l.map λx=>x.2)) from hD) .nil) rfl b) (λ_=>rfl) ?_;rw[Ki,j];simp
def mQ(b:Bk)(s:St)(id:Int):Int×Int:=if (aC s id).2.2 then pr b (QG s (aC s id).1).af (aC s id).2.1 else (0,0)
def ug(b:Bk)(s:St)(id:Int):I:=.bw [O (mQ b s id).1,O (mQ b s id).2,.bool (aC s id).2.2]
def kK(b:Bk)(s:St)(id:Int):Int:=max (mQ b s id).1 0
theorem XdD{b:Bk}{s:St}(h:(aC s id).2.2=false):kK b s id=0:=by simp[kK,mQ,h]
theorem c54(b:Bk)(hf:aN b=true)(d:Yg b.aj)(s:St)(hs:ba 1000000000 s)(hm:aJ (bO b).1 b s true=true)(id:Int):PC 75 [dd b,bN s,O id] (ug b s id):=by
 refine Xa hP g75.ok rfl rfl ?_;rw[H3.e];unfold g75;dsimp only;refine Qd (v:=.ak 0 0) (rd:=[]) (up:=[(0,.box (cf b))]) rfl rfl (Qd (v:=.ak 1 0) (rd:=[]) (up:=[(1,.box (aH s))]) rfl rfl (qK b hf d s hs (n0:=2) (n:=13) rfl rfl rfl rfl (λh=>by rw[hm]at h;cases h) (λ_=>?_)));refine Z rfl (Yf (Z (ld (row:=aH s) rfl rfl) (bD (c71 s hs id) g73.ok (Z rfl (Z rfl (Z rfl (Z rfl ?_)))))));rcases YbU s id with ⟨k,u,hu,f⟩|⟨k,u,hu,f⟩|hu
 ·have e:ug b s id=.bw [O (pr b s.s0.af k).1,O (pr b s.s0.af k).2,.bool true]:=by simp[ug,mQ,hu,QG]
  rw[e,hu];refine Yf (Yt (rd:=[0,2,3,4,5,6,7,8,9,10,11,12,13]) (c75 b s (.inl rfl) hs.s0.af (TV hm) k) rfl g123.ok.plain (.cons (aA.box (row:=CO s) rfl (by decide) (.cons (aA.box (row:=cf b) rfl (by decide) (bA.ro rfl)) ?_)) <| .cons (aA.ro rfl) <| .cons (aA.ro rfl) .nil) rfl ?_)
  ·exact SB.mk (s:=s) (RI.own rfl (by decide) rfl) (RI.own rfl (by decide) rfl) (RI.own rfl (by decide) rfl) (RI.own rfl (by decide) rfl) (RT.own rfl (by decide) rfl) (RI.own rfl (by decide) rfl) (RI.own rfl (by decide) rfl) (RI.own rfl (by decide) rfl) (RI.own rfl (by decide) rfl) (RT.own rfl (by decide) rfl) (RI.own rfl (by decide) rfl)
  exact Z rfl (Z rfl rfl)
 ·have e:ug b s id=.bw [O (pr b s.s1.af k).1,O (pr b s.s1.af k).2,.bool true]:=by simp[ug,mQ,hu,QG]
  rw[e,hu];refine Yf (Yt (rd:=[0,2,3,4,5,6,7,8,9,10,11,12,13]) (c75 b s (.inr rfl) hs.s1.af (S_ hm) k) rfl g123.ok.plain (.cons (aA.box (row:=CO s) rfl (by decide) (.cons (aA.box (row:=cf b) rfl (by decide) (bA.ro rfl)) ?_)) <| .cons (aA.ro rfl) <| .cons (aA.ro rfl) .nil) rfl ?_)
  ·exact SB.mk (s:=s) (RI.own rfl (by decide) rfl) (RI.own rfl (by decide) rfl) (RI.own rfl (by decide) rfl) (RI.own rfl (by decide) rfl) (RT.own rfl (by decide) rfl) (RI.own rfl (by decide) rfl) (RI.own rfl (by decide) rfl) (RI.own rfl (by decide) rfl) (RI.own rfl (by decide) rfl) (RT.own rfl (by decide) rfl) (RI.own rfl (by decide) rfl)
  exact Z rfl (Z rfl rfl)
 ·have e:ug b s id=.bw [O 0,O 0,.bool false]:=by simp[ug,mQ,hu]
  rw[e,hu];exact Xg rfl
def Xj(s:St):Int:=((s.s0.az.length:Int)+s.s0.hand.length+s.s0.ao.length+s.s0.af.length)+(s.s1.az.length+s.s1.hand.length+s.s1.ao.length+s.s1.af.length)
theorem QT{n:Nat}{l:List Int}{most:Int}(h:Zn n (c::l) most=true):Zn n l most=true/\0<=c/\c<n:=by
 rw[Ql]at h ⊢;obtain⟨h1,h2⟩:=h;simp only[A1]at h1;exact⟨⟨by omega,λx b=>h2 x (DI _ b)⟩,h2 c (List.mem_cons_self ..)⟩
theorem Zr{n:Nat}{l:List Int}{most:Int}(h:Zn n l most=true)(hc:0<=c/\c<n)(hl:(l.length:Int)+1<=most):Zn n (l++[c]) most=true:=by
 grind [Ql]
theorem Vh:gk l a=none↔a∉l.map Th.id:=by
 simp[gk]
def Oq(s:St)(a k:Int):Prop:=(aC s a).2.2=true/\(aC s a).1=k
theorem MS{s:St}:Oq s a 0↔a∈s.s0.af.map Th.id:=by
 grind [Oq,aC,gk]
theorem MT{s:St}:Oq s a 1↔a∉s.s0.af.map Th.id/\a∈s.s1.af.map Th.id:=by
 unfold Oq aC;have h:=Vh (l:=s.s0.af) (a:=a);have h1:=Vh (l:=s.s1.af) (a:=a)
 grind
theorem Ie{s t:St}(h:SA s)(hm:0<=s.mover/\s.mover<=1)(e1:t.phase=s.phase)(e2:t.bq=s.bq)(e3:t.mover=s.mover)(hs:t.an.Sublist s.an)
 (k0:∀a∈t.an,a∈s.s0.af.map Th.id->a∈t.s0.af.map Th.id)(k1:∀a∈t.an,a∈s.s1.af.map Th.id->a∉s.s0.af.map Th.id->a∈t.s1.af.map Th.id/\a∉t.s0.af.map Th.id):SA t:=by
 refine⟨λb=>?_,λb=>?_⟩
 ·have:=h.1 (by rw[<-e1];exact b);simp_all
 ·obtain⟨f,i,j,o⟩:=h.2 (by rw[<-e1];exact b);refine⟨by rw[e2];exact f,CI hs.length_le i,j.sublist hs,λa d=>?_⟩;have hq:=o a (hs.subset d);rw[e3];rcases (show s.mover=0\/s.mover=1 by omega)with e|e
  ·rw[e]at hq ⊢;exact MS.2 (k0 a d (MS.1 hq))
  ·rw[e]at hq ⊢;obtain⟨r1,p⟩:=MT.1 hq;obtain⟨t1,r⟩:=k1 a d p r1;exact MT.2 ⟨r,t1⟩
theorem Zbp(s:St)(h:(aT s 0).2.2=0):(i5 (s.s0.aY-1)=true/\aT s 0=({ s with s0:={ s.s0 with aY:=s.s0.aY-1 } },⟨3,0,-1,0,0,0,[]⟩,0)) \/
  (∃c l,s.s0.az=c::l/\aT s 0=({ s with s0:={ s.s0 with az:=l,ao:=s.s0.ao++[c],told:=s.s0.told++[c] },s1:={ s.s1 with told:=s.s1.told++[c] } },⟨4,0,c,0,0,0,[]⟩,0))\/(∃c l,s.s0.az=c::l/\s.s0.hand.length<10/\aT s 0=({ s with s0:={ s.s0 with az:=l,hand:=s.s0.hand++[c],told:=s.s0.told++[c] } },⟨3,0,c,0,0,0,[]⟩,0)):=by
 cases hd:s.s0.az with
 |nil=>
  have e:aT s 0=if i5 (s.s0.aY-1)then ({ s with s0:={ s.s0 with aY:=s.s0.aY-1 } },⟨3,0,-1,0,0,0,[]⟩,0)else (eG,mr,171):=by
   show (match s.s0.az with | []=>_|c::l=>_)=_;rw[hd];rfl
  grind
 |cons c l=>
  right;by_cases b:10<=s.s0.hand.length
  ·left;refine⟨c,l,rfl,?_⟩;show (match s.s0.az with | []=>_|c::l=>_)=_;rw[hd];show (if 10<=s.s0.hand.length then _ else _)=_;rw[aE b];rfl
  ·right;refine⟨c,l,rfl,by omega,?_⟩;show (match s.s0.az with | []=>_|c::l=>_)=_;rw[hd];show (if 10<=s.s0.hand.length then _ else _)=_;rw[aB b];rfl
theorem Xcw{b:Bk}{s:St}(hM:cc b s)(h:(aT s 0).2.2=0)(g0:s.s0.ao.length<1000000)(t0:s.s0.told.length<1000000)(t1:s.s1.told.length<1000000):cc b (aT s 0).1/\Xj (aT s 0).1=Xj s:=by
 have S:=hM.s0;rcases Zbp s h with ⟨j,e⟩|⟨c,l,hd,e⟩|⟨c,l,hd,o,e⟩
 ·rw[e];refine⟨⟨hM.hd,⟨j,S.aW,S.most,S.az,S.hand,S.ao,S.told,S.af⟩,hM.s1,hM.un,hM.at_⟩,rfl⟩
 ·rw[e];have f:=S.az;rw[hd]at f;obtain⟨d1,d⟩:=QT f;have i:s.s0.az.length=l.length+1:=by rw[hd];rfl
  refine⟨⟨hM.hd,⟨S.aY,S.aW,S.most,d1,S.hand,Zr S.ao d (by omega),Zr S.told d (by omega),S.af⟩,⟨hM.s1.aY,hM.s1.aW,hM.s1.most,hM.s1.az,hM.s1.hand,hM.s1.ao,Zr hM.s1.told d (by omega),hM.s1.af⟩,hM.un,hM.at_⟩,by simp[Xj,i];omega⟩
 ·rw[e];have f:=S.az;rw[hd]at f;obtain⟨d1,d⟩:=QT f;have i:s.s0.az.length=l.length+1:=by rw[hd];rfl
  refine⟨⟨hM.hd,⟨S.aY,S.aW,S.most,d1,Zr S.hand d (by omega),S.ao,Zr S.told d (by omega),S.af⟩,hM.s1,hM.un,hM.at_⟩,by simp[Xj,i];omega⟩
theorem Ybp(s:St)(h:(aT s 1).2.2=0):(i5 (s.s1.aY-1)=true/\aT s 1=({ s with s1:={ s.s1 with aY:=s.s1.aY-1 } },⟨3,1,-1,0,0,0,[]⟩,0)) \/
  (∃c l,s.s1.az=c::l/\aT s 1=({ s with s1:={ s.s1 with az:=l,ao:=s.s1.ao++[c],told:=s.s1.told++[c] },s0:={ s.s0 with told:=s.s0.told++[c] } },⟨4,1,c,0,0,0,[]⟩,0))\/(∃c l,s.s1.az=c::l/\s.s1.hand.length<10/\aT s 1=({ s with s1:={ s.s1 with az:=l,hand:=s.s1.hand++[c],told:=s.s1.told++[c] } },⟨3,1,c,0,0,0,[]⟩,0)):=by
 cases hd:s.s1.az with
 |nil=>
  have e:aT s 1=if i5 (s.s1.aY-1)then ({ s with s1:={ s.s1 with aY:=s.s1.aY-1 } },⟨3,1,-1,0,0,0,[]⟩,0)else (eG,mr,171):=by
   show (match s.s1.az with | []=>_|c::l=>_)=_;rw[hd];rfl
  grind
 |cons c l=>
  right;by_cases b:10<=s.s1.hand.length
  ·left;refine⟨c,l,rfl,?_⟩;show (match s.s1.az with | []=>_|c::l=>_)=_;rw[hd];show (if 10<=s.s1.hand.length then _ else _)=_;rw[aE b];rfl
  ·right;refine⟨c,l,rfl,by omega,?_⟩;show (match s.s1.az with | []=>_|c::l=>_)=_;rw[hd];show (if 10<=s.s1.hand.length then _ else _)=_;rw[aB b];rfl
theorem Qcw{b:Bk}{s:St}(hM:cc b s)(h:(aT s 1).2.2=0)(g0:s.s1.ao.length<1000000)(t0:s.s0.told.length<1000000)(t1:s.s1.told.length<1000000):cc b (aT s 1).1/\Xj (aT s 1).1=Xj s:=by
 have S:=hM.s1;rcases Ybp s h with ⟨j,e⟩|⟨c,l,hd,e⟩|⟨c,l,hd,o,e⟩
 ·rw[e];refine⟨⟨hM.hd,hM.s0,⟨j,S.aW,S.most,S.az,S.hand,S.ao,S.told,S.af⟩,hM.un,hM.at_⟩,rfl⟩
 ·rw[e];have f:=S.az;rw[hd]at f;obtain⟨d1,d⟩:=QT f;have i:s.s1.az.length=l.length+1:=by rw[hd];rfl
  refine⟨⟨hM.hd,⟨hM.s0.aY,hM.s0.aW,hM.s0.most,hM.s0.az,hM.s0.hand,hM.s0.ao,Zr hM.s0.told d (by omega),hM.s0.af⟩,⟨S.aY,S.aW,S.most,d1,S.hand,Zr S.ao d (by omega),Zr S.told d (by omega),S.af⟩,hM.un,hM.at_⟩,by simp[Xj,i];omega⟩
 ·rw[e];have f:=S.az;rw[hd]at f;obtain⟨d1,d⟩:=QT f;have i:s.s1.az.length=l.length+1:=by rw[hd];rfl
  refine⟨⟨hM.hd,hM.s0,⟨S.aY,S.aW,S.most,d1,Zr S.hand d (by omega),S.ao,Zr S.told d (by omega),S.af⟩,hM.un,hM.at_⟩,by simp[Xj,i];omega⟩
theorem YbD{b:Bk}(h:Qv b n u=true):Qv b (n+1) u=true:=by
 simp only[Qv,AA,fe]at h ⊢
 grind
theorem XdP{b:Bk}(h:Qv b n u=true):u.id<n:=by
 simp_all [Qv]
theorem XcY{b:Bk}{s:St}(h:OZ b s):s.next∉(s.s0.af++s.s1.af).map Th.id:=by
 intro d;obtain⟨u,f,e⟩:=By.1 d;have:=XdP (h.1 u f);omega
theorem XdJ{v:Th}(h:l[k]?=some u)(e:v.id=u.id):(l.set k v).map Th.id=l.map Th.id:=by
 rw[Ga,e];have b:k<l.length:=(eS h).1;have h2:(l.map Th.id)[k]?=some u.id:=by rw[Ba,h];rfl
 obtain⟨d,h3⟩:=eS h2;rw[<-h3,List.set_getElem_self]
theorem PB(h:l[k]?=some u)(ha:a∈l.map Th.id)(cC:a≠u.id):a∈(l.eraseIdx k).map Th.id:=by
 obtain⟨v,d,rfl⟩:=By.1 ha;obtain⟨b,f⟩:=eS h;obtain⟨i,w,j,o,p,e3⟩:=YcK l k b;simp_all
theorem ZcZ(h0:0<=n)(h1:n<13835058055282163712)(h:i5 (AF.wrap n)=true):0<=AF.wrap n:=by
 grind [LC,LD,wG]
theorem XeK(n:Int):AF.wrap n<9223372036854775808:=by
 grind [LC,IntKind.signed,LD]
theorem Ydh(n:Int):0<=jX n/\jX n<=4000000:=by unfold jX;omega
theorem Za7{b:Bk}{s:St}(hM:cc b s)(h:YZ b s 0 c=false):cc b (Qy s 0 c)/\Xj (Qy s 0 c)=Xj s+1:=by
 simp only[YZ,Ct,pI]at h;obtain⟨⟨⟨⟨h1,h2⟩,h3⟩,h4⟩,h5⟩:=h;have h4:¬7<=(s.s0.af.length:Int):=h4;obtain⟨d1,o,f,i,p,r,w,x,y,d10,d11⟩:=hM.hd;have hnx:=XcY hM.un;have S:=hM.s0;refine⟨⟨⟨d1,o,f,i,p,r,w,x,y,by show 1<=s.next+1;omega,by show s.next+1<=1000000;omega⟩,⟨S.aY,S.aW,S.most,S.az,S.hand,S.ao,S.told,by show (s.s0.af++[_]).length<=7;simp;omega⟩,hM.s1,⟨?_,?_⟩,?_⟩,?_⟩
 ·intro u d;show Qv b (s.next+1) u=true;have d:u∈s.s0.af++s.s1.af\/u=(⟨s.next,c,0,true⟩:Th):=by
   have:u∈(s.s0.af++[(⟨s.next,c,0,true⟩:Th)])++s.s1.af:=d
   grind
  rcases d with d|rfl
  ·exact YbD (hM.un.1 u d)
  ·have z:c.toNat<b.aj.length:=by omega
   simp only[Qv,AA,fe]
   grind
 ·have e:((Qy s 0 c).s0.af++(Qy s 0 c).s1.af).map Th.id=s.s0.af.map Th.id++s.next::s.s1.af.map Th.id:=by
   show ((s.s0.af++[(⟨s.next,c,0,true⟩:Th)])++s.s1.af).map Th.id=_;simp
  rw[e,IT.nodup_iff,EX];rw[<-A8];exact⟨hnx,hM.un.2⟩
 ·refine Ie hM.at_ ⟨f,i⟩ rfl rfl rfl (EE _) (λa _ j=>?_) (λa _ j A=>⟨?_,?_⟩)
  ·show a∈(s.s0.af++[_]).map Th.id;simp_all
  ·exact j
  ·show a∉(s.s0.af++[_]).map Th.id;grind
 ·show ((s.s0.az.length:Int)+s.s0.hand.length+s.s0.ao.length+(s.s0.af++[(⟨s.next,c,0,true⟩:Th)]).length)+(s.s1.az.length+s.s1.hand.length+s.s1.ao.length+s.s1.af.length)=_;simp[Xj];omega
theorem Ya7{b:Bk}{s:St}(hM:cc b s)(h:YZ b s 1 c=false):cc b (Qy s 1 c)/\Xj (Qy s 1 c)=Xj s+1:=by
 simp only[YZ,Ct,pI]at h;obtain⟨⟨⟨⟨h1,h2⟩,h3⟩,h4⟩,h5⟩:=h;have h4:¬7<=(s.s1.af.length:Int):=h4;obtain⟨d1,o,f,i,p,r,w,x,y,d10,d11⟩:=hM.hd;have hnx:=XcY hM.un;have S:=hM.s1;refine⟨⟨⟨d1,o,f,i,p,r,w,x,y,by show 1<=s.next+1;omega,by show s.next+1<=1000000;omega⟩,hM.s0,⟨S.aY,S.aW,S.most,S.az,S.hand,S.ao,S.told,by show (s.s1.af++[_]).length<=7;simp;omega⟩,⟨?_,?_⟩,?_⟩,?_⟩
 ·intro u d;show Qv b (s.next+1) u=true;have d:u∈s.s0.af++s.s1.af\/u=(⟨s.next,c,0,true⟩:Th):=by
   have:u∈s.s0.af++(s.s1.af++[(⟨s.next,c,0,true⟩:Th)]):=d
   grind
  rcases d with d|rfl
  ·exact YbD (hM.un.1 u d)
  ·have A:c.toNat<b.aj.length:=by omega
   simp only[Qv,AA,fe]
   grind
 ·have e:((Qy s 1 c).s0.af++(Qy s 1 c).s1.af).map Th.id=(s.s0.af++s.s1.af).map Th.id++s.next::[]:=by
   show (s.s0.af++(s.s1.af++[(⟨s.next,c,0,true⟩:Th)])).map Th.id=_;simp
  rw[e,IT.nodup_iff,EX];rw[DR];exact⟨hnx,hM.un.2⟩
 ·refine Ie hM.at_ ⟨f,i⟩ rfl rfl rfl (EE _) (λa _ j=>?_) (λa _ j z=>⟨?_,?_⟩)
  ·exact j
  ·show a∈(s.s1.af++[_]).map Th.id;simp_all
  ·exact z
 ·show ((s.s0.az.length:Int)+s.s0.hand.length+s.s0.ao.length+s.s0.af.length)+(s.s1.az.length+s.s1.hand.length+s.s1.ao.length+(s.s1.af++[(⟨s.next,c,0,true⟩:Th)]).length)=_;simp[Xj];omega
theorem ZbD{b:Bk}(k:Qv b n u=true)(h0:0<=h)(h1:h<=1000000):Qv b n { u with harm:=h }=true:=by
 simp only[Qv,AA,fe]at k ⊢
 grind
theorem Qba{b:Bk}(k:Qv b n u=true):0<=u.harm/\u.harm<=1000000:=by
 simp_all [Qv]
theorem ZcR{v:Th}(h:u∈l.set k v):u∈l\/u=v:=List.mem_or_eq_of_mem_set h
theorem ZcF{b:Bk}{s:St}(hM:cc b s)(hk:s.s0.af[k]?=some u)(h0:0<=h)(h1:h<=1000000):cc b { s with s0:={ s.s0 with af:=s.s0.af.set k { u with harm:=h } } }/\Xj { s with s0:={ s.s0 with af:=s.s0.af.set k { u with harm:=h } } }=Xj s:=by
 have S:=hM.s0;have j:u∈s.s0.af:=Au hk;have f:(s.s0.af.set k { u with harm:=h }).map Th.id=s.s0.af.map Th.id:=XdJ hk rfl;have N:gp b { s.s0 with af:=s.s0.af.set k { u with harm:=h } }:=⟨S.aY,S.aW,S.most,S.az,S.hand,S.ao,S.told,by show (s.s0.af.set k _).length<=7;rw[Fu];exact S.af⟩;refine⟨⟨hM.hd,N,hM.s1,⟨λv d=>?_,?_⟩,?_⟩,?_⟩
 ·have d:v∈(s.s0.af.set k { u with harm:=h })++s.s1.af:=d;rcases Bd.1 d with d|d
  ·rcases ZcR d with d|rfl;exact hM.un.1 v (DS _ d);exact ZbD (hM.un.1 u (DS _ j)) h0 h1
  ·exact hM.un.1 v (DO _ d)
 ·have e:((s.s0.af.set k { u with harm:=h })++s.s1.af).map Th.id=(s.s0.af++s.s1.af).map Th.id:=by rw[A8,A8,f]
  show (((s.s0.af.set k { u with harm:=h })++s.s1.af).map Th.id).Nodup;rw[e];exact hM.un.2
 ·refine Ie hM.at_ ⟨hM.hd.2.2.1,hM.hd.2.2.2.1⟩ rfl rfl rfl (EE _) (λa _ i=>?_) (λa _ i o=>⟨?_,?_⟩)
  ·show a∈(s.s0.af.set k _).map Th.id;rw[f];exact i
  ·exact i
  ·show a∉(s.s0.af.set k _).map Th.id;rw[f];exact o
 ·simp[Xj]
theorem Qbt{b:Bk}{s:St}(hM:cc b s)(hw:i5 n=true):cc b { s with s0:={ s.s0 with aY:=n } }/\Xj { s with s0:={ s.s0 with aY:=n } }=Xj s:=by
 have S:=hM.s0;exact⟨⟨hM.hd,⟨hw,S.aW,S.most,S.az,S.hand,S.ao,S.told,S.af⟩,hM.s1,hM.un,hM.at_⟩,rfl⟩
theorem Zct{b:Bk}{s:St}(hM:cc b s)(hk:s.s0.af[k]?=some u)(hg:s.s0.ao.length<1000000) :
  cc b { s with an:=cj u.id s.an,s0:={ s.s0 with af:=s.s0.af.eraseIdx k,ao:=s.s0.ao++[u.card] } }/\Xj { s with an:=cj u.id s.an,s0:={ s.s0 with af:=s.s0.af.eraseIdx k,ao:=s.s0.ao++[u.card] } }=Xj s:=by
 have S:=hM.s0;have o:u∈s.s0.af:=Au hk;have p:k<s.s0.af.length:=(eS hk).1;have i:=F7 s.s0.af k;have hlen:(s.s0.af.eraseIdx k).length=s.s0.af.length-1:=E2 p;have r:=OB (hM.un.1 u (DS _ o));have N:gp b { s.s0 with af:=s.s0.af.eraseIdx k,ao:=s.s0.ao++[u.card] }:=⟨S.aY,S.aW,S.most,S.az,S.hand,Zr S.ao ⟨r.1,by omega⟩ (by omega),S.told,by show (s.s0.af.eraseIdx k).length<=7;have:=S.af;omega⟩;refine⟨⟨hM.hd,N,hM.s1,⟨λv d=>?_,?_⟩,?_⟩,?_⟩
 ·have d:v∈(s.s0.af.eraseIdx k)++s.s1.af:=d;rcases Bd.1 d with d|d
  ·exact hM.un.1 v (DS _ (i.subset d))
  ·exact hM.un.1 v (DO _ d)
 ·refine hM.un.2.sublist (HC _ ?_);exact i.append (EE _)
 ·refine Ie hM.at_ ⟨hM.hd.2.2.1,hM.hd.2.2.2.1⟩ rfl rfl rfl Hq (λa f j=>?_) (λa f j w=>⟨?_,?_⟩)
  ·have f:a∈cj u.id s.an:=f;simp only[cj,K8]at f;exact PB hk j (by simpa using f.2)
  ·exact j
  ·intro hq;exact w ((i.map Th.id).subset hq)
 ·have:0<s.s0.af.length:=by omega
  simp only[Xj,hlen,AT,EJ];omega
theorem YcF{b:Bk}{s:St}(hM:cc b s)(hk:s.s1.af[k]?=some u)(h0:0<=h)(h1:h<=1000000):cc b { s with s1:={ s.s1 with af:=s.s1.af.set k { u with harm:=h } } }/\Xj { s with s1:={ s.s1 with af:=s.s1.af.set k { u with harm:=h } } }=Xj s:=by
 have S:=hM.s1;have j:u∈s.s1.af:=Au hk;have i:(s.s1.af.set k { u with harm:=h }).map Th.id=s.s1.af.map Th.id:=XdJ hk rfl;have N:gp b { s.s1 with af:=s.s1.af.set k { u with harm:=h } }:=⟨S.aY,S.aW,S.most,S.az,S.hand,S.ao,S.told,by show (s.s1.af.set k _).length<=7;rw[Fu];exact S.af⟩;refine⟨⟨hM.hd,hM.s0,N,⟨λv d=>?_,?_⟩,?_⟩,?_⟩
 ·have d:v∈s.s0.af++(s.s1.af.set k { u with harm:=h }):=d;rcases Bd.1 d with d|d
  ·exact hM.un.1 v (DS _ d)
  ·rcases ZcR d with d|rfl;exact hM.un.1 v (DO _ d);exact ZbD (hM.un.1 u (DO _ j)) h0 h1
 ·have e:(s.s0.af++(s.s1.af.set k { u with harm:=h })).map Th.id=(s.s0.af++s.s1.af).map Th.id:=by rw[A8,A8,i]
  show ((s.s0.af++(s.s1.af.set k { u with harm:=h })).map Th.id).Nodup;rw[e];exact hM.un.2
 ·refine Ie hM.at_ ⟨hM.hd.2.2.1,hM.hd.2.2.2.1⟩ rfl rfl rfl (EE _) (λa _ f=>?_) (λa _ f o=>⟨?_,?_⟩)
  ·exact f
  ·show a∈(s.s1.af.set k _).map Th.id;rw[i];exact f
  ·exact o
 ·simp[Xj]
theorem Zbu{b:Bk}{s:St}(hM:cc b s)(hw:i5 n=true):cc b { s with s1:={ s.s1 with aY:=n } }/\Xj { s with s1:={ s.s1 with aY:=n } }=Xj s:=by
 have S:=hM.s1;exact⟨⟨hM.hd,hM.s0,⟨hw,S.aW,S.most,S.az,S.hand,S.ao,S.told,S.af⟩,hM.un,hM.at_⟩,rfl⟩
theorem Yct{b:Bk}{s:St}(hM:cc b s)(hk:s.s1.af[k]?=some u)(hg:s.s1.ao.length<1000000) :
  cc b { s with an:=cj u.id s.an,s1:={ s.s1 with af:=s.s1.af.eraseIdx k,ao:=s.s1.ao++[u.card] } }/\Xj { s with an:=cj u.id s.an,s1:={ s.s1 with af:=s.s1.af.eraseIdx k,ao:=s.s1.ao++[u.card] } }=Xj s:=by
 have S:=hM.s1;have o:u∈s.s1.af:=Au hk;have p:k<s.s1.af.length:=(eS hk).1;have j:=F7 s.s1.af k;have hlen:(s.s1.af.eraseIdx k).length=s.s1.af.length-1:=E2 p;have r:=OB (hM.un.1 u (DO _ o));have N:gp b { s.s1 with af:=s.s1.af.eraseIdx k,ao:=s.s1.ao++[u.card] }:=⟨S.aY,S.aW,S.most,S.az,S.hand,Zr S.ao ⟨r.1,by omega⟩ (by omega),S.told,by show (s.s1.af.eraseIdx k).length<=7;have:=S.af;omega⟩;refine⟨⟨hM.hd,hM.s0,N,⟨λv d=>?_,?_⟩,?_⟩,?_⟩
 ·have d:v∈s.s0.af++(s.s1.af.eraseIdx k):=d;rcases Bd.1 d with d|d
  ·exact hM.un.1 v (DS _ d)
  ·exact hM.un.1 v (DO _ (j.subset d))
 ·refine hM.un.2.sublist (HC _ ?_);exact(EE _).append j
 ·refine Ie hM.at_ ⟨hM.hd.2.2.1,hM.hd.2.2.2.1⟩ rfl rfl rfl Hq (λa f i=>?_) (λa f i w=>⟨?_,?_⟩)
  ·exact i
  ·have f:a∈cj u.id s.an:=f;simp only[cj,K8]at f;exact PB hk i (by simpa using f.2)
  ·exact w
 ·have:0<s.s1.af.length:=by omega
  simp only[Xj,hlen,AT,EJ];omega
theorem XbV{b:Bk}{s:St}(id:Int)(hM:cc b s)(g0:s.s0.ao.length<1000000)(g1:s.s1.ao.length<1000000) :
  cc b (Yp s id).1/\Xj (Yp s id).1=Xj s/\(Yp s id).1.s0.ao.length<=s.s0.ao.length+1/\(Yp s id).1.s1.ao.length<=s.s1.ao.length+1:=by
 unfold Yp;cases f:gk s.s0.af id with
 |some k=>
  obtain⟨u,d,e⟩:=ZO f;simp only[d,Cw];subst e;obtain⟨h1,h2⟩:=Zct hM d g0;exact⟨h1,h2,by simp,by simp⟩
 |none=>
  cases i:gk s.s1.af id with
  |some k=>
   obtain⟨u,d,e⟩:=ZO i;simp only[d,Cw];subst e;obtain⟨h1,h2⟩:=Yct hM d g1;exact⟨h1,h2,by simp,by simp⟩
  |none=>exact⟨hM,rfl,by simp,by simp⟩
theorem Qa5{b:Bk}:∀(ids:List Int) {s:St},cc b s->s.s0.ao.length+ids.length<=1000000->s.s1.ao.length+ids.length<=1000000->cc b (Qq ids s).1/\Xj (Qq ids s).1=Xj s
 |[],s,d,_,_=>⟨d,rfl⟩
 |id::ids,s,d,g0,g1=>by
  simp only[A1]at g0 g1;obtain⟨h1,h2,h3,h4⟩:=XbV id d (by omega) (by omega);obtain⟨k1,k2⟩:=Qa5 ids h1 (by omega) (by omega);exact⟨k1,k2.trans h2⟩
theorem Pw:∀(ids:List Int) (s:St),ids.Nodup->(∀a∈ids,a∈s.s0.af.map Th.id\/a∈s.s1.af.map Th.id)->(Qq ids s).2.length=ids.length
 |[],_,_,_=>rfl
 |id::ids,s,i,r=>by
  have f:=EX.1 i;have w:∀a∈ids,a≠id:=λa b e=>f.1 (e▸b);have key:(Yp s id).2.length=1/\∀a∈ids,a∈(Yp s id).1.s0.af.map Th.id\/a∈(Yp s id).1.s1.af.map Th.id:=by
   unfold Yp;cases j:gk s.s0.af id with
   |some k=>
    obtain⟨u,d,e⟩:=ZO j;simp only[d,Cw];refine⟨rfl,λa b=>?_⟩
    grind [PB]
   |none=>
    cases o:gk s.s1.af id with
    |some k=>
     obtain⟨u,d,e⟩:=ZO o;simp only[d,Cw];refine⟨rfl,λa b=>?_⟩
     grind [PB]
    |none=>
     grind [Vh]
  have p:=Pw ids (Yp s id).1 f.2 key.2;simp only[Qq,AT,A1,key.1,p];omega
theorem SD(b:Bk)(all:List Th):∀(l:List Th) (i:Int),(ZU b all l i).Sublist (l.map Th.id)
 |[],_=>EE _
 |u::l,i=>by
  have:=SD b all l (i+1);unfold ZU;rw[B7];split
  ·exact this.cons_cons _
  ·exact this.cons _
theorem QY{b:Bk}{s:St}(hM:cc b s):(bc b s).Nodup/\(∀a∈bc b s,a∈s.s0.af.map Th.id\/a∈s.s1.af.map Th.id)/\(bc b s).length<=14:=by
 have h0:=SD b s.s0.af s.s0.af 0;have h1:=SD b s.s1.af s.s1.af 0;have d:=hM.un.2;rw[A8]at d;have j:=h0.length_le;have o:=h1.length_le;rw[Be]at j o;have u0:=hM.s0.af;have u1:=hM.s1.af;have k:∀a,a∈uI b s.s0\/a∈uI b s.s1->a∈s.s0.af.map Th.id\/a∈s.s1.af.map Th.id:=by
  rintro a (h|h)
  ·exact .inl (h0.subset h)
  ·exact .inr (h1.subset h)
 unfold bc;by_cases i:s.mover=0
 ·rw[aE i];exact⟨d.sublist (h0.append h1),λa f=>k a (Bd.1 f),by rw[AT];show (ZU b s.s0.af s.s0.af 0).length+(ZU b s.s1.af s.s1.af 0).length<=14;omega⟩
 ·rw[aB i];exact⟨(List.perm_append_comm.nodup_iff.1 d).sublist (h1.append h0),λa f=>k a (Bd.1 f).symm,by rw[AT];show (ZU b s.s1.af s.s1.af 0).length+(ZU b s.s0.af s.s0.af 0).length<=14;omega⟩
theorem Yb9{b:Bk}{s:St}{p:Int}{j:Int->Int×Int}{f:Th->Int×Int}(hM:cc b s)(w:∀l,0<=(j l).2)(hU:∀u,0<=u.harm->u.harm<=1000000->0<=(f u).2/\(i5 (f u).1=true->0<=(f u).1))(h0:sd=0\/sd=1)(h:(gm p j f s id sd).2.2=0) :
  cc b (gm p j f s id sd).1/\Xj (gm p j f s id sd).1=Xj s/\0<=(gm p j f s id sd).2.1.n:=by
 have z:∀(x:Int),x≠0->(eG,mr,x).2.2=0->False:=λx B h=>B h;unfold gm at h ⊢;by_cases y:id=0
 ·rw[aE y]at h ⊢;unfold kZ at h ⊢;by_cases d:i5 (j (s.side sd).aY).1=true
  ·rw[aE d];rcases h0 with rfl|rfl
   ·exact⟨(Qbt hM d).1,(Qbt hM d).2,w _⟩
   ·exact⟨(Zbu hM d).1,(Zbu hM d).2,w _⟩
  simp_all
 rw[aB y]at h ⊢;by_cases C:id<0
 ·simp_all
 rw[aB C]at h ⊢;cases r:gk s.s0.af id with
 |some k=>
  obtain⟨u,i,_⟩:=ZO r;rw[r]at h;simp only[i,Cw]at h ⊢;have o:=Qba (hM.un.1 u (DS _ (Au i)));obtain⟨k1,k2⟩:=hU u o.1 o.2;unfold jH at h ⊢;by_cases d:i5 (f u).1=true
  ·rw[aE d];have:=ZcF hM i (k2 d) (wG.1 d).2;exact⟨this.1,this.2,k1⟩
  simp_all
 |none=>
  rw[r]at h;cases A:gk s.s1.af id with
  |none=>simp_all
  |some k=>
   obtain⟨u,i,_⟩:=ZO A;rw[A]at h;simp only[i,Cw]at h ⊢;have o:=Qba (hM.un.1 u (DO _ (Au i)));obtain⟨k1,k2⟩:=hU u o.1 o.2;unfold jH at h ⊢;by_cases d:i5 (f u).1=true
   ·rw[aE d];have:=YcF hM i (k2 d) (wG.1 d).2;exact⟨this.1,this.2,k1⟩
   simp_all
theorem YbL{b:Bk}{s:St}(hM:cc b s)(h0:sd=0\/sd=1)(h:(eX b s id sd n).2.2=0):cc b (eX b s id sd n).1/\Xj (eX b s id sd n).1=Xj s/\0<=(eX b s id sd n).2.1.n:=by
 refine Yb9 hM (λl=>(Ydh n).1) (λu h1 h2=>?_) h0 h;have d:0<=pV b u (jX n)/\pV b u (jX n)<9223372036854775808:=by
  unfold pV;have:=XeK (jX n-PV b u.card);omega
 grind [ZcZ]
theorem Yc7{b:Bk}{s:St}(hM:cc b s)(h0:sd=0\/sd=1)(h:(nH s id sd n).2.2=0):cc b (nH s id sd n).1/\Xj (nH s id sd n).1=Xj s/\0<=(nH s id sd n).2.1.n:=by
 have d:=Ydh n;refine Yb9 hM (λl=>d.1) (λu h1 h2=>?_) h0 h
 grind [ZcZ]
theorem w69(x:I)(τ:List U)(K:KT)(h:K (.func (.func 191) [x] []) τ):g190.u VV [x] τ K:=by
 rw[H1.e];unfold g190;dsimp only;exact Z rfl h
theorem VK(m:List I)(aY n:Int):PC 191 [.al m 0,.dq,O aY,O n] (.bw [O (AF.wrap (aY+n)),O n]):=by
 refine Xa hP g191.ok rfl rfl ?_;rw[H4.e];unfold g191;dsimp only;exact ay rfl
theorem VL(b:Bk)(m:List I)(u:Th)(aY n:Int):PC 191 [.al (.al (cf b) 0::m) 0,.al (br u) 0,O aY,O n] (.bw [O (AF.wrap (u.harm-min n u.harm)),O (min n u.harm)]):=by
 refine Xa hP g191.ok rfl rfl ?_;rw[H4.e];unfold g191;dsimp only;exact ax rfl
theorem c26(b:Bk)(hf:aN b=true)(d:Yg b.aj)(s:St)(hs:ba 2000000 s)(hm:aJ (bO b).1 b s true=true)(id sd n:Int)(h0:sd=0\/sd=1):PC 151 [dd b,bN s,O id,O sd,O n] (iH (nH s id sd n)):=
 cT hf d hs hm (show GQ 151 5 (gT 6 190) from g151.ok) g190.ok w69 g191.ok.plain id sd n h0 (λm aY=>VK m aY _) (λm u aY _ _=>VL b m u aY _)
def s8(s:St):Int:=s.an.length+(s.s0.az.length+s.s0.hand.length+s.s0.ao.length+s.s0.af.length+s.s0.told.length)+(s.s1.az.length+s.s1.hand.length+s.s1.ao.length+s.s1.af.length+s.s1.told.length)
theorem cc.le{b:Bk}{s:St}(h:cc b s):ba 1000000 s:=by
 have l:∀ {x:Sd},gp b x->mX 1000000 x:=λ{x} S=>by
  have h1:=(Ql.1 S.az).1;have h2:=(Ql.1 S.hand).1;have h3:=(Ql.1 S.ao).1;have h4:=(Ql.1 S.told).1;have h5:=S.af;exact⟨by omega,by omega,by omega,by omega,by omega⟩
 refine⟨?_,l h.s0,l h.s1⟩;by_cases d:s.phase=1
 ·have:=(h.at_.2 d).2.1;omega
 ·rw[h.at_.1 d];simp
section
variable {b:Bk} (hf:aN b=true) (bn:Yg b.aj) {s:St} (hs:ba 2000000 s) (hm:aJ (bO b).1 b s true=true)
include hf bn hs hm
end
end Go.Ah.Tz
end
section
namespace Go.Ah
def nh(D:List Deferred)(a:Act):Act:={ a with defers:=a.defers++D }
section
variable {P:Program}
theorem Da(D:List Deferred)(a:Act)(d:Option Nat)(v:Value):(nh D a).put d v=nh D (a.put d v):=by
 cases d<;>rfl
theorem TU(D:List Deferred)(a:Act):(nh D a).eval=a.eval:=by
 funext x;cases x<;>rfl
theorem SZ{ops:Array Oper}{Q Q':Exit->Act->World->Prop}(D:List Deferred)(l2:List Nat)(hn:∀a w,Q .normal a w->wpOps P ops Q' l2 (nh D a) w)(hq:∀e a w,e≠.normal->Q e a w->Q' e (nh D a) w) :
  ∀(l:List Nat) (a:Act) (w:World),wpOps P ops Q l a w->wpOps P ops Q' (l++l2) (nh D a) w
 |[],a,w,h=>hn _ _ h
 |i::rest,a,w,h=>by
  have p:LetsOut Q->LetsOut Q':=λ⟨a,w,q⟩=>⟨_,w,hq _ _ _ (by simp) q⟩;have b:=SZ D l2 hn hq rest;simp only[Cz,wpOps]at h ⊢;cases s:ops[i]? with
  |none=>simp only[s]at h ⊢;exact b _ _ h
  |some o=>
   simp only[s]at h ⊢;have x:(nh D a).tmps=a.tmps:=rfl;rw[x];split
   ·rename_i j;rw[aE j]at h;rcases h with h|⟨h1,h2⟩
    ·left;unfold Oper.wp at h ⊢;rw[TU];generalize (execOp a.eval o).run P w=r at h ⊢;cases r with
     |ok y z=>
      cases y with
      |value v=>simp only[Ge]at h ⊢;rw[Da];exact b _ _ h
      |skip=>simp only[Ge]at h ⊢;rw[Da];exact b _ _ h
      |defer d=>
       simp only[Ge]at h ⊢;rw[show ({ nh D a with defers:=d::(nh D a).defers }:Act)=nh D { a with defers:=d::a.defers } from rfl,Da];exact b _ _ h
      |enter f args=>
       simp only[Ge]at h ⊢;refine Calls.mono h (λe A k=>?_);cases e with
       |returned v=>simp only at k ⊢;rw[Da];exact b _ _ k
       |panicked c=>exact hq _ _ _ (by simp) k
       |outgrown=>exact p k
      |row row args=>
       simp only[Ge]at h ⊢;refine Rows.mono h (λv A k=>?_);rw[Da];exact b _ _ k
      |_=>exact h.elim
     |halt B z=>
      cases B with
      |panic v=>exact hq _ _ _ (by simp) h
      |_=>exact h.elim
    ·right;refine⟨?_,p h2⟩;unfold Oper.asks at h1 ⊢;rw[TU];exact h1
   ·rename_i j;rw[aB j]at h;rw[Da];exact b _ _ h
end
section
variable {P:Program} {GL:aw}
theorem OH{n:Nat}{c1 c2:Code}{m1:dB}(hc:cD P GL n c1 m1){w0:World}{L:Ln}{g:Gm}{ρ:Frame}{J:List U}{a:Act}{w:World}(r:bu GL w0 L g (hp J) w)(d:dc n g ρ a){p:eo}{x:Exit->Act->World->Prop}(h:iV P GL n m1 ρ J p)
 (hn:∀b ρ' σ' f j,g.Le b->bu GL w0 L b (hp σ') j->dc n b ρ' f->p .normal ρ' σ'->c2.wp P x f j)(hx:∀i ρ J,¬p (.exit i) ρ J)
 (hr:∀b ρ' σ' f j,g.Le b->bu GL w0 L b (hp σ') j->dc n b ρ' f->p .ret ρ' σ'->x .ret f j):(Code.seq c1 c2).wp P x a w:=by
 refine wp_seq (wp_mono (h c1 hc w0 L g a w r d) (λe f j s=>?_));cases e with
 |normal=>obtain⟨b,ρ',σ',k1,k2,k3,o⟩:=s;exact hn b ρ' σ' f j k1 k2 k3 o
 |ret=>obtain⟨b,ρ',σ',k1,k2,k3,o⟩:=s;exact hr b ρ' σ' f j k1 k2 k3 o
 |exit id=>obtain⟨b,ρ',σ',k1,k2,k3,o⟩:=s;exact(hx _ _ _ o).elim
 |_=>exact s.elim
end
end Go.Ah
end
section
namespace Go.Ah.Tz
open Go.Proofs.Tryz (prog)
set_option maxRecDepth 100000
def u_{r:Type}(A:aI r)(w x1 x2 x3:I)(J:List U)(K R:List I->List U->r):r:=
 A.wr (wS [x2] J) J λs J=>
 A.wr (Zt [.dp] [] J) J λf J=>
 A.wr (Zt [(.int .i64 0)] [] J) J λi J=>
 A.rd (Yi [x1] J) λx=>
 A.rd (Xf true 23 [x] J) λy=>
 A.wr (Zt [(.int .i64 0),(.int .i64 0),(.int .i8 0),(.bool false),(.int .i8 0),.aq,(.int .i64 0),(.int .i64 0),(.int .i64 0),(.int .i64 0),.aq,.aq,.aq,.aq,.aq,(.int .i64 0),(.int .i64 0),(.int .i64 0),.aq,.aq,.aq,.aq,.aq] [] J) J λj J=>
 A.wr (Xh 23 [j,y] J) J λ_ J=>
 A.rd (Qc 2 [j] J) λz=>
 A.rd (Xf false 1 [z] J) λB=>
 A.rd (Qn .eql false [B,(.int .i8 1)] J) λo=>
 A.gr o true (λk=>A.rd (Qc 5 [j] J) k) λC=>
 A.gr o true (λk=>A.rd (Xf false 1 [C] J) k) λD=>
 A.gr o true (λk=>A.rd (Yn [D] J) k) λE=>
 A.gr o true (λk=>A.rd (Qn .eql false [E,(.int .i64 0)] J) k) λF=>
 A.rd (Xk [o,F,(.bool false)] J) λG=>
 c8 (λk14=>
 A.test G (
 A.rd (Qc 2 [j] J) λH=>
 A.wr (Xh 1 [H,(.int .i8 0)] J) J λ_ J=>
 k14 [] J) (
 k14 [] J)) (λv15 J=>
 A.pu (Yi [w] J) λL=>
 A.dr (Xf true 2 [L] J) J λN l19 J=>
 A.dr (Xf true 23 [j] J) J λP l21 J=>
 A.dT (.call 35) [N,P] J λQ l23 J=>
 A.pu (Qn .neq false [Q,(.int .i64 0)] J) λb=>
 A.gr b false (λk=>A.pu (mi [x1] J) k) λS=>
 A.gr b false (λk=>A.pu (Yi [S] J) k) λT=>
 A.gr b false (λk=>A.pu (Qc 2 [T] J) k) λV=>
 A.gl b false (λk=>A.dr (Xf false 1 [V] J) J k) J λX l29 J=>
 A.gr b false (λk=>A.pu (Qn .eql false [X,(.int .i8 1)] J) k) λY=>
 A.gr b false (λk=>A.pu (mi [Y] J) k) λd=>
 A.gr d true (λk=>A.pu (mi [x1] J) k) λFC=>
 A.gr d true (λk=>A.pu (Yi [FC] J) k) λFG=>
 A.gr d true (λk=>A.pu (Qc 3 [FG] J) k) λFK=>
 A.gl d true (λk=>A.dr (Xf false 1 [FK] J) J k) J λFN l36 J=>
 A.gr d true (λk=>A.pu (qH .not [FN] J) k) λFQ=>
 A.gr b false (λk=>A.pu (Xk [d,FQ,(.bool false)] J) k) λFU=>
 A.pu (Xk [b,(.bool true),FU] J) λFZ=>
 A.gd (Qg [[],[0],[0,1],[],[0,1,2,3],[0,1,2,3,4],[0,1,2,3,4,5],[0,1,2,3,4,5,6],[0,1,2,3,4,5,6,7],[0,1,2,3,4,5,6,7,8],[0,1,2,3,4,5,6,7,8,9],[0,1,2,3,4,5,6,7,8,9,10],[0,1,2,3,4,5,6,7,8,9,10,11],[0,1,2,3,4,5,6,7,8,9,10,11,12],[0,1,2,3,4,5,6,7,8,9,10,11,12,13],[0,1,2,3,4,5,6,7,8,9,10,11,12,13,14],[0,1,2,3,4,5,6,7,8,9,10,11,12,13,14,15],[0,1,2,3,4,5,6,7,8,9,10,11,12,13,14,15,16],[0,1,2,3,4,5,6,7,8,9,10,11,12,13,14,15,16,17],[0,1,2,3,4,5,6,7,8,9,10,11,12,13,14,15,16,17,18],[0,1,2,3,4,5,6,7,8,9,10,11,12,13,14,15,16,17,18,19]] [([],[]),([],[]),l19,l21,l23,([],[]),([],[]),([],[]),([],[]),([],[]),l29,([],[]),([],[]),([],[]),([],[]),([],[]),l36,([],[]),([],[]),([],[]),([],[])]) <|
 A.test FZ (
 A.wr (Xh 1 [f,.dp] J) J λ_ J=>
 A.wr (Xh 1 [i,(.int .i64 170)] J) J λ_ J=>
 R [f,i] J) (
 A.rd (Qc 0 [s] J) λF9=>
 A.rd (Xf false 1 [F9] J) λGb=>
 A.rd (Qn .lss false [Gb,(.int .i64 0)] J) λp=>
 A.gr p false (λk=>A.rd (Qc 0 [s] J) k) λGl=>
 A.gr p false (λk=>A.rd (Xf false 1 [Gl] J) k) λGt=>
 A.gr p false (λk=>A.rd (Qn .gtr false [Gt,(.int .i64 1)] J) k) λGx=>
 A.rd (Xk [p,(.bool true),Gx] J) λuy=>
 A.test uy (
 A.wr (Xh 1 [f,.dp] J) J λ_ J=>
 A.wr (Xh 1 [i,(.int .i64 2)] J) J λ_ J=>
 R [f,i] J) (
 K [w,x1,x3,s,f,i] J)))
def k1:Code->Code
 |.seq a _=>a
 |c=>c
def k2:Code->Code
 |.seq _ b=>b
 |c=>c
def MV:Code->Array Oper
 |.region _ ops _=>ops
 |_=>#[]
def b81(P:Program):Code:=match P.funcs[157]? with
 |some f=>f.body.getD .skip
 |none=>.skip
def JP(P:Program):Code:=k1 (b81 P)
def Js(P:Program):Code:=k1 (k2 (b81 P))
def Km(P:Program):Code:=k1 (k2 (k2 (b81 P)))
def J7(P:Program):Code:=k1 (k2 (k2 (k2 (b81 P))))
def tG(P:Program):Array Oper:=MV (k1 (k2 (k2 (k2 (k2 (b81 P))))))
def qF(P:Program):Array Oper:=MV (k1 (k2 (k2 (k2 (k2 (k2 (b81 P)))))))
theorem QeM:Go.Proofs.Tryz.f157.body=some (.seq (JP prog) (.seq (Js prog) (.seq (Km prog) (.seq (J7 prog) (.seq (.region 8 (tG prog) false) (.seq (.region 9 (qF prog) false) .ret)))))):=by kernel_rfl
def mP(P:Program)(c:Code):dB:=(Zy P aQ 62 c).getD .skip
theorem PH{c:Code}(h:(Zy prog aQ 62 c).isSome=true):cD prog aQ 62 c (mP prog c):=by
 unfold mP;cases e:Zy prog aQ 62 c with
 |none=>rw[e]at h;cases h
 |some m=>exact Xbm e
theorem KM:cD prog aQ 62 (JP prog) (mP prog (JP prog)):=PH (by kernel_rfl)
theorem KN:cD prog aQ 62 (Js prog) (mP prog (Js prog)):=PH (by kernel_rfl)
theorem KO:cD prog aQ 62 (Km prog) (mP prog (Km prog)):=PH (by kernel_rfl)
theorem KQ:cD prog aQ 62 (J7 prog) (mP prog (J7 prog)):=PH (by kernel_rfl)
def OX(P:Program):bL:=(fS (mP P (JP P)) []).1
def RA(P:Program):bL:=(fS (mP P (Js P)) []).1
def P_(P:Program):bL:=(fS (mP P (Km P)) [some []]).1
def Pq(P:Program):bL:=(fS (mP P (J7 P)) [none,none,none]).1
theorem QeO:(OX prog).ok=true:=by kernel_rfl
theorem ZeP:(RA prog).ok=true:=by kernel_rfl
theorem YeP:(P_ prog).ok=true:=by kernel_rfl
theorem XeP:(Pq prog).ok=true:=by kernel_rfl
theorem Qea(d x1 x2 x3:I)(f:Type)(A:aI f)(J:List U)(K R:List I->List U->f) :
  dn A (OX prog) (eH [d,x1,x2,x3]) J (λb J=>dn A (RA prog) b J (λb J=>dn A (P_ prog) b J (λb J=>dn A (Pq prog) b J (λb J=>K (iD b [0,1,3,6,8,9]) J)
   (λ_ _ _=>A.stop) (λb J=>R (iD b [8,9]) J)) (λ_ _ _=>A.stop) (λb J=>R (iD b [8,9]) J)) (λ_ _ _=>A.stop) (λb J=>R (iD b [8,9]) J)) (λ_ _ _=>A.stop) (λb J=>R (iD b [8,9]) J)
  = u_ A d x1 x2 x3 J K R:=by kernel_rfl
attribute [local irreducible] aI.rd aI.pu aI.wr aI.dr aI.gr aI.gw aI.gl aI.gd aI.opt c8 W
set_option maxHeartbeats 8000000
variable{s:St}
variable{b:Bk}
variable{e:Int}
theorem Ybv(h:aJ e b s true=true)(hp:s.phase=1):s.bq=true:=by
 simp only[aJ,AA]at h;obtain⟨_,_,_,_,_,_,_,_,_,_,_,_,_,h⟩:=h;rw[aB (by simp[hp])]at h;simp only[AA]at h;exact h.2.1
theorem Xch(h:aJ e b s true=true)(hp:s.phase=1)(ha:s.an.length=0):aJ e b { s with phase:=0 } false=true:=by
 simp only[aJ,AA]at h ⊢;obtain⟨f,i,j,o,p,A,B,r,w,d,x,y,z,h⟩:=h;refine⟨f,i,j,o,p,by simp,by simp,r,w,?_,x,y,z,?_⟩
 ·rw[hp]at d;exact d
 ·rw[aE (by simp)];simp[ha]
theorem U'(h:aJ e b s true=true)(hp:s.phase=1->s.an.length≠0):aJ e b s false=true:=by
 simp only[aJ,AA]at h ⊢;obtain⟨d,f,i,j,o,p,r,w,x,y,z,A,B,h⟩:=h;refine⟨d,f,i,j,o,p,r,w,x,y,z,A,B,?_⟩;split at h
 ·rename_i q;rw[aE q];exact h
 ·rename_i q;rw[aB q];simp only[AA]at h ⊢;exact⟨by simp[hp (by simpa using q)],h.2⟩
theorem QbP(b:Bk)(hf:aN b=true)(o:Yg b.aj)(s:St)(hs:ba 1000000000 s)(hm:aJ (bO b).1 b s true=true)(sd tg:Int)(h0:0<=sd)(h1:sd<=1)(v:I){K R:n_}
 (f:∀z,K [.al (cf b) 0,.al (aH s) 0,v,.ak 0 0,.ak 1 0,.ak 2 0] [.box [O sd,O tg],.box [.dp],.box [O 0],.box z]) :
  u_ VV (.al (cf b) 0) (.al (aH s) 0) (.agg [O sd,O tg]) (v) [] K R:=by
 unfold u_;refine ay ?_;refine TM (v1:=.ak 3 5) (v2:=aM s.an) (v3:=O s.an.length) (d:=((s.an.length:Int)==0)) (q3:=[]) rfl (ld (row:=aH s) rfl rfl) (by simp[aM,Yn]) rfl ?_;refine Zj λp r=>?_;have i:∀t:St,aJ (bO b).1 b t false=true->ba 1000000000 t->p [] [.box [O sd,O tg],.box [.dp],.box [O 0],.box (aH t)]:=by
  intro t w x;have j:=c55 b hf o t x;rw[w]at j;subst r;refine ay ?_;refine YX j g35.ok ?_;refine ay ?_;refine ZX ?_;refine ay ?_;rcases cE (s.phase==1)with h|h
  ·rw[h];refine ay ?_;refine ZX ?_;refine ay ?_;rw[Ybv hm (by simpa using h)];refine ay ?_;rw[show decide (sd<0)=false from i7 (by omega)];refine Xb (Z rfl (Xb (Z (ld (row:=[O sd,O tg]) (v:=O sd) rfl rfl) (Xb (Z (v:=.bool (decide (sd>1))) rfl ?_)))));rw[show decide (sd>1)=false from i7 (by omega)];exact Z rfl (Yf (f _))
  ·rw[h];refine ay ?_;refine HY rfl ?_;refine ay ?_;rw[show decide (sd<0)=false from i7 (by omega)];refine Xb (Z rfl (Xb (Z (ld (row:=[O sd,O tg]) (v:=O sd) rfl rfl) (Xb (Z (v:=.bool (decide (sd>1))) rfl ?_)))));rw[show decide (sd>1)=false from i7 (by omega)];exact Z rfl (Yf (f _))
 rcases cE ((s.phase==1)&&((s.an.length:Int)==0))with hq|hq
 ·rw[hq];simp only[AA,beq_iff_eq]at hq;exact ay (i { s with phase:=0 } (Xch hm hq.1 (by omega)) ⟨hs.an,hs.s0,hs.s1⟩)
 ·rw[hq];exact Yf (i s (U' hm (λhp e=>by simp[hp,e]at hq)) hs)
end Go.Ah.Tz
end
