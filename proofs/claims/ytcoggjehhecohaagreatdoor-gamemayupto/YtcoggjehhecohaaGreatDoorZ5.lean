/- Part of the proof of GameMay, for arguments of at most 1048576 values and letters together. -/
import Derived.Test.YtcoggjehhecohaaGreatDoorZ4
set_option linter.all false
open Bool renaming and_eq_true->AA,and_true->DZ,eq_iff_iff->C6,or_eq_false_iff->Ct
open False renaming elim->Gu
open Go.Act renaming eval->L4,put->HG
open Go.Calls renaming mono->Gz
open Go.Deferred renaming ofValue->GA
open Go.IntKind renaming i64->AF
open Go.IntWalk renaming i64_in->Bb
open Go.Oper renaming wp->MB
open Go.Sem renaming run_pure->Ak
open Int renaming le_refl->FW
open List renaming append_assoc->Cp,append_nil->DR,drop_zero->GG,eraseIdx_sublist->F7,getElem?_eq_getElem->Cv,getElem?_map->Ba,getElem?_set_self->CJ,getElem_mem->AI,getElem_of_mem->FA,length_append->AT,length_cons->A1,length_eq_zero_iff->Ck,length_map->Be,length_nil->Cb,length_take->EM,map_append->A8,map_cons->B7,map_nil->E4,mem_append->Bd,mem_append_left->DS,mem_append_right->DO,mem_cons->Az,mem_map->By,mem_of_getElem?->Au,mem_singleton->D1,nodup_cons->EX,range->Ao,range'->ED,replicate->CD,set_set->GW,take_append_drop->F5,take_append_of_le_length->FP,take_left->Gw,take_length->C5,take_of_length_le->DN
open List.Pairwise renaming imp_of_mem->Mk
open List.Sublist renaming refl->EE
open List.cons renaming injEq->Fc
open List.range renaming loop->B0
open Nat renaming add_assoc->EG,add_zero->FF,beq->AJ,ble->BY,ble_eq_true_of_le->AH,blt->C3,le_refl->AO,le_trans->CI,lt_of_lt_of_le->Er,zero_add->Al
open SizeOf renaming sizeOf->B3
open UInt8 renaming ofNat->Hb
section
namespace Go.Ah.Tz
open Go.Proofs.Tryz (prog)
set_option maxRecDepth 100000
set_option maxHeartbeats 4000000
theorem AQ(p q:Value)(w:World):CallsD prog 193 #[p,q] .returning w λe b d=>e=.returned (.tuple #[])/\b=.returning/\d=w:=by
 refine callsD_of_wpS Go.Proofs.Tryz.func193 rfl λc₀ f hu=>?_;apply wpS_seq;apply wpS_region;simp[wpOpsS,go_sem,recoverD,hu,Go.Proofs.Tryz.ntmps193,Exit.thenS];refine wpS_cond (t:=false) (by simp[L4,HG,Array.replicate]) ?_;simp only[Bool.false_eq_true,if_false];refine wpS_of_wp (wp_skip ?_);cases c₀;simp_all [bodyPostS,results,HG,Go.Proofs.Tryz.results193]
def kG(l:Program->Array Oper)(i:Nat)(P:Program):Oper:=((l P)[i]?).getD default
theorem Nl:(tG prog).size=2:=by kernel_rfl
theorem Nn:(qF prog).size=9:=by kernel_rfl
theorem Pr:(tG prog)[0]?=some (kG tG 0 prog)/\(kG tG 0 prog).op=.makeFunc (.func 193) #[] #[.tmp 8,.tmp 9]/\(kG tG 0 prog).dst=some 54/\(kG tG 0 prog).guard=none:=⟨by kernel_rfl,by kernel_rfl,by kernel_rfl,by kernel_rfl⟩
theorem OY:(tG prog)[1]?=some (kG tG 1 prog)/\(kG tG 1 prog).op=.defer ⟨.value (.tmp 54),#[],#[]⟩/\(kG tG 1 prog).dst=none/\(kG tG 1 prog).guard=none:=⟨by kernel_rfl,by kernel_rfl,by kernel_rfl,by kernel_rfl⟩
theorem RC:(qF prog)[6]?=some (kG qF 6 prog)/\(∃b,(kG qF 6 prog).op=.call ⟨.invoke (.tmp 55) "baize/value.ask",#[.tmp 60],b⟩)/\(kG qF 6 prog).dst=some 61/\(kG qF 6 prog).guard=none:=⟨by kernel_rfl,⟨match (kG qF 6 prog).op with | .call c=>c.argTypes|_=>#[],by kernel_rfl⟩,by kernel_rfl,by kernel_rfl⟩
theorem Dx(v:Value)(args:Array Value)(w:World):(callMethod (.iface 240 v) "baize/value.ask" args).run prog w=.ok (.enter 261 (#[v]++args)) w:=by kernel_rfl
theorem Dy(v:Value)(args:Array Value)(w:World):(callMethod (.iface 244 v) "baize/value.ask" args).run prog w=.ok (.enter 279 (#[v]++args)) w:=by kernel_rfl
def I2(P:Program):List aV:=(mapM' (Jx P aQ 62 (qF P).toList) ((qF P).toList.take 6)).getD []
def I3(P:Program):List aV:=(mapM' (Jx P aQ 62 (qF P).toList) ((qF P).toList.drop 7)).getD []
theorem Xdy:(I2 prog).length=6:=by kernel_rfl
theorem Qdy:(I3 prog).length=2:=by kernel_rfl
variable{n rb:Nat}
theorem Yce{b:Type}{o:Option (List b)}(h:(o.getD []).length=n+1):o=some (o.getD []):=by
 cases o with
 |none=>cases h
 |some a=>rfl
theorem QeX(j:Nat)(m:aV)(e:(I2 prog)[j]?=some m):∃o,(qF prog)[0+j]?=some o/\fZ prog aQ 62 (qF prog) o m:=by
 obtain⟨h1,h2⟩:=Ri (Yce (n:=5) Xdy);obtain⟨o,k1,k2⟩:=h2 j m e;refine⟨o,?_,SH k2⟩;rw[List.getElem?_take]at k1;split at k1
 ·simpa using k1
 ·cases k1
theorem ZeY(j:Nat)(m:aV)(e:(I3 prog)[j]?=some m):∃o,(qF prog)[7+j]?=some o/\fZ prog aQ 62 (qF prog) o m:=by
 obtain⟨h1,h2⟩:=Ri (Yce (n:=1) Qdy);obtain⟨o,k1,k2⟩:=h2 j m e;refine⟨o,?_,SH k2⟩;rw[List.getElem?_drop]at k1;simpa using k1
theorem d9a(b x1 x3 t6 t8 t9 f:I)(d:Type)(A:aI d)(J:List U)(K:List I->List U->d) :
  jx A (I2 prog) [(54,f),(0,b),(1,x1),(3,x3),(6,t6),(8,t8),(9,t9)] J (λi J=>K (iD i [55,60,8,9]) J) =
  A.rd (Xf true 2 [t6] J) λt58=>A.rd (XJ [.dq,.dq,.int .i64 0,.int .i64 0] [(0,1),(1,1),(2,2)] [b,x1,t58] J) λt59=>A.wr (wS [t59] J) J λt60 J=>K [x3,t60,t8,t9] J:=by kernel_rfl
theorem d9b(t55 t60 t8 t9 y:I)(b:Type)(A:aI b)(J:List U)(K:List I->List U->b) :
  jx A (I3 prog) [(61,y),(55,t55),(60,t60),(8,t8),(9,t9)] J (λd J=>K (iD d [8,9]) J) =
  A.wr (Xh 1 [t8,y] J) J λ_ J=>A.wr (Xh 1 [t9,.int .i64 0] J) J λ_ J=>K [t8,t9] J:=by kernel_rfl
theorem r81:mu (tE prog) Go.Proofs.Tryz.f157.results.toList [.c 8 false 1,.c 9 false 1]:=Px (f:=Tg prog) QbH (by kernel_rfl)
theorem n81:Go.Proofs.Tryz.f157.ntmps=62:=by kernel_rfl
theorem U3{P:Program}{ops:Array Oper}{Q:Exit->Act->World->Prop}{i:Nat}{rest:List Nat}{a:Act}{w:World}{o:Oper}(ho:ops[i]?=some o)(hg:o.guard=none)(h:o.wp P a w (wpOps P ops Q rest) Q):wpOps P ops Q (i::rest) a w:=by
 simp_all [wpOps,Region.wanted]
def CU(K R:Frame->List U->Prop):eo
 |.normal,b,J=>K b J
 |.ret,b,J=>R b J
 |.exit _,_,_=>False
variable{J τ:List U}
theorem piece(m:bL)(hm:m.ok=true){ρ:Frame}{K R:Frame->List U->Prop}(h:dn VV m ρ J K (λ_ _ _=>VV.stop) R):iV prog aQ n m.er ρ J (CU K R):=
 Z1 hP (zH prog aQ) m (Q:=CU K R) hm (λ_ _ _ h=>h) (λ_ _ _ _ h=>h) (λ_ _ _ h=>h) h
theorem KL(p st:List I)(sd tg:Int)(s:TypeId)(G:FuncId)(r:List I)(j:Nat)(y:I)(hyf:y.flat=true)(hyr:y.ro=true)(hyc:cellsOf y=some [y])
 (abu:∀(v:Value) (args:Array Value) (w:World),(callMethod (.iface s v) "baize/value.ask" args).run prog w=.ok (.enter G (#[v]++args)) w)
 (hw:u_ VV (.al p 0) (.al st 0) (.agg [O sd,O tg]) (.iface s (.agg [.al r j])) [] (λH J=>H=[.al p 0,.al st 0,.iface s (.agg [.al r j]),.ak 0 0,.ak 1 0,.ak 2 0]/\∃z,J=[.box [O sd,O tg],.box [.dp],.box [O 0],.box z]) (λ_ _=>False))
 (h289:PC G [.agg [.al r j],.al [.al p 0,.al st 0,O sd,O tg] 0] y) :
  PC 157 [.al p 0,.al st 0,.agg [O sd,O tg],.iface s (.agg [.al r j])] (.bw [y,O 0]):=by
 intro w M H hM hg hx;have r0:=bu.start (GL:=aQ) w M hM hg;have hh:hp []=po:=by funext b;simp[hp,po]
 rw[<-hh]at r0;have d0:=Z7 hx (n:=62) (by simp);refine calls_of_wp_defers Go.Proofs.Tryz.func157 QeM ?_;rw[n81];rw[<-Qea]at hw;have e0:(OX prog).er=mP prog (JP prog):=ZR _ _;have C:(RA prog).er=mP prog (Js prog):=ZR _ _;have K:(P_ prog).er=mP prog (Km prog):=ZR _ _;have e3:(Pq prog).er=mP prog (J7 prog):=ZR _ _;refine OH (e0▸KM) r0 d0 (piece (OX prog) QeO hw) (λg1 ρ1 σ1 a1 w1 l1 r1 d1 Sm=>?_) (λ_ _ _ h=>h) (λ_ _ _ _ _ _ _ _ h=>Gu h);refine OH (C▸KN) r1 d1 (piece (RA prog) ZeP Sm) (λg2 ρ2 σ2 a2 w2 l2 r2 d2 hw2=>?_) (λ_ _ _ h=>h) (λ_ _ _ _ _ _ _ _ h=>Gu h);refine OH (K▸KO) r2 d2 (piece (P_ prog) YeP hw2) (λg9993 ρ3 σ3 a3 w3 l3 r3 d3 hw3=>?_) (λ_ _ _ h=>h) (λ_ _ _ _ _ _ _ _ h=>Gu h);refine OH (e3▸KQ) r3 d3 (piece (Pq prog) XeP hw3) (λg9994 ρ4 σ4 a4 D l4 r4 d4 hw4=>?_) (λ_ _ _ h=>h) (λ_ _ _ _ _ _ _ _ h=>Gu h);obtain⟨hv,z,hσ⟩:=hw4;subst hσ;simp only[iD,Fc,and_true]at hv;obtain⟨q0,q1,q3,q6,q8,q9⟩:=hv;have d5:dc 62 g9994 [(0,.al p 0),(1,.al st 0),(3,.iface s (.agg [.al r j])),(6,.ak 0 0),(8,.ak 1 0),(9,.ak 2 0)] a4:=d4.d_ (HK.le ⟨q0,q1,q3,q6,q8,q9,trivial⟩);clear d4;have le4:=((l1.trans l2).trans l3).trans l4;have k8:g9994.den (.ak 1 0) (a4.tmps.getD 8 undef):=d5.slot 8;have k9:g9994.den (.ak 2 0) (a4.tmps.getD 9 undef):=d5.slot 9;generalize hp8:a4.tmps.getD 8 undef=A at k8;generalize hp9:a4.tmps.getD 9 undef=B at k9;refine wp_seq (wp_region ?_);rw[Nl,show Ao 2=[0,1] from rfl];refine U3 Pr.1 Pr.2.2.2 ?_;unfold MB;have hmf:∀(G:Fn) (first cap:Array Value) (w:World),(Instr.makeFunc G first cap).run prog w=.ok (.func G first cap) w:=λ_ _ _ _=>rfl;have aaM:(execOp a4.eval (kG tG 0 prog)).run prog D=.ok (.value (.func (.func 193) #[] #[A,B])) D:=by
  simp_all [execOp,L4,Pr]
 rw[aaM,Oper.upon_value,Pr.2.2.1];have Ws:g9994.den (.func (.func 193) [] [.ak 1 0,.ak 2 0]) (.func (.func 193) #[] #[A,B]):=by
  refine .func _ _ _ _ _ _ rfl rfl (by simp) (λi x u C K=>?_)
  match i with
  |0=>simp at C K;subst C;subst K;exact k8
  |1=>simp at C K;subst C;subst K;exact k9
  |i+2=>simp at C
 have d6:=d5.put (d:=54) (by decide) Ws;generalize ha5:a4.put (some 54) (.func (.func 193) #[] #[A,B])=a5 at d6 ⊢;have h54:a5.tmps.getD 54 undef=.func (.func 193) #[] #[A,B]:=by
  rw[<-ha5];have ei:=d5.size;simp[HG,Array.getD,ei]
 refine U3 OY.1 OY.2.2.2 ?_;unfold MB;have dN:(execOp a5.eval (kG tG 1 prog)).run prog D=.ok (.defer { target:=.fn (.func 193) #[A,B],args:=#[] }) D:=by
  grind [execOp,resolve,L4,GA,OY,Ak]
 rw[dN,Oper.upon_defer,OY.2.2.1];have W0:({ a5 with defers:={ target:=.fn (.func 193) #[A,B],args:=#[] }::a5.defers }:Act).put none undef=nh [{ target:=.fn (.func 193) #[A,B],args:=#[] }] a5:=by
  simp[HG,nh,d6.defers]
 rw[W0];show wpOps prog (tG prog) _ [] _ D;simp only[wpOps];refine wp_seq (wp_region ?_);rw[Nn,show Ao 9=ED 0 6++(6::ED 7 2) from rfl];have aav:jx VV (I2 prog) [(54,.func (.func 193) [] [.ak 1 0,.ak 2 0]),(0,.al p 0),(1,.al st 0),(3,.iface s (.agg [.al r j])),(6,.ak 0 0),(8,.ak 1 0),(9,.ak 2 0)] [.box [O sd,O tg],.box [.dp],.box [O 0],.box z]
   (λE J=>iD E [55,60,8,9]=[.iface s (.agg [.al r j]),.ak 4 0,.ak 1 0,.ak 2 0]/\J=[.box [O sd,O tg],.box [.dp],.box [O 0],.box z,.box [.al p 0,.al st 0,O sd,O tg]]):=by
  have:=d9a (.al p 0) (.al st 0) (.iface s (.agg [.al r j])) (.ak 0 0) (.ak 1 0) (.ak 2 0) (.func (.func 193) [] [.ak 1 0,.ak 2 0]) Prop VV [.box [O sd,O tg],.box [.dp],.box [O 0],.box z]
   (λH J=>H=[.iface s (.agg [.al r j]),.ak 4 0,.ak 1 0,.ak 2 0]/\J=[.box [O sd,O tg],.box [.dp],.box [O 0],.box z,.box [.al p 0,.al st 0,O sd,O tg]])
  rw[this];exact Z (ld (row:=[O sd,O tg]) rfl rfl) (Z rfl (Qd rfl rfl ⟨rfl,rfl⟩))
 have aaw:=YS (zH prog aQ) (fl:=false) (lg:=[]) (λe=>by cases e) aav;have hlen:ED 0 6=ED 0 (I2 prog).length:=by rw[Xdy]
 rw[hlen];refine SZ (P:=prog) (Q:=λe a L=>e=.normal/\zp aQ w ⟨[],M⟩ 62 g9994 (λE J _=>iD E [55,60,8,9]=[.iface s (.agg [.al r j]),.ak 4 0,.ak 1 0,.ak 2 0]/\J=[.box [O sd,O tg],.box [.dp],.box [O 0],.box z,.box [.al p 0,.al st 0,O sd,O tg]]) a L) _ _ (λF N hq=>?_) (λe a w R hq=>(R hq.1).elim) _ a5 D
  (OA _ _ (I2 prog) 0 _ _ [] g9994 a5 D QeX aaw r4 d6 (λa' L S=>⟨rfl,?_⟩))
 ·obtain⟨_,g9995,ρ5,σ5,lg5,l5,r5,d5',hv5,aar⟩:=hq;subst aar;simp only[iD,Fc,and_true]at hv5;obtain⟨q55,q60,q8',q9'⟩:=hv5;have d7:dc 62 g9995 [(55,.iface s (.agg [.al r j])),(60,.ak 4 0),(8,.ak 1 0),(9,.ak 2 0)] F:=d5'.d_ (HK.le ⟨q55,q60,q8',q9',trivial⟩);refine U3 RC.1 RC.2.2.2 ?_;unfold MB;rw[TU];have k55:=d7.slot 55;have k60:=d7.slot 60;simp only[bM]at k55 k60;obtain⟨ts,mn⟩:=RC.2.1;generalize aad:F.tmps.getD 55 undef=p55 at k55;generalize aae:F.tmps.getD 60 undef=p60 at k60;have aat:g9995.den (.iface s (.agg [.al r j])) p55:=k55;have aau:g9995.den (.ak 4 0) p60:=k60;cases aat with
  |iface _ _ _ T MM=>
  have e60:F.eval (.tmp 60)=p60:=aae;have aaN:(execOp F.eval (kG qF 6 prog)).run prog N=.ok (.enter G #[T,p60]) N:=by
   have e55:F.eval (.tmp 55)=.iface s T:=aad;simp only[execOp,mn,resolve,e55,Sem.run_bind,Ak,Result.andThen_ok,invoke];simp_all
  rw[aaN,Oper.upon_enter];have nU:Qx [.box [O sd,O tg],.box [.dp],.box [O 0],.box z,.box [.al p 0,.al st 0,O sd,O tg]] 1000 [.agg [.al r j],.ak 4 0]=some ([.agg [.al r j],.al [.al p 0,.al st 0,O sd,O tg] 0],[4]):=rfl;have ac:=h289.rz (Q6 _ _ _ _ nU _ (λ_ q=>q)) hyf;refine Gz (ac w ⟨[],M⟩ g9995 _ N [T,p60] r5 ⟨MM,aau,trivial⟩ (λ_ _=>rfl) (λ_ h=>by cases h)) ?_;rintro e V ⟨u,rfl,g9996,l6,r6,hu⟩;show wpOps prog (qF prog) _ (ED 7 2) ((nh _ F).put (kG qF 6 prog).dst u) V;rw[RC.2.2.1,Da];have d8:=(d7.mono l6).put (d:=61) (by decide) hu;have aax:jx VV (I3 prog) [(61,y),(55,.iface s (.agg [.al r j])),(60,.ak 4 0),(8,.ak 1 0),(9,.ak 2 0)] [.box [O sd,O tg],.box [.dp],.box [O 0],.box z,.box [.al p 0,.al st 0,O sd,O tg]]
    (λE J=>iD E [8,9]=[.ak 1 0,.ak 2 0]/\J=[.box [O sd,O tg],.box [y],.box [O 0],.box z,.box [.al p 0,.al st 0,O sd,O tg]]):=by
   have:=d9b (.iface s (.agg [.al r j])) (.ak 4 0) (.ak 1 0) (.ak 2 0) y Prop VV [.box [O sd,O tg],.box [.dp],.box [O 0],.box z,.box [.al p 0,.al st 0,O sd,O tg]]
    (λH J=>H=[.ak 1 0,.ak 2 0]/\J=[.box [O sd,O tg],.box [y],.box [O 0],.box z,.box [.al p 0,.al st 0,O sd,O tg]])
   rw[this];exact Qd (cO (row:=[.dp]) rfl hyc rfl rfl) rfl (Qd (v:=.aP) (up:=[(2,.box [O 0])]) (rd:=[]) rfl rfl ⟨rfl,rfl⟩)
  have aay:=YS (zH prog aQ) (fl:=false) (lg:=[]) (λe=>by cases e) aax;rw[show ED 7 2=ED 7 (I3 prog).length++[] by rw[Qdy];rfl];refine SZ (P:=prog) (Q:=λe a L=>e=.normal/\zp aQ w ⟨[],M⟩ 62 g9996 (λE J _=>iD E [8,9]=[.ak 1 0,.ak 2 0]/\J=[.box [O sd,O tg],.box [y],.box [O 0],.box z,.box [.al p 0,.al st 0,O sd,O tg]]) a L) _ _ (λa8 w8 hq=>?_) (λe a w R hq=>(R hq.1).elim) _ _ V
   (OA _ _ (I3 prog) 7 _ _ [] g9996 _ V ZeY aay r6 d8 (λa' L S=>⟨rfl,?_⟩))
  ·obtain⟨_,g9997,ρ7,σ7,lg7,l7,r7,d9,hv7,aas⟩:=hq;subst aas;simp only[iD,Fc,and_true]at hv7;simp only[wpOps];refine wp_ret ?_;show Leaves prog Go.Proofs.Tryz.f157 a8.tmps _ (a8.defers++[{ target:=.fn (.func 193) #[A,B],args:=#[] }]) .returning w8;rw[d9.defers];refine leaves_cons (f:=193) (args:=#[A,B]) (by simp) (by rfl) ((AQ A B w8).mono ?_);rintro e u' w9 ⟨rfl,rfl,rfl⟩;have pe:iI [.c 8 false 1,.c 9 false 1] ρ7 [.box [O sd,O tg],.box [y],.box [O 0],.box z,.box [.al p 0,.al st 0,O sd,O tg]]=some (.bw [y,O 0]):=by
    simp_all [iI,px,sZ,qy]
   obtain⟨uo,AD,CA⟩:=Ii (P:=prog) r7 d9 r81 pe;refine⟨uo,AD,uo,rfl,r7.keeps,g9997.M,?_,r7.aZ,λb o e=>?_,Den.ro CA (by simp[I.ro,fV,hyr]) _⟩
   ·exact(le4.trans (l5.trans (l6.trans l7))).m
   ·rcases r7.src b o e with q|q|q<;>grind
  ·obtain⟨X,ρ',σ',Y,k1,k2,k3,k4,_⟩:=S;exact⟨X,ρ',σ',Y,k1,k2,k3,k4⟩
 ·obtain⟨X,ρ',σ',Y,k1,k2,k3,k4,_⟩:=S;exact⟨X,ρ',σ',Y,k1,k2,k3,k4⟩
theorem c81(b:Bk)(hf:aN b=true)(f:Yg b.aj)(s:St)(hs:ba 1000000000 s)(hm:aJ (bO b).1 b s true=true)(sd tg:Int)(h0:0<=sd)(h1:sd<=1)(d:List I)(j:Nat)(n:Int)
 (h289:PC 261 [.agg [.al d j],.al [.al (cf b) 0,.al (aH s) 0,O sd,O tg] 0] (.iface 3 (O n))) :
  PC 157 [.al (cf b) 0,.al (aH s) 0,.agg [O sd,O tg],.iface 240 (.agg [.al d j])] (.bw [.iface 3 (O n),O 0]):=
 KL (cf b) (aH s) sd tg 240 261 d j (.iface 3 (O n)) rfl rfl rfl Dx (QbP b hf f s hs hm sd tg h0 h1 (.iface 240 (.agg [.al d j])) λz=>⟨rfl,z,rfl⟩) h289
theorem VQ(b:Bk)(hf:aN b=true)(f:Yg b.aj)(s:St)(hs:ba 1000000000 s)(hm:aJ (bO b).1 b s true=true)(sd tg:Int)(h0:0<=sd)(h1:sd<=1)(d:List I)(j:Nat)(q:Bool)
 (h289:PC 279 [.agg [.al d j],.al [.al (cf b) 0,.al (aH s) 0,O sd,O tg] 0] (.iface 4 (.bool q))) :
  PC 157 [.al (cf b) 0,.al (aH s) 0,.agg [O sd,O tg],.iface 244 (.agg [.al d j])] (.bw [.iface 4 (.bool q),O 0]):=
 KL (cf b) (aH s) sd tg 244 279 d j (.iface 4 (.bool q)) rfl rfl rfl Dy (QbP b hf f s hs hm sd tg h0 h1 (.iface 244 (.agg [.al d j])) λz=>⟨rfl,z,rfl⟩) h289
attribute [local irreducible] aI.rd aI.pu aI.wr aI.dr aI.gr aI.gw aI.gl aI.gd aI.opt c8 W
def BG(n:Int):Int:=min (max n (-1000000)) 1000000
theorem c290(n:Int):PC 262 [O n] (O (BG n)):=by
 refine Xa hP g262.ok rfl rfl ?_;rw[H1.e];unfold g262;dsimp only;exact ay rfl
@[reducible] def asR(b:Bk)(s:St)(sd tg:Int):List I:=[.al (cf b) 0,.al (aH s) 0,O sd,O tg]
@[reducible] def rX(b:Bk)(s:St)(sd tg:Int):I:=.al (asR b s sd tg) 0
def dA(sd who:Int):Int:=if who=1 then 1-sd else sd
theorem c295(b:Bk)(s:St)(sd tg who:Int)(h0:0<=sd)(h1:sd<=1):PC 267 [rX b s sd tg,aS who] (.al (aH s) (bif dA sd who==0 then 7 else 15)):=by
 have hs:sd=0\/sd=1:=by omega
 refine Xa hP g267.ok rfl rfl ?_;rw[H2.e];unfold g267;dsimp only;refine Z (Xr ..) (Ya (λh=>?_) (λh=>?_))
 ·have h:who=1:=by simpa using h
  subst h;rcases hs with rfl|rfl
  ·refine ay ?_;rfl
  ·refine ay ?_;rfl
 ·have h:who≠1:=by simpa using h
  rcases hs with rfl|rfl
  ·refine ay ?_;simp[dA,h]
  ·refine ay ?_;simp[dA,h]
def mR(s:St)(k:Int):Sd:=if k=0 then s.s0 else s.s1
variable{sd tg fu:Int}
theorem Ka{who:Int}(h0:0<=sd)(h1:sd<=1):dA sd who=0\/dA sd who=1:=by unfold dA;split<;>omega
theorem c293(row:List I)(j:Nat)(x:Nm)(hx:nQ row j x):PC 265 [.al row j] (O x.n):=by
 refine Xa hP g265.ok rfl rfl ?_;rw[H1.e];unfold g265;dsimp only;exact Z rfl (Z rfl (Z (bg hx.h1) rfl))
theorem c294(b:Bk)(s:St)(sd tg:Int)(h0:0<=sd)(h1:sd<=1)(row:List I)(j:Nat)(x:Nm)(hx:nQ row j x):PC 266 [.al row j,.al [rX b s sd tg] 0] (O (mR s (dA sd x.who)).aY):=by
 refine Xa hP g266.ok rfl rfl ?_;rw[H2.e];unfold g266;dsimp only;refine ay (Ze (bg hx.h2) rfl (YX (c295 b s sd tg x.who h0 h1) g267.ok ?_));rcases Ka (who:=x.who) h0 h1 with h|h
 ·rw[h];exact ay rfl
 ·rw[h];exact ay rfl
theorem c296(b:Bk)(s:St)(sd tg:Int)(h0:0<=sd)(h1:sd<=1)(row:List I)(j:Nat)(x:Nm)(hx:nQ row j x):PC 268 [.al row j,.al [rX b s sd tg] 0] (O (mR s (dA sd x.who)).hand.length):=by
 refine Xa hP g268.ok rfl rfl ?_;rw[H2.e];unfold g268;dsimp only;refine ay (Ze (bg hx.h2) rfl (YX (c295 b s sd tg x.who h0 h1) g267.ok ?_));rcases Ka (who:=x.who) h0 h1 with h|h
 ·rw[h];refine Xd rfl (Xd rfl (Ze (v:=aM s.s0.hand) (bg (row:=aH s) rfl) rfl (Xd (v:=O s.s0.hand.length) (by simp[Yn]) (Xo (by kernel_rfl) rfl))))
 ·rw[h];refine Xd rfl (Xd rfl (Ze (v:=aM s.s1.hand) (bg (row:=aH s) rfl) rfl (Xd (v:=O s.s1.hand.length) (by simp[Yn]) (Xo (by kernel_rfl) rfl))))
theorem c297(b:Bk)(s:St)(sd tg:Int)(h0:0<=sd)(h1:sd<=1)(row:List I)(j:Nat)(x:Nm)(hx:nQ row j x):PC 269 [.al row j,.al [rX b s sd tg] 0] (O (mR s (dA sd x.who)).az.length):=by
 refine Xa hP g269.ok rfl rfl ?_;rw[H2.e];unfold g269;dsimp only;refine ay (Ze (bg hx.h2) rfl (YX (c295 b s sd tg x.who h0 h1) g267.ok ?_));rcases Ka (who:=x.who) h0 h1 with h|h
 ·rw[h];refine Xd rfl (Xd rfl (Ze (v:=aM s.s0.az) (bg (row:=aH s) rfl) rfl (Xd (v:=O s.s0.az.length) (by simp[Yn]) (Xo (by kernel_rfl) rfl))))
 ·rw[h];refine Xd rfl (Xd rfl (Ze (v:=aM s.s1.az) (bg (row:=aH s) rfl) rfl (Xd (v:=O s.s1.az.length) (by simp[Yn]) (Xo (by kernel_rfl) rfl))))
theorem c298(b:Bk)(s:St)(sd tg:Int)(h0:0<=sd)(h1:sd<=1)(row:List I)(j:Nat)(x:Nm)(hx:nQ row j x):PC 270 [.al row j,.al [rX b s sd tg] 0] (O (mR s (dA sd x.who)).af.length):=by
 refine Xa hP g270.ok rfl rfl ?_;rw[H2.e];unfold g270;dsimp only;refine ay (Ze (bg hx.h2) rfl (YX (c295 b s sd tg x.who h0 h1) g267.ok ?_));rcases Ka (who:=x.who) h0 h1 with h|h
 ·rw[h];refine Xd rfl (Xd rfl (Ze (v:=ly s.s0.af) (bg (row:=aH s) rfl) rfl (Xd (v:=O s.s0.af.length) (by simp[Yn]) (Xo (by kernel_rfl) rfl))))
 ·rw[h];refine Xd rfl (Xd rfl (Ze (v:=ly s.s1.af) (bg (row:=aH s) rfl) rfl (Xd (v:=O s.s1.af.length) (by simp[Yn]) (Xo (by kernel_rfl) rfl))))
theorem c299(b:Bk)(s:St)(sd tg:Int)(h0:0<=sd)(h1:sd<=1)(y:I):PC 271 [y,.al [rX b s sd tg] 0] (O (mR s sd).aW):=by
 refine Xa hP g271.ok rfl rfl ?_;rw[H2.e];unfold g271;dsimp only;refine ay (bD (c295 b s sd tg 0 h0 h1) g267.ok ?_);have hs:sd=0\/sd=1:=by omega
 rcases hs with rfl|rfl
 ·exact ay rfl
 ·exact ay rfl
def vQ(b:Bk)(d:Sd):Int:=match d.az with
 |[]=>0
 |c::_=>match b.aj[c.toNat]? with
  |some k=>k.cost
  |none=>0
theorem c300(b:Bk)(s:St)(sd tg:Int)(h0:0<=sd)(h1:sd<=1)(hd:∀c∈(mR s sd).az,0<=c/\c.toNat<b.aj.length)(y:I):PC 272 [y,.al [rX b s sd tg] 0] (O (vQ b (mR s sd))):=by
 refine Xa hP g272.ok rfl rfl ?_;rw[H2.e];unfold g272;dsimp only;refine ay ?_;refine bD (c295 b s sd tg 0 h0 h1) g267.ok ?_;have f:∀(j:Nat),aO false (j+3) 1 (aH s)=some (aM (mR s sd).az)->∀t:I,t=.al (aH s) j ->
   VV.rd (Yi [t] []) λaa4=>
   VV.rd (Qc 3 [aa4] []) λaa6=>
   VV.rd (Xf false 1 [aa6] []) λi=>
   VV.rd (Yn [i] []) λp=>
   VV.rd (Qn .gtr false [p,(.int .i64 0)] []) λr=>
   VV.test r (
   VV.rd (Xf false 1 [.al [rX b s sd tg] 0] []) λw=>
   VV.rd (Yi [w] []) λx=>
   VV.rd (Qc 0 [x] []) λz=>
   VV.rd (Xf false 1 [z] []) λA=>
   VV.rd (Yi [A] []) λB=>
   VV.rd (Qc 0 [B] []) λC=>
   VV.rd (Xf false 1 [C] []) λD=>
   VV.rd (Zi 1 [i,(.int .i64 0)] []) λE=>
   VV.rd (Xf false 1 [E] []) λF=>
   VV.rd (Zi 12 [D,F] []) λG=>
   VV.rd (Qc 2 [G] []) λH=>
   VV.rd (Xf false 1 [H] []) λK=>
   K=O (vQ b (mR s sd))) (
   (I.int .i64 0)=O (vQ b (mR s sd))):=by
  rintro j L t rfl;refine Z rfl (Z rfl (Z (bg L) (Z (v:=O (mR s sd).az.length) (rd:=[]) (by simp[Yn]) (Z rfl ?_))));cases d:(mR s sd).az with
  |nil=>refine Ya (λh=>by simp at h) (λ_=>?_);simp[vQ,d]
  |cons c l=>
   obtain⟨N,o⟩:=hd c (by rw[d];simp);refine Ya (λ_=>?_) (λh=>by simp at h);refine ay ?_;refine Z (wM _ cM _ _ _ b.aj _ c N o) ?_;refine ax ?_;simp[vQ,d,o]
 have hs:sd=0\/sd=1:=by omega
 rcases hs with rfl|rfl
 ·exact f 7 rfl _ rfl
 ·exact f 15 rfl _ rfl
def Vi(b:Bk)(s:St)(sd tg op n who:Int):Int:=
 if op=0 then n else if op=1 then (mR s (dA sd who)).aY else if op=2 then (mR s (dA sd who)).hand.length else if op=3 then (mR s (dA sd who)).az.length
 else if op=4 then (mR s (dA sd who)).af.length else if op=5 then (mR s sd).aW else if op=6 then vQ b (mR s sd)else (mQ b s tg).1
def BF(op y z:Int):Int:=if op=8 then y+z else if op=9 then y-z else if op=10 then y*z else if op=11 then min y z else max y z
def wW(op:Int):List Int->Int
 |y::z::_=>BF op y z
 |_=>0
mutual
def ik (b:Bk) (s:St) (sd tg:Int):Nm->Int
 |.mk op n who kids=>BG (if op<8 then Vi b s sd tg op n who else wW op (lL b s sd tg kids))
def lL (b:Bk) (s:St) (sd tg:Int):List Nm->List Int
 |[]=>[]
 |x::l=>ik b s sd tg x::lL b s sd tg l
end
theorem TZ(b:Bk)(s:St)(sd tg:Int)(x:Nm):ik b s sd tg x=BG (if x.op<8 then Vi b s sd tg x.op x.n x.who else wW x.op (lL b s sd tg x.kids)):=by cases x;rfl
theorem XeN(n:Int):-1000000<=BG n/\BG n<=1000000:=by unfold BG;omega
theorem Uz(b:Bk)(s:St)(sd tg:Int)(x:Nm):-1000000<=ik b s sd tg x/\ik b s sd tg x<=1000000:=by rw[TZ];exact XeN _
theorem c302(y z:Int)(hy:-1000000<=y/\y<=1000000)(hz:-1000000<=z/\z<=1000000):PC 274 [O y,O z] (O (y+z)):=by
 refine Xa hP g274.ok rfl rfl ?_;rw[H2.e];unfold g274;dsimp only;refine Z rfl ?_;rw[ck (by omega) (by omega)]
theorem c303(y z:Int)(hy:-1000000<=y/\y<=1000000)(hz:-1000000<=z/\z<=1000000):PC 275 [O y,O z] (O (y-z)):=by
 refine Xa hP g275.ok rfl rfl ?_;rw[H2.e];unfold g275;dsimp only;refine Z rfl ?_;rw[ck (by omega) (by omega)]
theorem XeY{y z:Int}(hy:-1000000<=y/\y<=1000000)(hz:-1000000<=z/\z<=1000000):-1000000000000<=y*z/\y*z<=1000000000000:=by
 have h1:(y*z).natAbs<=1000000*1000000:=by rw[Int.natAbs_mul];exact Nat.mul_le_mul (by omega) (by omega)
 omega
theorem c304(y z:Int)(hy:-1000000<=y/\y<=1000000)(hz:-1000000<=z/\z<=1000000):PC 276 [O y,O z] (O (y*z)):=by
 refine Xa hP g276.ok rfl rfl ?_;rw[H2.e];unfold g276;dsimp only;refine Z rfl ?_;have:=XeY hy hz;rw[ck (by omega) (by omega)]
theorem c305(y z:Int):PC 277 [O y,O z] (O (min y z)):=by
 refine Xa hP g277.ok rfl rfl ?_;rw[H2.e];unfold g277;dsimp only;exact Z (YU ..) rfl
theorem c306(y z:Int):PC 278 [O y,O z] (O (max y z)):=by
 refine Xa hP g278.ok rfl rfl ?_;rw[H2.e];unfold g278;dsimp only;exact Z (vX ..) rfl
theorem c301(b:Bk)(hf:aN b=true)(d:Yg b.aj)(s:St)(hs:ba 1000000000 s)(hm:aJ (bO b).1 b s true=true)(sd tg:Int)(y:I):PC 273 [y,.al [rX b s sd tg] 0] (O (mQ b s tg).1):=by
 refine Xa hP g273.ok rfl rfl ?_;rw[H2.e];unfold g273;dsimp only;refine ay (YX (c54 b hf d s hs hm tg) g75.ok ?_);exact ay rfl
@[reducible] def tL(b:Bk)(s:St)(sd tg:Int):I:=.al [rX b s sd tg] 0
@[reducible] def clA(b:Bk)(s:St)(sd tg:Int):I:=.agg [.func (.func 265) [] [],.func (.func 266) [] [tL b s sd tg],.func (.func 268) [] [tL b s sd tg],.func (.func 269) [] [tL b s sd tg],.func (.func 270) [] [tL b s sd tg],.func (.func 271) [] [tL b s sd tg],.func (.func 272) [] [tL b s sd tg],.func (.func 273) [] [tL b s sd tg]]
theorem c291(b:Bk)(s:St)(sd tg:Int):PC 263 [rX b s sd tg] (clA b s sd tg):=by
 refine Uy hP g263.ok rfl ⟨.agg [.func (.func 265) [] [],.func (.func 266) [] [.ak 0 0],.func (.func 268) [] [.ak 0 0],.func (.func 269) [] [.ak 0 0],.func (.func 270) [] [.ak 0 0],.func (.func 271) [] [.ak 0 0],.func (.func 272) [] [.ak 0 0],.func (.func 273) [] [.ak 0 0]],
  [.box [rX b s sd tg],.box [.func (.func 265) [] [],.func (.func 266) [] [.ak 0 0],.func (.func 268) [] [.ak 0 0],.func (.func 269) [] [.ak 0 0],.func (.func 270) [] [.ak 0 0],.func (.func 271) [] [.ak 0 0],.func (.func 272) [] [.ak 0 0],.func (.func 273) [] [.ak 0 0]]],rfl,?_⟩
 rw[H1.e];unfold g263;dsimp only;refine ay ?_;exact⟨rfl,rfl⟩
@[reducible] def clB:I:=.agg [.func (.func 274) [] [],.func (.func 275) [] [],.func (.func 276) [] [],.func (.func 277) [] [],.func (.func 278) [] []]
theorem c292:PC 264 [] clB:=by
 refine Xa hP g264.ok rfl rfl ?_;unfold g264;dsimp only[H0.u];exact ay rfl
set_option maxHeartbeats 8000000
theorem qh(b:Bk)(hf:aN b=true)(o:Yg b.aj)(s:St)(hs:ba 1000000000 s)(hm:aJ (bO b).1 b s true=true)(sd tg:Int)(h0:0<=sd)(h1:sd<=1)(hd:∀c∈(mR s sd).az,0<=c/\c.toNat<b.aj.length)(t:Bool) :
  ∀(k:Nat) (x:Nm) (row:List I) (j:Nat),nQ row j x->B3 x<=k->di x=true->iF t x=true->PC 261 [.agg [.al row j],rX b s sd tg] (.iface 3 (O (ik b s sd tg x)))
 |0,x,_,_,_,h,_,_=>by cases x;simp at h
 |k+1,x,row,j,d,N,E,F=>by
  have p:=F;rw[OC]at p;simp only[AA]at p;obtain⟨k1,k2,k3⟩:=p;simp only[kD,AA,fe]at k1;obtain⟨P,Q,G⟩:=k1;refine Xa hP g261.ok rfl rfl ?_;rw[H2.e];unfold g261;dsimp only;refine ay (Z (bg d.h0) ?_);refine ay (Ya (λh=>?_) (λh=>?_))
  ·have h:x.op<8:=by simpa using h
   have r:ik b s sd tg x=BG (Vi b s sd tg x.op x.n x.who):=by rw[TZ,aE h]
   rw[r];refine YX (c291 b s sd tg) g263.ok (ay (Ze (bg d.h0) rfl ?_));have w:x.op=0\/x.op=1\/x.op=2\/x.op=3\/x.op=4\/x.op=5\/x.op=6\/x.op=7:=by omega
   rcases w with e|e|e|e|e|e|e|e<;>rw[e]
   ·refine ay (Yo (c293 row j x d) rfl g265.ok.plain rfl (YX (c290 _) g262.ok ?_));exact ay rfl
   ·refine ay (Yo (c294 b s sd tg h0 h1 row j x d) rfl g266.ok.plain rfl (YX (c290 _) g262.ok ?_));exact ay rfl
   ·refine ay (Yo (c296 b s sd tg h0 h1 row j x d) rfl g268.ok.plain rfl (YX (c290 _) g262.ok ?_));exact ay rfl
   ·refine ay (Yo (c297 b s sd tg h0 h1 row j x d) rfl g269.ok.plain rfl (YX (c290 _) g262.ok ?_));exact ay rfl
   ·refine ay (Yo (c298 b s sd tg h0 h1 row j x d) rfl g270.ok.plain rfl (YX (c290 _) g262.ok ?_));exact ay rfl
   ·refine ay (Yo (c299 b s sd tg h0 h1 _) rfl g271.ok.plain rfl (YX (c290 _) g262.ok ?_));exact ay rfl
   ·refine ay (Yo (c300 b s sd tg h0 h1 hd _) rfl g272.ok.plain rfl (YX (c290 _) g262.ok ?_));exact ay rfl
   ·refine ay (Yo (c301 b hf o s hs hm sd tg _) rfl g273.ok.plain rfl (YX (c290 _) g262.ok ?_));exact ay rfl
  ·have h:¬x.op<8:=by simpa using h
   have H:x.kids.length=2:=by rw[G];simp[zm];omega
   have z:x.kids[0]∈x.kids:=AI (by omega);have A:x.kids[1]∈x.kids:=AI (by omega);have hks:∀y∈x.kids,iF t y=true:=by
    have:∀l:List Nm,dI t l=true->∀y∈l,iF t y=true:=by
     intro l
     induction l with
     |nil=>intro _ y f;simp at f
     |cons a l K=>
      intro B y f;simp only[dI,AA]at B;simp only[Az]at f;rcases f with rfl|f
      ·exact B.1
      ·exact K B.2 y f
    exact this _ k2
   have r:ik b s sd tg x=BG (BF x.op (ik b s sd tg x.kids[0]) (ik b s sd tg x.kids[1])):=by
    rw[TZ,aB h];have L:x.kids=[x.kids[0],x.kids[1]]:=by
     apply List.ext_getElem (by simp[H]);intro i h1 h2;have:i=0\/i=1:=by simp at h2;omega
     rcases this with rfl|rfl<;>rfl
    conv=>lhs;rw[L]
    simp[lL,wW]
   rw[r];have r0:=qh b hf o s hs hm sd tg h0 h1 hd t k x.kids[0] (cK x.kids[0]) 0 (rB _) (by have:=zM z;omega) (QV E z) (hks _ z);have r1:=qh b hf o s hs hm sd tg h0 h1 hd t k x.kids[1] (cK x.kids[1]) 0 (rB _) (by have:=zM A;omega) (QV E A) (hks _ A);have C:=Uz b s sd tg x.kids[0];have D:=Uz b s sd tg x.kids[1];refine ay (Z (bg d.h3) (Z (Zm _ cK _ _ _ x.kids _ 0 (by omega)) (Z rfl (bD r0 g261.ok ?_))));refine ay (Z (bg d.h3) (Z (Zm _ cK _ _ _ x.kids _ 1 (by omega)) (Z rfl (bD r1 g261.ok (Z rfl ?_)))));refine YX c292 g264.ok (ay (Ze (bg d.h0) rfl ?_));have w:x.op=8\/x.op=9\/x.op=10\/x.op=11\/x.op=12:=by omega
   rcases w with e|e|e|e|e<;>rw[e]
   ·refine Xd rfl (Xd rfl (Yo (c302 _ _ C D) rfl g274.ok.plain rfl (YX (c290 _) g262.ok ?_)));exact ay rfl
   ·refine Xd rfl (Xd rfl (Yo (c303 _ _ C D) rfl g275.ok.plain rfl (YX (c290 _) g262.ok ?_)));exact ay rfl
   ·refine Xd rfl (Xd rfl (Yo (c304 _ _ C D) rfl g276.ok.plain rfl (YX (c290 _) g262.ok ?_)));exact ay rfl
   ·refine Xd rfl (Xd rfl (Yo (c305 _ _) rfl g277.ok.plain rfl (YX (c290 _) g262.ok ?_)));exact ay rfl
   ·refine Xd rfl (Xd rfl (Yo (c306 _ _) rfl g278.ok.plain rfl (YX (c290 _) g262.ok ?_)));exact ay rfl
theorem c125(cs:List Cd)(hf:QE cs=true)(l:List Ef)(hl:bz l=true):PC 194 [iX cs,gE l] (.bool (b_ cs true 1 l)):=by
 simp only[QE,AA,fe]at hf;obtain⟨C,H⟩:=hf;rw[de]at C;refine Xa hP g194.ok rfl rfl ?_;rw[H2.e];unfold g194;dsimp only;refine ay ?_;refine Zh (ι:=Nat) (λi p J=>∃m,p=[O i]/\ai J 0=.map (jn m)/\0<J.length/\i<=cs.length/\ia m (cs.take i)) (λi=>cs.length-i) 0 ⟨[],rfl,rfl,by simp,by omega,λt=>by simp[cA,lF]⟩ ?_;rintro i p J again ⟨m,rfl,r,L,N,hu⟩ w;refine Z rfl (Ya (λh=>?_) (λh=>?_))
 ·have x:i<cs.length:=by simpa using h
  have y:=λ(s:List U)=>Zm s cM false false 12 cs .i64 i x;have z:cs.take (i+1)=cs.take i++[cs[i]]:=Yv cs i x;generalize cs[i]=c at y z;refine Zj λk10 A=>?_;have B:∀o σ',ia o (cs.take i++[c])->ai σ' 0=.map (jn o)->0<σ'.length->k10 [] σ':=by
   intro o σ' D E F;rw[A];refine Z (Qi ..) ?_;rw[Zd (n:=i) (by omega)];exact w (i+1) _ _ (by omega) ⟨o,rfl,E,F,by omega,by rw[z];exact D⟩
  clear A w;refine Z (y _) (Z (bg (oH _)) (Zq (row:=cM c) (row':=cM c) rfl rfl rfl ?_));have f:=Xc J (U.box (cM c));have d:ai (J++[U.box (cM c)]) 0=.map (jn m):=Zb _ r;have j:0<(J++[U.box (cM c)]).length:=by simp
  generalize J++[U.box (cM c)]=base at f d j ⊢;generalize J.length=b at f ⊢;refine Z rfl (Z (ld f rfl) (Z (Qdr d _) ?_));refine ay (Ya (λh=>?_) (λh=>?_))
  ·have h:(cA c.name m).isSome=false:=by simpa using h
   refine Z rfl (Z (ld f rfl) (Z rfl (Z (ld f rfl) (Qd (HS d _ _) (Ye _ j) ?_))));exact B _ _ (hu.new h) (Zc _ j) (by simpa using j)
  ·have h:(cA c.name m).isSome=true:=by simpa using h
   exact B _ _ (hu.fG h) d j
 have h:i=cs.length:=by simp at h;omega
 subst h;rw[C5]at hu;refine Z rfl (Qd (v:=.ak J.length 0) (rd:=[]) (up:=[(J.length,.box [.map 0,.bool true])]) rfl (Qf _ _) ?_);have G:=Xc J (U.box [.map 0,.bool true]);have d:ai (J++[U.box [.map 0,.bool true]]) 0=.map (jn m):=Zb _ r;refine Yt (rd:=[0,J.length]) (c157 m cs hu.af true l 1 hl (by omega)) rfl g133.ok.plain (.cons (aA.box (ZS G) (by simp) (.cons (aA.map (JS d) (by simp) (T0 (OO m))) (bA.ro rfl))) (bA.ro rfl)) rfl ?_;rfl
def VT:Cn:=.mk 0 0 [] [] []
def lG(x:Nm):Ef:=.mk 3 0 x [] VT [] []
def JL(x:Nm):Cd:=⟨[80,114,111,98,101],false,0,0,0,0,0,0,[lG x],[],[],0⟩
@[reducible] def so(x:Nm):List I:=[aS 3,aS 0,aS x.op,O x.n,aS x.who,.aX false false 4 (x.kids.map cK),.str [],aS 0,aS 0,.str [],.aq,.aq,.aq,.aq]
variable{h0:Hp}
variable{rd:List Nat}
theorem Zd0(x:Nm):bA h0 rd (so x) (bC (lG x)):=by
 rw[Yz];exact .cons (aA.ro rfl) <| .cons (aA.ro rfl) <| .cons (aA.ro rfl) <| .cons (aA.ro rfl) <| .cons (aA.ro rfl) <| .cons (aA.ro rfl) <| .cons (aA.ro rfl) <| .cons (aA.ro rfl) <| .cons (aA.ro rfl) <| .cons (aA.ro rfl) <|
  .cons (aA.nl 4) <| .cons (aA.nl 5) <| .cons (aA.nl 14) <| .cons (aA.nl 14) .nil
theorem Qdu(x:Nm){b:Nat}(hb:h0 b=some (.rows 14 [so x]))(ct:b∈rd):aA h0 rd (.sl b 0 1 true) (gE [lG x]):=by
 refine aA.d_ (y:=.aX true false 14 [bC (lG x)]) (aA.sl hb ct (by simp) rfl (λi row row' j f=>?_)) (λM u d=>d.g_)
 match i with
 |0=>simp at j f;subst j;subst f;exact Zd0 x
 |i+1=>simp at f
theorem YcO{x:Nm}(h:di x=true):bz [lG x]=true:=by
 simp[bz,lG,yX,dO,h,cP,VT,de,zJ,Dr,CK]
theorem c82(b:Bk)(hf:aN b=true)(x:Nm)(hx:di x=true)(bT:iF true x=true)(hw:nJ x<=200):PC 158 [.al (cK x) 0,.dq,.al (cf b) 0] (.bool true):=by
 have f:QE b.aj=true:=by
  simp only[aN,AA]at hf;exact hf.1
 have hlen:((rQ x).length:Int)=nJ x:=by have:=JO x;omega
 have d:(od (JL x)).length=1+(rQ x).length:=by simp[od,JL,bR,lG,jD,cQ];omega
 have o:pN (JL x)=1+nJ x:=by rw[P9,d];omega
 have i:b_ b.aj true 1 [lG x]=true:=by
  simp[b_,cR,Dd,lG,Ef.op,Ef.c,Ef.cL,Ef.cV,Ef.n,Ef.name,Ef.who,cQ,bT,fO,VT,lE,sm,Cn.op,Cn.who,Cn.name,Cn.aF,Cn.kids]
 have j:decide (pN (JL x)-1>200)=false:=i7 (by omega);have h124:=c124 (JL x) (YcO hx) rfl rfl (by rw[d];omega);have h125:=c125 b.aj f [lG x] (YcO hx);rw[i]at h125;rw[YD];refine Xa hP g158.ok rfl rfl ?_;rw[H3.e];unfold g158;dsimp only;refine Z rfl (Qd (v:=.ak 0 0) rfl rfl (Qd (v:=.aP) (rd:=[]) (up:=[(0,.box [aS 3,aS 0,aS 0,O 0,aS 0,.aq,.str [],aS 0,aS 0,.str [],.aq,.aq,.aq,.aq])]) rfl rfl (Z rfl (yR (Xg (Z rfl (Z (bg rfl) (Z rfl ?_))))))));refine Qd (v:=.aP) (rd:=[]) (up:=[(0,.box (so x))]) rfl rfl (Z (ld (row:=so x) rfl rfl) (Qd (v:=.sl 1 0 1 true) (rd:=[]) (up:=[(1,.rows 14 [so x])]) rfl rfl (Z rfl (Qd (v:=.ak 2 0) rfl rfl ?_))));refine Qd (v:=.aP) (rd:=[]) (up:=[(2,.box [.str [80,114,111,98,101],.bool false,O 0,O 0,O 0,O 0,O 0,O 0,.sl 1 0 1 true,.aq,.aq,O 0])]) rfl rfl (Z (ld (row:=[.str [80,114,111,98,101],.bool false,O 0,O 0,O 0,O 0,O 0,O 0,.sl 1 0 1 true,.aq,.aq,O 0]) rfl rfl) (Yt (rd:=[1]) h124 rfl g132.ok.plain (.cons (aA.agg ?_) .nil) rfl ?_))
 ·exact .cons (aA.ro rfl) <| .cons (aA.ro rfl) <| .cons (aA.ro rfl) <| .cons (aA.ro rfl) <| .cons (aA.ro rfl) <| .cons (aA.ro rfl) <| .cons (aA.ro rfl) <| .cons (aA.ro rfl) <| .cons (Qdu x rfl (by simp)) <|
   .cons (aA.nl 14) <| .cons (aA.nl 14) <| .cons (aA.ro rfl) .nil
 refine Z (Bv ..) ?_;rw[ck (by omega) (by omega)];refine ay ?_;rw[j];refine ay ?_;exact Ir (rd:=[1]) h125 rfl g194.ok.plain (.cons (aA.ro rfl) (.cons (Qdu x rfl (by simp)) .nil)) rfl (Xo (by kernel_rfl) rfl)
variable{b:Bk}
variable{s:St}
theorem Ych{e:Int}(h:aJ e b s false=true):aJ e b s true=true:=by
 simp only[aJ,AA]at h ⊢;obtain⟨d,f,i,j,o,p,r,w,x,y,z,A,B,h⟩:=h;refine⟨d,f,i,j,o,p,r,w,x,y,z,A,B,?_⟩;split at h
 ·rename_i q;rw[aE q];exact h
 ·rename_i q;rw[aB q];simp only[AA]at h ⊢;exact⟨by simp,h.2⟩
def I5:Nm:=.mk 0 0 0 []
theorem kT:Qh prog 157=true:=by kernel_rfl
theorem c31(b:Bk)(hf:aN b=true)(f:Yg b.aj)(s:St)(hs:ba 1000000000 s)(hm:aJ (bO b).1 b s true=true)(sd tg:Int)(h0:0<=sd)(h1:sd<=1)(hd:∀c∈(mR s sd).az,0<=c/\c.toNat<b.aj.length)
 (x:Nm)(hx:di x=true)(bT:iF true x=true)(hw:nJ x<=200):PC 117 [dd b,bN s,.agg [O sd,O tg],.agg (cK x)] (.bw [O (ik b s sd tg x),O 0]):=by
 have p:=qh b hf f s hs hm sd tg h0 h1 hd true _ I5 (cK I5) 0 (rB _) (AO _) rfl rfl;have h289:=qh b hf f s hs hm sd tg h0 h1 hd true _ x (cK x) 0 (rB _) (AO _) hx bT;have r:=c81 b hf f s hs hm sd tg h0 h1 _ _ _ p;have w:=c81 b hf f s hs hm sd tg h0 h1 _ _ _ h289;have h82:=c82 b hf x hx bT hw;refine Xa hP g117.ok rfl rfl ?_;rw[H4.e];unfold g117;dsimp only;refine ay ?_;refine Qd (v:=.ak 3 0) (rd:=[]) (up:=[(3,.box (cK x))]) (by rw[YD];rfl) rfl ?_;refine ay ?_;have i:∀ {J:List U} {rd:List Nat},ai J 0=.box (cf b)->0∈rd->aA (hp J) rd (.ak 0 0) (.al (cf b) 0):=λh d=>aA.box (ZS h) d (bA.ro rfl);have j:∀ {J:List U} {rd:List Nat},ai J 1=.box (aH s)->1∈rd->aA (hp J) rd (.ak 1 0) (.al (aH s) 0):=λh d=>aA.box (ZS h) d (bA.ro rfl);have o:∀ {J:List U} {rd:List Nat},ai J 3=.box (cK x)->3∈rd->aA (hp J) rd (.ak 3 0) (.al (cK x) 0):=λh d=>aA.box (ZS h) d (bA.ro (by have:=nq x;simpa[fV,I.ro]using this));refine Yt (rd:=[0,1,4]) r rfl kT (.cons (i rfl (by simp)) <| .cons (j rfl (by simp)) <| .cons (aA.ro rfl) <| .cons (aA.iface (aA.agg (.cons (aA.box (row:=[aS 0,O 0,aS 0,.aq]) rfl (by simp) ?_) .nil))) .nil) rfl ?_
 ·exact .cons (aA.ro rfl) <| .cons (aA.ro rfl) <| .cons (aA.ro rfl) <| .cons (aA.nl 4) .nil
 refine ay ?_;refine Yt (rd:=[0,3]) h82 rfl g158.ok.plain (.cons (o rfl (by simp)) <| .cons (aA.ro rfl) <| .cons (i rfl (by simp)) .nil) rfl ?_;refine ay ?_;refine Yt (rd:=[0,1,3]) w rfl kT (.cons (i rfl (by simp)) <| .cons (j rfl (by simp)) <| .cons (aA.ro rfl) <| .cons (aA.iface (aA.agg (.cons (o rfl (by simp)) .nil))) .nil) rfl ?_;refine ay ?_;exact rfl
@[reducible] def dz(b:Bk)(s:St)(sd tg:Int)(lv:I)(fu:Int)(mv:I):List I:=cf b++(aH s++[O sd,O tg,lv,O fu,mv])
@[reducible] def c_(e:Ev)(cv:I):List I:=[aS e.kind,O e.side,O e.card,O e.id,O e.other,O e.n,cv]
def tC(cv:I)(l:List Int):Prop:=cv=aM l\/(cv=.aq/\l=[])
variable{cv lv:I}
theorem tC.cell{l:List Int}(h:tC cv l):cv.cell=true:=by
 rcases h with rfl|⟨rfl,_⟩<;>rfl
inductive eR:List (List I)->List Ev->Prop
 |nil:eR [] []
 |snoc (rows:List (List I)) (l:List Ev) (e:Ev) (cv:I):eR rows l->tC cv e.aj->eR (rows++[c_ e cv]) (l++[e])
variable{l:List Ev}
theorem eR.len{rows:List (List I)}(h:eR rows l):rows.length=l.length:=by
 induction h with
 |nil=>rfl
 |snoc _ _ _ _ _ _ d=>simp[d]
def LV(rb:Nat)(l:List Ev)(lv:I)(J:List U):Prop:=(l=[]/\lv=.aq)\/(l≠[]/\∃c rows,c≠rb/\lv=.sl c 0 l.length false/\ai J c=.rows 7 rows/\eR rows l)
structure Fr (rb:Nat) (lv cW:I) (J σ':List U):Prop where
 len:J.length<=σ'.length
 cq:∀k,k<J.length->k≠rb->(∀n,lv≠.sl k 0 n false)->ai σ' k=ai J k
 new:∀k n,cW=.sl k 0 n false->J.length<=k\/∃m,lv=.sl k 0 m false
theorem Fr.trans{a b c:I}{υ:List U}(h:Fr rb a b J τ)(q:Fr rb b c τ υ):Fr rb a c J υ:=by
 refine⟨CI h.len q.len,λk d hr f=>?_,λk n e=>?_⟩
 ·rw[q.cq k (Er d h.len) hr (λn e=>?_),h.cq k d hr f];rcases h.new k n e with h1|⟨m,h1⟩
  ·omega
  ·exact f m h1
 ·rcases q.new k n e with h1|⟨m,h1⟩
  ·exact .inl (CI h.len h1)
  ·exact h.new k m h1
theorem Fr.app(l:List U)(zh:∀k n,lv=.sl k 0 n false->k<J.length):Fr rb lv lv J (J++l):=
 ⟨by simp,λk d _ _=>Zg l d,λk n h=>.inr ⟨n,h⟩⟩
theorem Fr.set(lv:I)(x:U):Fr rb lv lv J (J.set rb x):=
 ⟨by simp,λk d hr _=>Qb x d hr,λk n h=>.inr ⟨n,h⟩⟩
theorem LV.lt(h:LV rb l lv J){k:Nat}(e:lv=.sl k 0 n false):k<J.length:=by
 rcases h with ⟨_,h⟩|⟨_,c,rows,_,h,d,_⟩
 ·rw[h]at e;cases e
 ·rw[h]at e;cases e;exact Yb d
theorem LV.fG{σ':List U}(h:LV rb l lv J)(hk:∀k,k<J.length->k≠rb->ai σ' k=ai J k):LV rb l lv σ':=by
 rcases h with h|⟨h0,c,rows,h1,h2,d,h3⟩
 ·exact .inl h
 ·exact .inr ⟨h0,c,rows,h1,h2,by rw[hk c (Yb d) h1];exact d,h3⟩
theorem ZeS(n by_:Nat){c:Nat}{row:List I}(hc:ai J c=.rows n [row])(hr:row.all I.cell=true)(d:194*by_<=2 ^ 48) :
  Yh n by_ [.aq,.sl c 0 1 true] J=.ok (.sl J.length 0 1 false) [c] [(J.length,.rows n [row])]:=by
 have h1:Yl n J (.sl c 0 1 true)=some ([row],[c]):=by
  simp only[Yl,hc];simp[cut];rfl
 show Qz n by_ J [] [] (.sl c 0 1 true)=_;unfold Qz;simp only[h1,XG hr];simp;rw[show BY (194*by_) 281474976710656=true from AH (by simpa using d)];rfl
theorem RB{e:Ev}{l:List Int}(d:tC cv l)(J:List U):Yq 7 1 [.int .i8 0,.int .i64 0,.int .i64 0,.int .i64 0,.int .i64 0,.int .i64 0,.aq] [(0,7)] [.agg (c_ e cv)] J=.ok (.sl J.length 0 1 true) [] [(J.length,.rows 7 [c_ e cv])]:=by
 rcases d with rfl|⟨rfl,_⟩<;>rfl
theorem Qei{e:Ev}{l:List Int}(d:tC cv l)(J:List U):wS [.agg (c_ e cv)] J=.ok (.ak J.length 0) [] [(J.length,.box (c_ e cv))]:=by
 rcases d with rfl|⟨rfl,_⟩<;>rfl
variable{K:KT}
theorem vZ{mv:I}(hr:ai J rb=.box (dz b s sd tg lv fu mv))(hl:LV rb l lv J)(hn:l.length<=1000000000)(e:Ev)(cv:I)(f:tC cv e.aj)
 (y:∀σ' p,Fr rb lv p J σ'->ai σ' rb=.box (dz b s sd tg p fu mv)->LV rb (l++[e]) p σ'->K (.bw []) σ'):g153.u VV [.ak rb 0,.agg (c_ e cv)] J K:=by
 have Q:=Yb hr;have z:(c_ e cv).all I.cell=true:=by rcases f with rfl|⟨rfl,_⟩<;>rfl
 rw[H2.e];unfold g153;dsimp only;generalize E:c_ e cv=X at *;have r1:=Zb [.box (c_ e cv)] hr;have A:=Zb [.rows 7 [c_ e cv]] r1;have F:=Xc J (.box (c_ e cv));have B:=Xc (J++[.box (c_ e cv)]) (.rows 7 [c_ e cv]);subst E;refine Qd (Qei (e:=e) f _) (Qf J _) (Xd rfl (Xd rfl (Ze (ld r1 rfl) (Yd _) (Ze (ld F (show aO true 0 7 (c_ e cv)=some (.agg (c_ e cv)) from rfl)) (Yd _) (Ze (RB (e:=e) f _) (Qf _ _) ?_)))));have R:(J++[U.box (c_ e cv)]).length=J.length+1:=by simp
 have d:(J++[U.box (c_ e cv)]++[U.rows 7 [c_ e cv]]).length=J.length+2:=by simp
 rcases hl with ⟨rfl,rfl⟩|⟨h0,c,rows,G,rfl,C,D⟩
 ·refine Ze (ZeS 7 72 B z (by decide)) (Qf _ _) (Xd rfl (Xd rfl ?_));have i:=Zb [.rows 7 [c_ e cv]] A;have j:=Yb i;refine Ze (cO i rfl rfl rfl) (Ye _ j) (Xo (by have o:rb≠J.length+1:=(by omega);simp[Qg,Qj,Zl,Zs,bF,df,Ao,B0,o,o.symm]) ?_);refine y _ (.sl (J++[U.box (c_ e cv)]++[U.rows 7 [c_ e cv]]).length 0 1 false) ⟨by simp,λk r w _=>?_,λk n h=>.inl ?_⟩ ?_ (.inr ⟨by simp,(J++[U.box (c_ e cv)]++[U.rows 7 [c_ e cv]]).length,[]++[c_ e cv],by rw[d];omega,rfl,?_,eR.snoc [] [] e cv .nil f⟩)
  ·rw[Qb _ (by simp;omega) w,Zg _ (by simp;omega),Zg _ (by simp;omega),Zg _ r]
  ·cases h;rw[d];omega
  ·exact Qp (CJ j)
  ·have:=Xc (J++[U.box (c_ e cv)]++[U.rows 7 [c_ e cv]]) (.rows 7 [c_ e cv]);rw[Qb _ (by simp) (by rw[d];omega),this];rfl
 ·have S:=Yb C;have H:=Zb [.rows 7 [c_ e cv]] (Zb [.box (c_ e cv)] C (by simp));have L:c<(J++[U.box (c_ e cv)]++[U.rows 7 [c_ e cv]]).length:=by rw[d];omega
  refine Ze (Q5 7 72 (rs:=rows) H B D.len z (by omega)) (YK _ _ L) (Xd rfl (Xd rfl ?_));have i:=Zb [.rows 7 (rows++[c_ e cv])] (Qa (x:=.dead) A (by simp) G);have j:=Yb i;refine Ze (cO i rfl rfl rfl) (Ye _ j) (Xo (by have o:rb≠J.length+1:=(by omega);simp[Qg,Qj,Zl,Zs,bF,df,Ao,B0,o,o.symm]) ?_);refine y _ (.sl (J++[U.box (c_ e cv)]++[U.rows 7 [c_ e cv]]).length 0 (l.length+1) false) ⟨by simp;omega,λk r w N=>?_,λk n h=>.inl ?_⟩ ?_ (.inr ⟨by simp,(J++[U.box (c_ e cv)]++[U.rows 7 [c_ e cv]]).length,rows++[c_ e cv],by rw[d];omega,by simp,?_,eR.snoc rows l e cv D f⟩)
  ·have P:k≠c:=λe=>N l.length (by rw[e]);rw[Qb _ (by simp;omega) w,Zg _ (by simp;omega),Qb _ (by simp;omega) P,Zg _ (by simp;omega),Zg _ r]
  ·cases h;rw[d];omega
  ·exact Qp (CJ j)
  ·have:=Xc ((J++[U.box (c_ e cv)]++[U.rows 7 [c_ e cv]]).set c .dead) (U.rows 7 (rows++[c_ e cv]));simp only[List.length_set]at this;rw[Qb _ (by simp) (by rw[d];omega),this]
theorem Zen{mv:I}(hr:ai J rb=.box (dz b s sd tg lv fu mv))(h01:sd=0\/sd=1)(who:Int)(d:K (O (dA sd who)) J):g154.u VV [.ak rb 0,aS who] J K:=by
 rw[H2.e];unfold g154;dsimp only;refine Z (Xr ..) (Ya (λh=>?_) (λh=>?_))
 ·have h:who=1:=by simpa using h
  refine Z rfl (Z rfl (Z rfl (Z (ld hr rfl) (Z (Bv ..) ?_))));rw[Bb _ (by omega)];unfold dA at d;rwa [aE h]at d
 ·have h:who≠1:=by simpa using h
  refine Z rfl (Z rfl (Z rfl (Z (ld hr rfl) ?_)));unfold dA at d;rwa [aB h]at d
section
variable {P:Program} {GL:aw}
theorem ZcU{f:FuncId}{xs:List I}{v y:I}{bs:List U}(h:dH P GL f xs v bs)(hy:∃rd,aA (hp bs) rd v y):dh P GL f xs y:=by
 obtain⟨rd,p⟩:=hy;intro w M x z A B;refine(h w M x z A B).mono ?_;rintro e d ⟨u,he,i,hle,r,hd⟩
 let M2:Nat->Option Obj:=λb=>if b<w.heap.size then i.M b else d.heap[b]?
 have qk:wB i (hp bs) d M2:=by
  refine⟨λb o e=>?_,λb aD C o D E e3 F H=>?_⟩
  ·show (if b<w.heap.size then i.M b else d.heap[b]?)=some o;split
   ·exact e
   ·exact r.aZ b o e
  ·obtain⟨_,L,_⟩:=r.own b aD C D E e3 F
   grind
 have G:=p GL w ⟨[],M⟩ i (hp bs) d M2 r qk (λ_ _=>rfl) u hd;refine⟨u,he,r.keeps,M2,λb o e=>qk.1 b o (hle b o e),λb o e=>?_,λb o e=>?_,G⟩
 ·have j:(if b<w.heap.size then i.M b else d.heap[b]?)=some o:=e;split at j
  ·exact r.aZ b o j
  ·exact j
 ·have j:(if b<w.heap.size then i.M b else d.heap[b]?)=some o:=e;split at j
  ·rcases r.src b o j with q|q|q<;>simp_all
  ·exact .inr (by omega)
end
@[reducible] def BU(l:List Int):I:=.aX true false 1 (l.map aK)
theorem XeS(d:Bool)(rows:List (List I))(h:rows≠[])(J:List U):YH 1 [.aX false d 1 rows,.int .i64 rows.length,.int .i64 rows.length] J=.ok (.aX true d 1 rows) [] []:=by
 cases rows with
 |nil=>exact(h rfl).elim
 |cons r rs=>
  have hb:BY (r::rs).length (r::rs).length=true:=AH (AO _);have f:cut 0 (r::rs).length (r::rs)=r::rs:=by unfold cut;simp
  show (bif AJ 1 1&&(AJ (r::rs).length (r::rs).length&&BY (r::rs).length (r::rs).length)then aL.ok (.aX true d 1 (cut 0 (r::rs).length (r::rs))) [] []else .stop)=_;simp only[hb,f,Nat.beq_refl];rfl
theorem c405(l:List Int):PC 155 [aM l] (BU l):=by
 refine Zo hP g155.ok rfl ?_;rw[H1.e];unfold g155;dsimp only;refine Z rfl (Z rfl ?_);cases l with
 |nil=>
  refine Z (v:=.cX) rfl ⟨[],aA.d_ (aA.ro rfl) (λM u d=>?_)⟩;cases d with
  |cX _ a=>exact .aX _ _ _ _ [] a 0 0 0 (λ_ _=>undef) (λ_=>rfl) (λh=>by cases h) (λh=>(h rfl).elim) (λ_=>rfl) (by simp) (by simp) (by simp) (by simp)
 |cons x l=>exact Z (XeS false ((x::l).map aK) (by simp) _) ⟨[],aA.ro rfl⟩
theorem qg(l:List Int)(hl:l.length<=1000000000):PC 30 [aM l] (aM l):=
 ZcU (c96 l hl) ⟨[0],RI.own (b:=0) rfl (by simp) rfl⟩
theorem Zc9(l:List Int):zu (l.map aK)=true:=by
 induction l<;>simp_all [zu,aK]
theorem Rq(l m:List Int){y:I}(hy:Yl 1 J y=some (m.map aK,rd))(hl:l.length+m.length<=1000000000):Yh 1 8 [BU l,y] J=.ok (aM (l++m)) rd []:=by
 show (match Yl 1 J y with
   |some (d,rd)=>bif AJ 1 1&&(zu (l.map aK++d)&&BY ((2*((l.map aK).length+d.length)+192)*8) (2 ^ 48))then aL.ok (.aX false false 1 (l.map aK++d)) rd []else .stop
   | none=>.stop)=_
 rw[hy];simp only;rw[<-A8,Zc9,show BY ((2*((l.map aK).length+(m.map aK).length)+192)*8) (2 ^ 48)=true from AH (by simp only[Be];omega)];rfl
def ji(m:List Int)(s:St)(i:Int):St:=s.put i { s.side i with told:=(s.side i).told++m }
def dJ(s:St)(m:List Int)(is:List Int):St:=is.foldl (ji m) s
theorem Ydd(s:St)(m is:List Int)(i:Nat)(h:i<is.length):dJ s m (is.take (i+1))=ji m (dJ s m (is.take i)) is[i]:=by
 grind [dJ,List.take_succ_eq_append_getElem]
def TB(N:Nat)(s:St):Prop:=s.s0.told.length<=N/\s.s1.told.length<=N
theorem TB.tell{N:Nat}(h:TB N s)(m:List Int){i:Int}(hi:i=0\/i=1):TB (N+m.length) (ji m s i):=by
 obtain⟨h1,h2⟩:=h;rcases hi with rfl|rfl
 ·refine⟨?_,?_⟩<;>simp[ji,St.put,St.side]<;>omega
 ·refine⟨?_,?_⟩<;>simp[ji,St.put,St.side]<;>omega
theorem ZeF{x:U}(h:ai J rb=x)(hx:x≠.dead):J.set rb x=J:=by
 have d:=Yb h hx;have:=Zw h hx
 grind [List.set_getElem_self]
theorem Io{mv:I}(hr:ai J rb=.box (dz b s sd tg lv fu mv))(m:List Int)(y:I)(rd:List Nat)(hy:∀x:U,Yl 1 (J.set rb x) y=some (m.map aK,rd))
 (is:List Int)(k:Nat)(hk:ai J k=.rows 1 (is.map aK))(B:k≠rb)(h01:∀i∈is,i=0\/i=1)(N:Nat)(hT:TB N s)(hN:N+is.length*m.length+m.length<=1000000000)(his:is.length<=1000000000)
 (E:K (.bw []) (J.set rb (.box (dz b (dJ s m is) sd tg lv fu mv)))):g156.u VV [.ak rb 0,y,.sl k 0 is.length true] J K:=by
 have o:=Yb hr;have F:=Yb hk;rw[H3.e];unfold g156;dsimp only;refine Z rfl (Zh (ι:=Nat) (λi p τ=>p=[O i]/\i<=is.length/\TB (N+i*m.length) (dJ s m (is.take i))/\τ=J.set rb (.box (dz b (dJ s m (is.take i)) sd tg lv fu mv))) (λi=>is.length-i) 0 ⟨rfl,by omega,by simpa[dJ]using hT,?_⟩ ?_)
 ·simp_all [dJ,ZeF]
 rintro i p τ again ⟨rfl,C,hT,rfl⟩ r;refine Z rfl (ZT (λh=>?_) (λh=>?_))
 ·have w:=Qa (x:=.box (dz b (dJ s m (is.take i)) sd tg lv fu mv)) hk (by simp) B.symm;have D:(is.map aK)[i]?=some [O is[i]]:=by simp[h,aK]
  refine Z (Y9 _ k 0 is.length true 1 (is.map aK) .i64 i h w) (Z (ru w (by rw[Al];exact D) rfl) (Z rfl (Z rfl (Z rfl ?_))));have f:ai (J.set rb (.box (dz b (dJ s m (is.take i)) sd tg lv fu mv))) rb=.box (dz b (dJ s m (is.take i)) sd tg lv fu mv):=Qp (by simp[o]);have hlen:rb<(J.set rb (.box (dz b (dJ s m (is.take i)) sd tg lv fu mv))).length:=by simpa using o
  have hmul:i*m.length<=is.length*m.length:=Nat.mul_le_mul_right _ C;have hd:=h01 is[i] (AI h);have j:dJ s m (is.take (i+1))=ji m (dJ s m (is.take i)) is[i]:=Ydd s m is i h;have z:TB (N+(i+1)*m.length) (dJ s m (is.take (i+1))):=by
   rw[j];have:=hT.tell m hd
   grind
  generalize dJ s m (is.take i)=t at *;generalize is[i]=d at *;have A:∀l:List Int,l.length<=N+i*m.length->l.length+m.length<=1000000000:=λl H=>by omega
  rcases hd with rfl|rfl
  ·refine Z rfl (Z rfl (Z rfl (Z (ld f rfl) (bD (c405 t.s0.told) g155.ok ?_))));refine Qd (Rq t.s0.told m (hy _) (A _ hT.1)) rfl (Z rfl (Qd (cO f rfl rfl rfl) (Ye _ hlen) (Z (Qi ..) ?_)));rw[Zd (n:=i) (by omega),GW];exact r (i+1) _ _ (by omega) ⟨rfl,by omega,z,by rw[j];rfl⟩
  ·refine Z rfl (Z rfl (Z rfl (Z (ld f rfl) (bD (c405 t.s1.told) g155.ok ?_))));refine Qd (Rq t.s1.told m (hy _) (A _ hT.2)) rfl (Z rfl (Qd (cO f rfl rfl rfl) (Ye _ hlen) (Z (Qi ..) ?_)));rw[Zd (n:=i) (by omega),GW];exact r (i+1) _ _ (by omega) ⟨rfl,by omega,z,by rw[j];rfl⟩
 grind
def Dn(rb:Nat)(b:Bk)(sd tg fu:Int)(l:List Ev)(lv:I)(J:List U)(r:Int×St×List Ev)(v:I)(σ':List U):Prop:=
 ∃d f,Fr rb lv d J σ'/\ai σ' rb=.box (dz b r.2.1 sd tg d fu f)/\v=O r.1/\LV rb (l++r.2.2) d σ'
def eL(s:St)(sd n:Int):Int×St×List Ev:=
 if n<0 then (0,s,[])else if 1000000<(s.side sd).aW+n then (171,s,[])else (0,s.put sd { s.side sd with aW:=(s.side sd).aW+n },[⟨7,sd,0,0,0,n,[]⟩])
theorem XeV{mv:I}(hr:ai J rb=.box (dz b s sd tg lv fu mv))(hl:LV rb l lv J)(hn:l.length<=1000000000)(h01:sd=0\/sd=1)
 (hm:0<=(s.side sd).aW/\(s.side sd).aW<=1000000)(x:Ef)(n:Int)(hb:n<=1000000)(d:∀v σ',Dn rb b sd tg fu l lv J (eL s sd n) v σ'->K v σ'):g111.u VV [.ak rb 0,.agg (bC x),O n] J K:=by
 have B:=Yb hr;have f0:Fr rb lv lv J (J++[U.box (bC x)]):=Fr.app _ (λk n e=>hl.lt e);have r1:=Zb [U.box (bC x)] hr;have p:rb<(J++[U.box (bC x)]).length:=by simp;omega
 have i:LV rb l lv (J++[U.box (bC x)]):=hl.fG (λk j _=>Zg _ j);rw[H3.e];unfold g111;dsimp only;refine Qd (zx _ _) (Qf J _) (Z rfl (Z rfl (Z rfl (Z (ld r1 rfl) (Z rfl (Z rfl (Z rfl ?_)))))));rcases h01 with rfl|rfl
 ·have hm:0<=s.s0.aW/\s.s0.aW<=1000000:=hm;refine Z rfl (Z rfl (Ya (λh=>?_) (λh=>?_)))
  ·have h:n<0:=by simpa using h
   exact d _ _ ⟨lv,mv,f0,by rw[eL,aE h];exact r1,by rw[eL,aE h],by rw[eL,aE h];simpa using i⟩
  have h:¬n<0:=by simpa using h
  refine Z rfl (Z rfl (Z (ld r1 rfl) (Z (Qi ..) (Z rfl ?_))));rw[Bb _ (by omega)];refine Ya (λh2=>?_) (λh2=>?_)
  ·have h2:1000000<s.s0.aW+n:=by simpa using h2
   have e:eL s 0 n=(171,s,[]):=by rw[eL,aB h];exact aE h2
   exact d _ _ ⟨lv,mv,f0,by rw[e];exact r1,by rw[e],by rw[e];simpa using i⟩
  have h2:¬1000000<s.s0.aW+n:=by simpa using h2
  have e:eL s 0 n=(0,s.put 0 { s.side 0 with aW:=s.s0.aW+n },[⟨7,0,0,0,0,n,[]⟩]):=by rw[eL,aB h];exact aB h2
  refine Z rfl (Z rfl (Z (ld r1 rfl) (Z (Qi ..) (Z rfl (Z rfl ?_)))));rw[Bb _ (by omega)];refine Qd (cO r1 rfl rfl rfl) (Ye _ p) ?_;have o:ai ((J++[U.box (bC x)]).set rb (.box (dz b (s.put 0 { s.side 0 with aW:=s.s0.aW+n }) 0 tg lv fu mv))) rb=.box (dz b (s.put 0 { s.side 0 with aW:=s.s0.aW+n }) 0 tg lv fu mv):=Qp (CJ p);refine Z rfl (Z rfl (Z rfl (Z (ld o rfl) (Z (v:=.agg (c_ ⟨7,0,0,0,0,n,[]⟩ .aq)) rfl ?_))));refine Xe hP (f:=153) rfl g153.ok rfl (vZ o (i.fG (λk j r=>Qb _ j r)) hn _ _ (.inr ⟨rfl,rfl⟩) (λσ' w y z A=>d _ _ ⟨w,mv,(f0.trans (Fr.set lv _)).trans y,by rw[e];exact z,by rw[e],by rw[e];exact A⟩))
 ·have hm:0<=s.s1.aW/\s.s1.aW<=1000000:=hm;refine Z rfl (Z rfl (Ya (λh=>?_) (λh=>?_)))
  ·have h:n<0:=by simpa using h
   exact d _ _ ⟨lv,mv,f0,by rw[eL,aE h];exact r1,by rw[eL,aE h],by rw[eL,aE h];simpa using i⟩
  have h:¬n<0:=by simpa using h
  refine Z rfl (Z rfl (Z (ld r1 rfl) (Z (Qi ..) (Z rfl ?_))));rw[Bb _ (by omega)];refine Ya (λh2=>?_) (λh2=>?_)
  ·have h2:1000000<s.s1.aW+n:=by simpa using h2
   have e:eL s 1 n=(171,s,[]):=by rw[eL,aB h];exact aE h2
   exact d _ _ ⟨lv,mv,f0,by rw[e];exact r1,by rw[e],by rw[e];simpa using i⟩
  have h2:¬1000000<s.s1.aW+n:=by simpa using h2
  have e:eL s 1 n=(0,s.put 1 { s.side 1 with aW:=s.s1.aW+n },[⟨7,1,0,0,0,n,[]⟩]):=by rw[eL,aB h];exact aB h2
  refine Z rfl (Z rfl (Z (ld r1 rfl) (Z (Qi ..) (Z rfl (Z rfl ?_)))));rw[Bb _ (by omega)];refine Qd (cO r1 rfl rfl rfl) (Ye _ p) ?_;have o:ai ((J++[U.box (bC x)]).set rb (.box (dz b (s.put 1 { s.side 1 with aW:=s.s1.aW+n }) 1 tg lv fu mv))) rb=.box (dz b (s.put 1 { s.side 1 with aW:=s.s1.aW+n }) 1 tg lv fu mv):=Qp (CJ p);refine Z rfl (Z rfl (Z rfl (Z (ld o rfl) (Z (v:=.agg (c_ ⟨7,1,0,0,0,n,[]⟩ .aq)) rfl ?_))));refine Xe hP (f:=153) rfl g153.ok rfl (vZ o (i.fG (λk j r=>Qb _ j r)) hn _ _ (.inr ⟨rfl,rfl⟩) (λσ' w y z A=>d _ _ ⟨w,mv,(f0.trans (Fr.set lv _)).trans y,by rw[e];exact z,by rw[e],by rw[e];exact A⟩))
theorem Xej(l:List Int)(j:Nat)(h:j<=l.length)(J:List U):QK 1 [aM l,O j] J=.ok (aM (l.take j)) [] []:=by
 have h1:BY j (l.map aK).length=true:=AH (by simpa using h);have h2:cut 0 j (l.map aK)=(l.take j).map aK:=by unfold cut;rw[GG,List.map_take]
 show (bif AJ 1 1&&BY j (l.map aK).length then aL.ok (.aX false false 1 (cut 0 j (l.map aK))) [] []else .stop)=_;rw[h1,h2];rfl
theorem Zdr(x:Int)(l:List Int)(J:List U):ZB 1 [aM (x::l),O 1] J=.ok (aM l) [] []:=by
 have h1:BY 1 ((x::l).map aK).length=true:=AH (by simp);have h2:cut 1 ((x::l).map aK).length ((x::l).map aK)=l.map aK:=by unfold cut;rw[C5];rfl
 show (bif AJ 1 1&&BY 1 ((x::l).map aK).length then aL.ok (.aX false false 1 (cut 1 ((x::l).map aK).length ((x::l).map aK))) [] []else .stop)=_;rw[h1,h2];rfl
def iy(s:St)(sd n:Int):Int×St×List Ev:=
 match (s.side sd).az.take (min (max n 0) (s.side sd).az.length).toNat with
 |[]=>(0,s,[])
 |c::cs=>(0,dJ s (c::cs) [sd],[⟨9,sd,0,0,0,0,c::cs⟩])
theorem ZeX{mv:I}(hr:ai J rb=.box (dz b s sd tg lv fu mv))(hl:LV rb l lv J)(hn:l.length<=1000000000)(h01:sd=0\/sd=1)
 (hT:TB 100000000 s)(hd:(s.side sd).az.length<=100000000)(x:Ef)(n:Int)(r:∀v σ',Dn rb b sd tg fu l lv J (iy s sd n) v σ'->K v σ'):g113.u VV [.ak rb 0,.agg (bC x),O n] J K:=by
 have L:=Yb hr;have f0:Fr rb lv lv J (J++[U.box (bC x)]):=Fr.app _ (λk n e=>hl.lt e);have r1:=Zb [U.box (bC x)] hr;have o:LV rb l lv (J++[U.box (bC x)]):=hl.fG (λk i _=>Zg _ i);have d:∀cs,(s.side sd).az.take (min (max n 0) (s.side sd).az.length).toNat=cs->iy s sd n=match cs with | []=>(0,s,[])|c::cs=>(0,dJ s (c::cs) [sd],[⟨9,sd,0,0,0,0,c::cs⟩]):=by
  intro cs h;rw[iy,h]
 obtain⟨j,w,p⟩:∃j:Nat,min (max n 0) ((s.side sd).az.length:Int)=j/\j<=(s.side sd).az.length:=⟨(min (max n 0) ((s.side sd).az.length:Int)).toNat,by omega,by omega⟩;rw[w,Int.toNat_natCast]at d;rw[H3.e];unfold g113;dsimp only;refine Qd (zx _ _) (Qf J _) (Z rfl (Z rfl (Z rfl (Z (ld r1 rfl) (Z rfl (Z rfl (Z rfl ?_)))))));rcases h01 with rfl|rfl
 ·refine Z rfl (Z rfl (Z (ld r1 rfl) (Z (vX ..) (Z rfl (Z (YU ..) ?_)))));have p:j<=s.s0.az.length:=p;have hd:s.s0.az.length<=100000000:=hd;rw[show min (max n 0) ((s.s0.az.map aK).length:Int)=j from by rw[Be];exact w];refine Z (Xej _ j p _) (bD (qg _ (by rw[EM];omega)) g30.ok (Z rfl (Z (Y4 ..) ?_)));have hle:(s.s0.az.take j).length<=100000000:=by rw[EM];omega
  have d:=d (s.s0.az.take j) rfl;generalize s.s0.az.take j=cs at *;refine Ya (λh=>?_) (λh=>?_)
  ·obtain⟨c,cs,rfl⟩:∃c y,cs=c::y:=by
    cases cs with
    |nil=>simp at h
    |cons c cs=>exact⟨c,cs,rfl⟩
   have d:iy s 0 n=(0,dJ s (c::cs) [0],[⟨9,0,0,0,0,0,c::cs⟩]):=d;refine Qd (v:=.sl (J++[U.box (bC x)]).length 0 1 true) (rd:=[]) (up:=[((J++[U.box (bC x)]).length,.rows 1 [[O 0]])]) rfl (Qf _ _) ?_;have H:rb<(J++[U.box (bC x)]).length:=by simp;omega
   have z:=Zb [.rows 1 [[O 0]]] r1;have A:Fr rb lv lv (J++[U.box (bC x)]) (J++[U.box (bC x)]++[.rows 1 [[O 0]]]):=Fr.app _ (λk n e=>o.lt e);have B:LV rb l lv (J++[U.box (bC x)]++[.rows 1 [[O 0]]]):=o.fG (λk i _=>Zg _ i);refine Xe hP (f:=156) rfl g156.ok rfl (Io z (c::cs) (aM (c::cs)) [] (λ_=>rfl) [0] _ (Xc _ _) (by omega) (by simp) 100000000 hT (by simp at hle ⊢;omega) (by simp) (Z (v:=.agg (c_ ⟨9,0,0,0,0,0,c::cs⟩ (aM (c::cs)))) rfl (Xe hP (f:=153) rfl g153.ok rfl (vZ (Qp (CJ (by simp;omega))) (B.fG (λk i C=>Qb _ i C)) hn _ _ (.inl rfl) (λσ' D E F G=>?_)))));exact(r _ _ ⟨D,mv,((f0.trans A).trans (Fr.set lv _)).trans E,by rw[d];exact F,by rw[d],by rw[d];exact G⟩)
  ·have:cs=[]:=by
    cases cs with
    |nil=>rfl
    |cons c cs=>simp at h
   subst this;have d:iy s 0 n=(0,s,[]):=d;exact r _ _ ⟨lv,mv,f0,by rw[d];exact r1,by rw[d],by rw[d];simpa using o⟩
 ·refine Z rfl (Z rfl (Z (ld r1 rfl) (Z (vX ..) (Z rfl (Z (YU ..) ?_)))));have p:j<=s.s1.az.length:=p;have hd:s.s1.az.length<=100000000:=hd;rw[show min (max n 0) ((s.s1.az.map aK).length:Int)=j from by rw[Be];exact w];refine Z (Xej _ j p _) (bD (qg _ (by rw[EM];omega)) g30.ok (Z rfl (Z (Y4 ..) ?_)));have hle:(s.s1.az.take j).length<=100000000:=by rw[EM];omega
  have d:=d (s.s1.az.take j) rfl;generalize s.s1.az.take j=cs at *;refine Ya (λh=>?_) (λh=>?_)
  ·obtain⟨c,cs,rfl⟩:∃c y,cs=c::y:=by
    cases cs with
    |nil=>simp at h
    |cons c cs=>exact⟨c,cs,rfl⟩
   have d:iy s 1 n=(0,dJ s (c::cs) [1],[⟨9,1,0,0,0,0,c::cs⟩]):=d;refine Qd (v:=.sl (J++[U.box (bC x)]).length 0 1 true) (rd:=[]) (up:=[((J++[U.box (bC x)]).length,.rows 1 [[O 1]])]) rfl (Qf _ _) ?_;have H:rb<(J++[U.box (bC x)]).length:=by simp;omega
   have z:=Zb [.rows 1 [[O 1]]] r1;have A:Fr rb lv lv (J++[U.box (bC x)]) (J++[U.box (bC x)]++[.rows 1 [[O 1]]]):=Fr.app _ (λk n e=>o.lt e);have B:LV rb l lv (J++[U.box (bC x)]++[.rows 1 [[O 1]]]):=o.fG (λk i _=>Zg _ i);refine Xe hP (f:=156) rfl g156.ok rfl (Io z (c::cs) (aM (c::cs)) [] (λ_=>rfl) [1] _ (Xc _ _) (by omega) (by simp) 100000000 hT (by simp at hle ⊢;omega) (by simp) (Z (v:=.agg (c_ ⟨9,1,0,0,0,0,c::cs⟩ (aM (c::cs)))) rfl (Xe hP (f:=153) rfl g153.ok rfl (vZ (Qp (CJ (by simp;omega))) (B.fG (λk i C=>Qb _ i C)) hn _ _ (.inl rfl) (λσ' D E F G=>?_)))));exact(r _ _ ⟨D,mv,((f0.trans A).trans (Fr.set lv _)).trans E,by rw[d];exact F,by rw[d],by rw[d];exact G⟩)
  ·have:cs=[]:=by
    cases cs with
    |nil=>rfl
    |cons c cs=>simp at h
   subst this;have d:iy s 1 n=(0,s,[]):=d;exact r _ _ ⟨lv,mv,f0,by rw[d];exact r1,by rw[d],by rw[d];simpa using o⟩
theorem JF(h:sd=0\/sd=1)(w:Int):dA sd w=0\/dA sd w=1:=by
 unfold dA;split<;>omega
theorem A_{k:Nat}{c:Int}(h:ai J k=.rows 1 [[O c]]):Yl 1 J (.sl k 0 1 true)=some ([c].map aK,[k]):=by
 simp only[Yl,h];simp[cut];rfl
def pz(s:St)(i:Int):Int×St×List Ev:=(0,dJ s (s.side i).hand [0,1],[⟨10,i,0,0,0,0,(s.side i).hand⟩])
theorem Ye0{mv:I}(hr:ai J rb=.box (dz b s sd tg lv fu mv))(hl:LV rb l lv J)(hn:l.length<=1000000000)(h01:sd=0\/sd=1)
 (hT:TB 100000000 s)(E:s.s0.hand.length<=100000000)(IL:s.s1.hand.length<=100000000)(x:Ef)(n:Int)(y:∀v σ',Dn rb b sd tg fu l lv J (pz s (dA sd x.who)) v σ'->K v σ'):g114.u VV [.ak rb 0,.agg (bC x),O n] J K:=by
 have F:=Yb hr;have f0:Fr rb lv lv J (J++[U.box (bC x)]):=Fr.app _ (λk n e=>hl.lt e);have r1:=Zb [U.box (bC x)] hr;have z:LV rb l lv (J++[U.box (bC x)]):=hl.fG (λk d _=>Zg _ d);rw[H3.e];unfold g114;dsimp only;refine Qd (zx _ _) (Qf J _) (Z rfl (Z (ld (Xc _ _) (nB x)) ?_));refine Xe hP (f:=154) rfl g154.ok rfl (Zen r1 h01 _ ?_);have D:=JF h01 x.who;generalize dA sd x.who=i at *;refine ay ?_;have G:rb<(J++[U.box (bC x)]).length:=by simp;omega
 have A:Fr rb lv lv (J++[U.box (bC x)]) (J++[U.box (bC x)]++[.rows 1 [[O 0],[O 1]]]):=Fr.app _ (λk n e=>z.lt e);have B:LV rb l lv (J++[U.box (bC x)]++[.rows 1 [[O 0],[O 1]]]):=z.fG (λk d _=>Zg _ d);have C:=Zb [.rows 1 [[O 0],[O 1]]] r1;rcases D with rfl|rfl
 ·refine Z rfl (Z rfl (Z (ld r1 rfl) (bD (qg s.s0.hand (by omega)) g30.ok ?_)));refine Qd (v:=.sl (J++[U.box (bC x)]).length 0 2 true) (rd:=[]) (up:=[((J++[U.box (bC x)]).length,.rows 1 [[O 0],[O 1]])]) rfl (Qf _ _) (Xe hP (f:=156) rfl g156.ok rfl (Io C s.s0.hand (aM s.s0.hand) [] (λ_=>rfl) [0,1] _ (Xc _ _) (by omega) (by simp) 100000000 hT (by simp;omega) (by simp) (Z (v:=.agg (c_ ⟨10,0,0,0,0,0,s.s0.hand⟩ (aM s.s0.hand))) rfl (Xe hP (f:=153) rfl g153.ok rfl (vZ (Qp (CJ (by simp;omega))) (B.fG (λk d j=>Qb _ d j)) hn _ _ (.inl rfl) (λσ' o p r w=>?_))))));exact y _ _ ⟨o,mv,((f0.trans A).trans (Fr.set lv _)).trans p,r,rfl,w⟩
 ·refine Z rfl (Z rfl (Z (ld r1 rfl) (bD (qg s.s1.hand (by omega)) g30.ok ?_)));refine Qd (v:=.sl (J++[U.box (bC x)]).length 0 2 true) (rd:=[]) (up:=[((J++[U.box (bC x)]).length,.rows 1 [[O 0],[O 1]])]) rfl (Qf _ _) (Xe hP (f:=156) rfl g156.ok rfl (Io C s.s1.hand (aM s.s1.hand) [] (λ_=>rfl) [0,1] _ (Xc _ _) (by omega) (by simp) 100000000 hT (by simp;omega) (by simp) (Z (v:=.agg (c_ ⟨10,1,0,0,0,0,s.s1.hand⟩ (aM s.s1.hand))) rfl (Xe hP (f:=153) rfl g153.ok rfl (vZ (Qp (CJ (by simp;omega))) (B.fG (λk d j=>Qb _ d j)) hn _ _ (.inl rfl) (λσ' o p r w=>?_))))));exact y _ _ ⟨o,mv,((f0.trans A).trans (Fr.set lv _)).trans p,r,rfl,w⟩
def dt(s:St)(i:Int):Int×St×List Ev:=
 match (s.side i).hand with
 |[]=>(0,s,[])
 |c::h=>(0,dJ (s.put i { s.side i with hand:=h,ao:=(s.side i).ao++[c] }) [c] [0,1],[⟨8,i,c,0,0,0,[]⟩])
theorem XeR{mv:I}(hr:ai J rb=.box (dz b s sd tg lv fu mv))(hl:LV rb l lv J)(hn:l.length<=1000000000)(h01:sd=0\/sd=1)
 (hT:TB 100000000 s)(R_:s.s0.hand.length<=100000000/\s.s0.ao.length<=100000000)(IL:s.s1.hand.length<=100000000/\s.s1.ao.length<=100000000)(x:Ef)(n:Int)(D:∀v σ',Dn rb b sd tg fu l lv J (dt s (dA sd x.who)) v σ'->K v σ'):g112.u VV [.ak rb 0,.agg (bC x),O n] J K:=by
 have wq:=Yb hr;have f0:Fr rb lv lv J (J++[U.box (bC x)]):=Fr.app _ (λk n e=>hl.lt e);have r1:=Zb [U.box (bC x)] hr;have E:LV rb l lv (J++[U.box (bC x)]):=hl.fG (λk d _=>Zg _ d);rw[H3.e];unfold g112;dsimp only;refine Qd (zx _ _) (Qf J _) (Z rfl (Z (ld (Xc _ _) (nB x)) ?_));refine Xe hP (f:=154) rfl g154.ok rfl (Zen r1 h01 _ ?_);have hw:=JF h01 x.who;generalize dA sd x.who=i at *;refine ay ?_;have r:rb<(J++[U.box (bC x)]).length:=by simp;omega
 generalize hσ:J++[U.box (bC x)]=τ at *;rcases hw with rfl|rfl
 ·refine ay ?_;refine Z (ld r1 rfl) ?_;refine ae ?_;obtain⟨hd,hg⟩:=R_;have j:∀h,s.s0.hand=h->dt s 0=match h with | []=>(0,s,[])|c::h=>(0,dJ (s.put 0 { s.s0 with hand:=h,ao:=s.s0.ao++[c] }) [c] [0,1],[⟨8,0,c,0,0,0,[]⟩]):=by
   intro h e;subst e;rfl
  have r1':=r1;generalize w:s.s0.hand=h at *;cases h with
  |nil=>
   have j:=j [] rfl;refine Xg ?_;exact D _ _ ⟨lv,mv,f0,by rw[j];exact r1',by rw[j],by rw[j];simpa using E⟩
  |cons c h=>
  have j:dt s 0=(0,dJ (s.put 0 { s.s0 with hand:=h,ao:=s.s0.ao++[c] }) [c] [0,1],[⟨8,0,c,0,0,0,[]⟩]):=j _ rfl;refine Ya (λh=>by simp at h;omega) (λ_=>?_);refine Z rfl (Z rfl (Z (ld r1 rfl) ?_));rw[w];refine ay (Z (ld r1 rfl) ?_);rw[w];have F:h.length<=1000000000:=by simp at hd;omega
  refine Z (Zdr c h _) (bD (qg h F) g30.ok (Z rfl (Z rfl ?_)));refine Qd (cO (row':=dz b (s.put 0 { s.s0 with hand:=h }) sd tg lv fu mv) r1 rfl rfl rfl) (Ye _ r) ?_;have z:ai (τ.set rb (.box (dz b (s.put 0 { s.s0 with hand:=h }) sd tg lv fu mv))) rb=.box (dz b (s.put 0 { s.s0 with hand:=h }) sd tg lv fu mv):=Qp (CJ r);have f2:Fr rb lv lv J (τ.set rb (.box (dz b (s.put 0 { s.s0 with hand:=h }) sd tg lv fu mv))):=f0.trans (Fr.set lv _);have A:LV rb l lv (τ.set rb (.box (dz b (s.put 0 { s.s0 with hand:=h }) sd tg lv fu mv))):=E.fG (λk d o=>Qb _ d o);have aai:rb<(τ.set rb (.box (dz b (s.put 0 { s.s0 with hand:=h }) sd tg lv fu mv))).length:=by simpa using r
  generalize τ.set rb (.box (dz b (s.put 0 { s.s0 with hand:=h }) sd tg lv fu mv))=τ2 at *;refine Z rfl (Z rfl (Z (ld z rfl) (bD (c405 s.s0.ao) g155.ok ?_)));refine Qd (v:=.sl τ2.length 0 1 true) (rd:=[]) (up:=[(τ2.length,.rows 1 [[O c]])]) rfl (Qf _ _) ?_;have G:=Zb [U.rows 1 [[O c]]] z;have f3:Fr rb lv lv J (τ2++[U.rows 1 [[O c]]]):=f2.trans (Fr.app _ (λk n e=>A.lt e));have H:LV rb l lv (τ2++[U.rows 1 [[O c]]]):=A.fG (λk d _=>Zg _ d);have L:=Xc τ2 (.rows 1 [[O c]]);have p:rb<(τ2++[U.rows 1 [[O c]]]).length:=by simp;omega
  refine Qd (Rq s.s0.ao [c] (A_ L) (by simp;omega)) rfl (Z rfl (Z rfl ?_));generalize τ2++[U.rows 1 [[O c]]]=τ3 at *;refine Qd (cO (row':=dz b (s.put 0 { s.s0 with hand:=h,ao:=s.s0.ao++[c] }) sd tg lv fu mv) G rfl rfl rfl) (Ye _ p) ?_;have N:ai (τ3.set rb (.box (dz b (s.put 0 { s.s0 with hand:=h,ao:=s.s0.ao++[c] }) sd tg lv fu mv))) rb=.box (dz b (s.put 0 { s.s0 with hand:=h,ao:=s.s0.ao++[c] }) sd tg lv fu mv):=Qp (CJ p);have f4:Fr rb lv lv J (τ3.set rb (.box (dz b (s.put 0 { s.s0 with hand:=h,ao:=s.s0.ao++[c] }) sd tg lv fu mv))):=f3.trans (Fr.set lv _);have B:LV rb l lv (τ3.set rb (.box (dz b (s.put 0 { s.s0 with hand:=h,ao:=s.s0.ao++[c] }) sd tg lv fu mv))):=H.fG (λk d o=>Qb _ d o);have aaj:rb<(τ3.set rb (.box (dz b (s.put 0 { s.s0 with hand:=h,ao:=s.s0.ao++[c] }) sd tg lv fu mv))).length:=by simpa using p
  have P:TB 100000000 (s.put 0 { s.s0 with hand:=h,ao:=s.s0.ao++[c] }):=hT;generalize τ3.set rb (.box (dz b (s.put 0 { s.s0 with hand:=h,ao:=s.s0.ao++[c] }) sd tg lv fu mv))=τ4 at *;generalize s.put 0 { s.s0 with hand:=h,ao:=s.s0.ao++[c] }=s4 at *;refine Qd (v:=.sl τ4.length 0 1 true) (rd:=[]) (up:=[(τ4.length,.rows 1 [[O c]])]) rfl (Qf _ _) ?_;have Q:=Zb [U.rows 1 [[O c]]] N;have f5:Fr rb lv lv J (τ4++[U.rows 1 [[O c]]]):=f4.trans (Fr.app _ (λk n e=>B.lt e));have C:LV rb l lv (τ4++[U.rows 1 [[O c]]]):=B.fG (λk d _=>Zg _ d);have R:=Xc τ4 (.rows 1 [[O c]]);have aak:rb<(τ4++[U.rows 1 [[O c]]]).length:=by simp;omega
  have ne5:τ4.length≠rb:=by omega
  generalize τ4++[U.rows 1 [[O c]]]=τ5 at *;refine Qd (v:=.sl τ5.length 0 2 true) (rd:=[]) (up:=[(τ5.length,.rows 1 [[O 0],[O 1]])]) rfl (Qf _ _) ?_;have S:=Zb [U.rows 1 [[O 0],[O 1]]] Q;have f6:Fr rb lv lv J (τ5++[U.rows 1 [[O 0],[O 1]]]):=f5.trans (Fr.app _ (λk n e=>C.lt e));have T:LV rb l lv (τ5++[U.rows 1 [[O 0],[O 1]]]):=C.fG (λk d _=>Zg _ d);have V:=Zb [U.rows 1 [[O 0],[O 1]]] R;have X:=Xc τ5 (.rows 1 [[O 0],[O 1]]);have Y:rb<(τ5++[U.rows 1 [[O 0],[O 1]]]).length:=by simp;omega
  refine Xe hP (f:=156) rfl g156.ok rfl (Io S [c] (.sl τ4.length 0 1 true) [τ4.length] (λy=>A_ (Qa V (by simp) ne5.symm)) [0,1] _ X (by omega) (by simp) 100000000 P (by simp) (by simp) (Z (v:=.agg (c_ ⟨8,0,c,0,0,0,[]⟩ .aq)) rfl (Xe hP (f:=153) rfl g153.ok rfl (vZ (Qp (CJ Y)) (T.fG (λk d o=>Qb _ d o)) hn _ _ (.inr ⟨rfl,rfl⟩) (λσ' cW q1 q2 q3=>?_)))));exact D _ _ ⟨cW,mv,(f6.trans (Fr.set lv _)).trans q1,by rw[j];exact q2,by rw[j],by rw[j];exact q3⟩
 ·refine ay ?_;refine Z (ld r1 rfl) ?_;refine ae ?_;obtain⟨hd,hg⟩:=IL;have j:∀h,s.s1.hand=h->dt s 1=match h with | []=>(0,s,[])|c::h=>(0,dJ (s.put 1 { s.s1 with hand:=h,ao:=s.s1.ao++[c] }) [c] [0,1],[⟨8,1,c,0,0,0,[]⟩]):=by
   intro h e;subst e;rfl
  have r1':=r1;generalize w:s.s1.hand=h at *;cases h with
  |nil=>
   have j:=j [] rfl;refine Xg ?_;exact D _ _ ⟨lv,mv,f0,by rw[j];exact r1',by rw[j],by rw[j];simpa using E⟩
  |cons c h=>
  have j:dt s 1=(0,dJ (s.put 1 { s.s1 with hand:=h,ao:=s.s1.ao++[c] }) [c] [0,1],[⟨8,1,c,0,0,0,[]⟩]):=j _ rfl;refine Ya (λh=>by simp at h;omega) (λ_=>?_);refine Z rfl (Z rfl (Z (ld r1 rfl) ?_));rw[w];refine ay (Z (ld r1 rfl) ?_);rw[w];have F:h.length<=1000000000:=by simp at hd;omega
  refine Z (Zdr c h _) (bD (qg h F) g30.ok (Z rfl (Z rfl ?_)));refine Qd (cO (row':=dz b (s.put 1 { s.s1 with hand:=h }) sd tg lv fu mv) r1 rfl rfl rfl) (Ye _ r) ?_;have z:ai (τ.set rb (.box (dz b (s.put 1 { s.s1 with hand:=h }) sd tg lv fu mv))) rb=.box (dz b (s.put 1 { s.s1 with hand:=h }) sd tg lv fu mv):=Qp (CJ r);have f2:Fr rb lv lv J (τ.set rb (.box (dz b (s.put 1 { s.s1 with hand:=h }) sd tg lv fu mv))):=f0.trans (Fr.set lv _);have A:LV rb l lv (τ.set rb (.box (dz b (s.put 1 { s.s1 with hand:=h }) sd tg lv fu mv))):=E.fG (λk d o=>Qb _ d o);have aai:rb<(τ.set rb (.box (dz b (s.put 1 { s.s1 with hand:=h }) sd tg lv fu mv))).length:=by simpa using r
  generalize τ.set rb (.box (dz b (s.put 1 { s.s1 with hand:=h }) sd tg lv fu mv))=τ2 at *;refine Z rfl (Z rfl (Z (ld z rfl) (bD (c405 s.s1.ao) g155.ok ?_)));refine Qd (v:=.sl τ2.length 0 1 true) (rd:=[]) (up:=[(τ2.length,.rows 1 [[O c]])]) rfl (Qf _ _) ?_;have G:=Zb [U.rows 1 [[O c]]] z;have f3:Fr rb lv lv J (τ2++[U.rows 1 [[O c]]]):=f2.trans (Fr.app _ (λk n e=>A.lt e));have H:LV rb l lv (τ2++[U.rows 1 [[O c]]]):=A.fG (λk d _=>Zg _ d);have L:=Xc τ2 (.rows 1 [[O c]]);have p:rb<(τ2++[U.rows 1 [[O c]]]).length:=by simp;omega
  refine Qd (Rq s.s1.ao [c] (A_ L) (by simp;omega)) rfl (Z rfl (Z rfl ?_));generalize τ2++[U.rows 1 [[O c]]]=τ3 at *;refine Qd (cO (row':=dz b (s.put 1 { s.s1 with hand:=h,ao:=s.s1.ao++[c] }) sd tg lv fu mv) G rfl rfl rfl) (Ye _ p) ?_;have N:ai (τ3.set rb (.box (dz b (s.put 1 { s.s1 with hand:=h,ao:=s.s1.ao++[c] }) sd tg lv fu mv))) rb=.box (dz b (s.put 1 { s.s1 with hand:=h,ao:=s.s1.ao++[c] }) sd tg lv fu mv):=Qp (CJ p);have f4:Fr rb lv lv J (τ3.set rb (.box (dz b (s.put 1 { s.s1 with hand:=h,ao:=s.s1.ao++[c] }) sd tg lv fu mv))):=f3.trans (Fr.set lv _);have B:LV rb l lv (τ3.set rb (.box (dz b (s.put 1 { s.s1 with hand:=h,ao:=s.s1.ao++[c] }) sd tg lv fu mv))):=H.fG (λk d o=>Qb _ d o);have aaj:rb<(τ3.set rb (.box (dz b (s.put 1 { s.s1 with hand:=h,ao:=s.s1.ao++[c] }) sd tg lv fu mv))).length:=by simpa using p
  have P:TB 100000000 (s.put 1 { s.s1 with hand:=h,ao:=s.s1.ao++[c] }):=hT;generalize τ3.set rb (.box (dz b (s.put 1 { s.s1 with hand:=h,ao:=s.s1.ao++[c] }) sd tg lv fu mv))=τ4 at *;generalize s.put 1 { s.s1 with hand:=h,ao:=s.s1.ao++[c] }=s4 at *;refine Qd (v:=.sl τ4.length 0 1 true) (rd:=[]) (up:=[(τ4.length,.rows 1 [[O c]])]) rfl (Qf _ _) ?_;have Q:=Zb [U.rows 1 [[O c]]] N;have f5:Fr rb lv lv J (τ4++[U.rows 1 [[O c]]]):=f4.trans (Fr.app _ (λk n e=>B.lt e));have C:LV rb l lv (τ4++[U.rows 1 [[O c]]]):=B.fG (λk d _=>Zg _ d);have R:=Xc τ4 (.rows 1 [[O c]]);have aak:rb<(τ4++[U.rows 1 [[O c]]]).length:=by simp;omega
  have ne5:τ4.length≠rb:=by omega
  generalize τ4++[U.rows 1 [[O c]]]=τ5 at *;refine Qd (v:=.sl τ5.length 0 2 true) (rd:=[]) (up:=[(τ5.length,.rows 1 [[O 0],[O 1]])]) rfl (Qf _ _) ?_;have S:=Zb [U.rows 1 [[O 0],[O 1]]] Q;have f6:Fr rb lv lv J (τ5++[U.rows 1 [[O 0],[O 1]]]):=f5.trans (Fr.app _ (λk n e=>C.lt e));have T:LV rb l lv (τ5++[U.rows 1 [[O 0],[O 1]]]):=C.fG (λk d _=>Zg _ d);have V:=Zb [U.rows 1 [[O 0],[O 1]]] R;have X:=Xc τ5 (.rows 1 [[O 0],[O 1]]);have Y:rb<(τ5++[U.rows 1 [[O 0],[O 1]]]).length:=by simp;omega
  refine Xe hP (f:=156) rfl g156.ok rfl (Io S [c] (.sl τ4.length 0 1 true) [τ4.length] (λy=>A_ (Qa V (by simp) ne5.symm)) [0,1] _ X (by omega) (by simp) 100000000 P (by simp) (by simp) (Z (v:=.agg (c_ ⟨8,1,c,0,0,0,[]⟩ .aq)) rfl (Xe hP (f:=153) rfl g153.ok rfl (vZ (Qp (CJ Y)) (T.fG (λk d o=>Qb _ d o)) hn _ _ (.inr ⟨rfl,rfl⟩) (λσ' cW q1 q2 q3=>?_)))));exact D _ _ ⟨cW,mv,(f6.trans (Fr.set lv _)).trans q1,by rw[j];exact q2,by rw[j],by rw[j];exact q3⟩
def sf(b:Bk)(s:St)(sd op who:Int)(name:Tx)(d:List Int)(f:List Bool):Bool:=
 if op=0 then decide (d.getD 0 0<d.getD 1 0)else if op=1 then decide (d.getD 0 0<=d.getD 1 0)else if op=2 then decide (d.getD 0 0=d.getD 1 0)
 else if op=3 then !f.getD 0 false else if op=4 then f.getD 0 false&&f.getD 1 false else if op=5 then f.getD 0 false||f.getD 1 false
 else (mR s (dA sd who)).hand.any λc=>(ZP b c).name==name
mutual
def lA (b:Bk) (s:St) (sd tg:Int):Cn->Bool
 |.mk op who name aF kids=>sf b s sd op who name (lL b s sd tg aF) (lP b s sd tg kids)
def lP (b:Bk) (s:St) (sd tg:Int):List Cn->List Bool
 |[]=>[]
 |x::l=>lA b s sd tg x::lP b s sd tg l
end
theorem YdU(b:Bk)(s:St)(sd tg:Int)(x:Cn):lA b s sd tg x=sf b s sd x.op x.who x.name (lL b s sd tg x.aF) (lP b s sd tg x.kids):=by cases x;rfl
theorem Qci(b:Bk)(s:St)(sd tg:Int):∀(l:List Nm) (i:Nat) (h:i<l.length),(lL b s sd tg l).getD i 0=ik b s sd tg l[i]
 |x::l,0,_=>rfl
 |x::l,i+1,h=>by
  have:=Qci b s sd tg l i (by simpa using h);simpa[lL]using this
theorem ZbI(b:Bk)(s:St)(sd tg:Int):∀(l:List Cn) (i:Nat) (h:i<l.length),(lP b s sd tg l).getD i false=lA b s sd tg l[i]
 |x::l,0,_=>rfl
 |x::l,i+1,h=>by
  have:=ZbI b s sd tg l i (by simpa using h);simpa[lP]using this
def Ku(d:List Int)(i:Nat):List I:=[O (if 0<i then d.getD 0 0 else 0),O (if 1<i then d.getD 1 0 else 0)]
def Kt(d:List Bool)(i:Nat):List I:=[.bool (if 0<i then d.getD 0 false else false),.bool (if 1<i then d.getD 1 false else false)]
theorem Xci{t:Bool}:∀ {l:List Nm},dI t l=true->∀y∈l,iF t y=true
 |a::l,h,y,d=>by
  simp only[dI,AA]at h;simp only[Az]at d;rcases d with rfl|d
  ·exact h.1
  ·exact Xci h.2 y d
theorem Xb9{cs:List Cd}{t:Bool}:∀ {l:List Cn},ga cs t l=true->∀y∈l,jI cs t y=true
 |a::l,h,y,d=>by
  simp only[ga,AA]at h;simp only[Az]at d;rcases d with rfl|d
  ·exact h.1
  ·exact Xb9 h.2 y d
def Oo(b:Bk)(s:St):Prop:=∀k c,c∈(mR s k).az\/c∈(mR s k).hand->0<=c/\c.toNat<b.aj.length
theorem BR(b:Bk)(hf:aN b=true)(P:Yg b.aj)(s:St)(hs:ba 1000000000 s)(hm:aJ (bO b).1 b s true=true)(sd tg:Int)(h0:0<=sd)(h1:sd<=1)(hd:Oo b s)(t:Bool) :
  ∀(k:Nat) (x:Cn) (row:List I) (j:Nat),tB row j x->B3 x<=k->cP x=true->jI b.aj t x=true->PC 279 [.agg [.al row j],rX b s sd tg] (.iface 4 (.bool (lA b s sd tg x)))
 |0,x,_,_,_,h,_,_=>by cases x;simp at h
 |k+1,x,row,j,w,hk,Q,bT=>by
  have F:=bT;rw[Tf]at F;simp only[AA]at F;obtain⟨k1,k2,k3,_⟩:=F;simp only[jv,AA,fe]at k1;obtain⟨ka,kb,D,G⟩:=k1;have kc2:x.aF.length<=2:=by rw[D,oJ];split<;>omega
  have kd2:x.kids.length<=2:=by grind [pO]
  have R:∀(i:Nat) (o:i<x.aF.length),PC 261 [.agg [.al (cK x.aF[i]) 0],rX b s sd tg] (.iface 3 (O ((lL b s sd tg x.aF).getD i 0))):=by
   intro i o;have y:=AI o;rw[Qci b s sd tg x.aF i o];exact qh b hf P s hs hm sd tg h0 h1 (λc z=>hd _ c (.inl z)) t _ _ _ 0 (rB _) (AO _) (X2 Q y) (Xci k2 _ y)
  have S:∀(i:Nat) (o:i<x.kids.length),PC 279 [.agg [.al (fA x.kids[i]) 0],rX b s sd tg] (.iface 4 (.bool ((lP b s sd tg x.kids).getD i false))):=by
   intro i o;have y:=AI o;rw[ZbI b s sd tg x.kids i o];exact BR b hf P s hs hm sd tg h0 h1 hd t k _ _ 0 (z8 _) (by have:=Bo y;omega) (Y2 Q y) (Xb9 k3 _ y)
  rw[YdU];generalize lL b s sd tg x.aF=f at R ⊢;generalize lP b s sd tg x.kids=d at S ⊢;refine Xa hP g279.ok rfl rfl ?_;rw[H2.e];unfold g279;dsimp only;refine ay ?_;refine Z (bg w.h3) (Z (v:=O x.aF.length) (rd:=[]) (by simp[Yn]) ?_);refine Zh (ι:=Nat) (λi r τ=>r=[O i]/\i<=x.aF.length/\τ=[.box [.al row j],.box (Ku f i),.box [.bool false,.bool false]]) (λi=>x.aF.length-i) 0 ⟨rfl,by omega,rfl⟩ ?_;rintro i r τ again ⟨rfl,o,rfl⟩ p;refine Z rfl (ZT (λh=>?_) (λh=>?_))
  ·refine ay (Z (bg w.h3) (Z (Zm _ cK _ _ _ x.aF _ i h) (Z rfl (bD (R i h) g261.ok (Z rfl ?_)))));have h01:i=0\/i=1:=by omega
   rcases h01 with rfl|rfl
   ·refine ay (p 1 _ _ (by omega) ⟨rfl,by omega,rfl⟩)
   ·refine ay (p 2 _ _ (by omega) ⟨rfl,by omega,rfl⟩)
  subst h;clear p;refine ay ?_;refine Z (bg w.h4) (Z (v:=O x.kids.length) (rd:=[]) (by simp[Yn]) ?_);generalize H:Ku f x.aF.length=A;refine Zh (ι:=Nat) (λi r τ=>r=[O i]/\i<=x.kids.length/\τ=[.box [.al row j],.box A,.box (Kt d i)]) (λi=>x.kids.length-i) 0 ⟨rfl,by omega,rfl⟩ ?_;rintro i r τ again ⟨rfl,o,rfl⟩ p;refine Z rfl (ZT (λh=>?_) (λh=>?_))
  ·refine ay (Z (bg w.h4) (Z (Zm _ fA _ _ _ x.kids _ i h) (Z rfl (bD (S i h) g279.ok (Z rfl ?_)))));have h01:i=0\/i=1:=by omega
   rcases h01 with rfl|rfl
   ·refine ay (p 1 _ _ (by omega) ⟨rfl,by omega,rfl⟩)
   ·refine ay (p 2 _ _ (by omega) ⟨rfl,by omega,rfl⟩)
  subst h;clear p;generalize L:Kt d x.kids.length=E;refine ay (Z (bg w.h0) ?_);have mn:x.op=0\/x.op=1\/x.op=2\/x.op=3\/x.op=4\/x.op=5\/x.op=6:=by omega
  rcases mn with e|e|e|e|e|e|e
  ·have B:A=[O (f.getD 0 0),O (f.getD 1 0)]:=by rw[<-H,D,e];rfl
   subst B;rw[e];exact ay rfl
  ·have B:A=[O (f.getD 0 0),O (f.getD 1 0)]:=by rw[<-H,D,e];rfl
   subst B;rw[e];exact ay rfl
  ·have B:A=[O (f.getD 0 0),O (f.getD 1 0)]:=by rw[<-H,D,e];rfl
   subst B;rw[e];exact ae rfl
  ·have C:E=[.bool (d.getD 0 false),.bool false]:=by rw[<-L,G,e];rfl
   subst C;rw[e];exact ay rfl
  ·have C:E=[.bool (d.getD 0 false),.bool (d.getD 1 false)]:=by rw[<-L,G,e];rfl
   subst C;rw[e];refine ay ?_;rw[show sf b s sd 4 x.who x.name f d=(d.getD 0 false&&d.getD 1 false) from rfl];rcases cE (d.getD 0 false)with q|q
   ·rw[q];refine ay ?_;rfl
   ·rw[q];refine ay ?_;rfl
  ·have C:E=[.bool (d.getD 0 false),.bool (d.getD 1 false)]:=by rw[<-L,G,e];rfl
   subst C;rw[e];refine ay ?_;rw[show sf b s sd 5 x.who x.name f d=(d.getD 0 false||d.getD 1 false) from rfl];rcases cE (d.getD 0 false)with q|q
   ·rw[q];refine ay ?_;rfl
   ·rw[q];refine ay ?_;rfl
  ·rw[e];refine ay (Z (bg w.h1) (bD (c295 b s sd tg x.who h0 h1) g267.ok ?_));have hv:sf b s sd 6 x.who x.name f d=(mR s (dA sd x.who)).hand.any λc=>(ZP b c).name==x.name:=rfl;rw[hv];have V:∀c∈(mR s (dA sd x.who)).hand,0<=c/\c.toNat<b.aj.length:=λc z=>hd _ c (.inr z);obtain⟨N,hjj,hpt,ir⟩:∃N:Nat,aO false (N+4) 1 (aH s)=some (aM (mR s (dA sd x.who)).hand)/\(bif dA sd x.who==0 then 7 else 15)=N/\(mR s (dA sd x.who)).hand.length<=1000000000:=by
    rcases Ka (who:=x.who) h0 h1 with h|h
    ·rw[h];exact⟨7,rfl,rfl,hs.s0.hand⟩
    ·rw[h];exact⟨15,rfl,rfl,hs.s1.hand⟩
   rw[hpt];generalize (mR s (dA sd x.who)).hand=hand at hjj V ir ⊢;refine Z rfl (Z rfl (Z (bg hjj) (Z (v:=O hand.length) (rd:=[]) (by simp[Yn]) ?_)));refine Zh (ι:=Nat) (λi r τ=>r=[O i]/\i<=hand.length/\τ=[.box [.al row j],.box A,.box E]/\(hand.take i).any (λc=>(ZP b c).name==x.name)=false) (λi=>hand.length-i) 0 ⟨rfl,by omega,rfl,rfl⟩ ?_;rintro i r τ again ⟨rfl,o,rfl,X⟩ p;refine Z rfl (ZT (λh=>?_) (λh=>?_))
   ·obtain⟨q1,Y⟩:=V hand[i] (AI h);refine Z (Zm _ aK _ _ _ hand _ i h) (ax (Z (wM _ cM _ _ _ b.aj _ _ q1 Y) ?_));refine ax (Z (bg w.h2) (Z (vn ..) ?_));have z:ZP b hand[i]=b.aj[hand[i].toNat]:=by simp[ZP,Y]
    refine Ya (λhq=>?_) (λhq=>?_)
    ·have:hand.any (λc=>(ZP b c).name==x.name)=true:=List.any_eq_true.2 ⟨hand[i],AI h,by rw[z];exact hq⟩;rw[this];exact Z rfl rfl
    ·refine Z (Qi ..) ?_;rw[Zd (n:=i) (by omega)];refine p (i+1) _ _ (by omega) ⟨rfl,by omega,rfl,?_⟩
     grind [Yv]
   ·subst h;rw[C5]at X;rw[X];exact Z rfl rfl
theorem c569(b:Bk)(hf:aN b=true)(d:Yg b.aj)(s:St)(hs:ba 1000000000 s)(hm:aJ (bO b).1 b s true=true)(sd tg:Int)(h0:0<=sd)(h1:sd<=1)(hd:Oo b s)(t:Bool)(x:Cn)(hx:cP x=true)(bT:jI b.aj t x=true) :
  PC 279 [.agg [.al (fA x) 0],rX b s sd tg] (.iface 4 (.bool (lA b s sd tg x))):=BR b hf d s hs hm sd tg h0 h1 hd t _ x _ 0 (z8 x) (AO _) hx bT
def zk(y:Cn):Ef:=.mk 8 0 I5 [] y [] []
def Iw(y:Cn):Cd:=⟨[80,114,111,98,101],false,0,0,0,0,0,0,[zk y],[],[],0⟩
def wT(b:Bk)(y:Cn):Bool:=!decide (pN (Iw y)-1>200)&&b_ b.aj true 1 [zk y]
theorem Ydm{y:Cn}(h:wT b y=true):jI b.aj true y=true:=by
 simp only[wT,b_,cR,AA]at h;obtain⟨_,_,_,h,_⟩:=h;rw[Dd,aE (show (zk y).op=8 from rfl)]at h;simp only[AA]at h;exact h.2.2.2.2.2.1
@[reducible] def MR(y:Cn):List I:=[aS 8,aS 0,aS 0,O 0,aS 0,.aq,.str [],aS y.op,aS y.who,.str y.name,.aX false false 4 (y.aF.map cK),.aX false false 5 (y.kids.map fA),.aq,.aq]
theorem YeW(y:Cn):bA h0 rd (MR y) (bC (zk y)):=by
 rw[Yz];exact .cons (aA.ro rfl) <| .cons (aA.ro rfl) <| .cons (aA.ro rfl) <| .cons (aA.ro rfl) <| .cons (aA.ro rfl) <| .cons (aA.nl 4) <| .cons (aA.ro rfl) <| .cons (aA.ro rfl) <| .cons (aA.ro rfl) <| .cons (aA.ro rfl) <|
  .cons (aA.ro rfl) <| .cons (aA.ro rfl) <| .cons (aA.nl 14) <| .cons (aA.nl 14) .nil
theorem XeW(y:Cn){b:Nat}(hb:h0 b=some (.rows 14 [MR y]))(ct:b∈rd):aA h0 rd (.sl b 0 1 true) (gE [zk y]):=by
 refine aA.d_ (y:=.aX true false 14 [bC (zk y)]) (aA.sl hb ct (by simp) rfl (λi row row' f j=>?_)) (λM u d=>d.g_)
 grind [YeW]
theorem Yel{y:Cn}(h:cP y=true):bz [zk y]=true:=by
 simp[bz,zk,yX,dO,h,di,I5,de,zJ,CK,Ek]
theorem KA(b:Bk)(hf:aN b=true)(y:Cn)(hy:cP y=true)(ei:(tN y).length<=1000000):PC 158 [.dq,.al (fA y) 0,.al (cf b) 0] (.bool (wT b y)):=by
 have d:QE b.aj=true:=by
  simp_all [aN]
 have f:(od (Iw y)).length<=500000000:=by grind [od,Iw,bR,zk,jD,cQ]
 have h124:=c124 (Iw y) (Yel hy) rfl rfl f;have h125:=c125 b.aj d [zk y] (Yel hy);have hwr:-9223372036854775808<=pN (Iw y)-1/\pN (Iw y)-1<=9223372036854775807:=by rw[P9];omega
 unfold wT;rw[QN];refine Xa hP g158.ok rfl rfl ?_;rw[H3.e];unfold g158;dsimp only;refine Z rfl (Qd (v:=.ak 0 0) rfl rfl (Qd (v:=.aP) (rd:=[]) (up:=[(0,.box [aS 3,aS 0,aS 0,O 0,aS 0,.aq,.str [],aS 0,aS 0,.str [],.aq,.aq,.aq,.aq])]) rfl rfl (Z rfl (yR (Yf ?_)))));refine Xd rfl (Ze (bg rfl) rfl (Xd rfl (Ze (v:=.aP) (rd:=[]) (up:=[(0,.box [aS 8,aS 0,aS 0,O 0,aS 0,.aq,.str [],aS 0,aS 0,.str [],.aq,.aq,.aq,.aq])]) rfl rfl (Xd rfl (Ze (v:=.aP) (rd:=[]) (up:=[(0,.box (MR y))]) rfl rfl (Xo (by kernel_rfl) ?_))))));refine Z (ld (row:=MR y) rfl rfl) (Qd (v:=.sl 1 0 1 true) (rd:=[]) (up:=[(1,.rows 14 [MR y])]) rfl rfl (Z rfl (Qd (v:=.ak 2 0) rfl rfl ?_)));refine Qd (v:=.aP) (rd:=[]) (up:=[(2,.box [.str [80,114,111,98,101],.bool false,O 0,O 0,O 0,O 0,O 0,O 0,.sl 1 0 1 true,.aq,.aq,O 0])]) rfl rfl (Z (ld (row:=[.str [80,114,111,98,101],.bool false,O 0,O 0,O 0,O 0,O 0,O 0,.sl 1 0 1 true,.aq,.aq,O 0]) rfl rfl) (Yt (rd:=[1]) h124 rfl g132.ok.plain (.cons (aA.agg ?_) .nil) rfl ?_))
 ·exact .cons (aA.ro rfl) <| .cons (aA.ro rfl) <| .cons (aA.ro rfl) <| .cons (aA.ro rfl) <| .cons (aA.ro rfl) <| .cons (aA.ro rfl) <| .cons (aA.ro rfl) <| .cons (aA.ro rfl) <| .cons (XeW y rfl (by simp)) <|
   .cons (aA.nl 14) <| .cons (aA.nl 14) <| .cons (aA.ro rfl) .nil
 refine Z (Bv ..) ?_;rw[Bb _ hwr];refine ay (Ya (λh=>?_) (λh=>?_))
 ·rw[h];rfl
 rw[h];refine ay ?_;exact Ir (rd:=[1]) h125 rfl g194.ok.plain (.cons (aA.ro rfl) (.cons (XeW y rfl (by simp)) .nil)) rfl (Xo (by kernel_rfl) rfl)
theorem c169(b:Bk)(hf:aN b=true)(f:Yg b.aj)(s:St)(hs:ba 1000000000 s)(hm:aJ (bO b).1 b s true=true)(sd tg:Int)(h0:0<=sd)(h1:sd<=1)(hd:Oo b s)(y:Cn)(hy:cP y=true)(ei:(tN y).length<=1000000) :
  PC 116 [dd b,bN s,.agg [O sd,O tg],.agg (fA y)] (.bw [.bool (wT b y&&lA b s sd tg y),O (if wT b y=true then 0 else 2)]):=by
 have p:=qh b hf f s hs hm sd tg h0 h1 (λc r=>hd _ c (.inl r)) true _ I5 (cK I5) 0 (rB _) (AO _) rfl rfl;have w:=c81 b hf f s hs hm sd tg h0 h1 _ _ _ p;have h82:=KA b hf y hy ei;have x:wT b y=true->PC 157 [.al (cf b) 0,.al (aH s) 0,.agg [O sd,O tg],.iface 244 (.agg [.al (fA y) 0])] (.bw [.iface 4 (.bool (lA b s sd tg y)),O 0]):=λh=>
  VQ b hf f s hs hm sd tg h0 h1 _ _ _ (c569 b hf f s hs hm sd tg h0 h1 hd true y hy (Ydm h))
 refine Xa hP g116.ok rfl rfl ?_;rw[H4.e];unfold g116;dsimp only;refine ay ?_;refine Qd (v:=.ak 3 0) (rd:=[]) (up:=[(3,.box (fA y))]) (by rw[QN];rfl) rfl ?_;refine ay ?_;have i:∀ {J:List U} {rd:List Nat},ai J 0=.box (cf b)->0∈rd->aA (hp J) rd (.ak 0 0) (.al (cf b) 0):=λh d=>aA.box (ZS h) d (bA.ro rfl);have j:∀ {J:List U} {rd:List Nat},ai J 1=.box (aH s)->1∈rd->aA (hp J) rd (.ak 1 0) (.al (aH s) 0):=λh d=>aA.box (ZS h) d (bA.ro rfl);have o:∀ {J:List U} {rd:List Nat},ai J 3=.box (fA y)->3∈rd->aA (hp J) rd (.ak 3 0) (.al (fA y) 0):=λh d=>aA.box (ZS h) d (bA.ro (by rw[QN];rfl));refine Yt (rd:=[0,1,4]) w rfl kT (.cons (i rfl (by simp)) <| .cons (j rfl (by simp)) <| .cons (aA.ro rfl) <| .cons (aA.iface (aA.agg (.cons (aA.box (row:=[aS 0,O 0,aS 0,.aq]) rfl (by simp) ?_) .nil))) .nil) rfl ?_
 ·exact .cons (aA.ro rfl) <| .cons (aA.ro rfl) <| .cons (aA.ro rfl) <| .cons (aA.nl 4) .nil
 refine ay (Yt (rd:=[0,3]) h82 rfl g158.ok.plain (.cons (aA.ro rfl) <| .cons (o rfl (by simp)) <| .cons (i rfl (by simp)) .nil) rfl ?_);rcases cE (wT b y)with hq|hq
 ·rw[hq];refine ay (Yt (rd:=[0,1,3]) (x hq) rfl kT (.cons (i rfl (by simp)) <| .cons (j rfl (by simp)) <| .cons (aA.ro rfl) <| .cons (aA.iface (aA.agg (.cons (o rfl (by simp)) .nil))) .nil) rfl ?_);exact ay rfl
 ·rw[hq];refine ay rfl
def el(s:St)(sd tg who:Int):Int×Int×Bool:=
 if who=0 then (0,sd,true)else if who=1 then (0,1-sd,true)else if who≠2 then (0,0,false)
 else if tg = -2\/tg = -3 then (0,-2-tg,true)else if 0<tg then (if (aC s tg).2.2=true then (tg,(aC s tg).1,true)else (0,0,false))else (0,0,false)
theorem c170(s:St)(hs:ba 1000000000 s)(sd tg who:Int)(h0:0<=sd)(h1:sd<=1):PC 192 [bN s,.agg [O sd,O tg],aS who] (.bw [O (el s sd tg who).1,O (el s sd tg who).2.1,.bool (el s sd tg who).2.2]):=by
 have h71:=c71 s hs tg;refine Xa hP g192.ok rfl rfl ?_;rw[H3.e];unfold g192;dsimp only;refine ay ?_;rw[show decide (sd<0)=false from i7 (by omega)];refine Xb (Z rfl (Xb (Z (ld (row:=[O sd,O tg]) (v:=O sd) rfl rfl) (Xb (Z (v:=.bool (decide (sd>1))) rfl ?_)))));rw[show decide (sd>1)=false from i7 (by omega)];refine Z rfl (Yf (Zj λf i=>?_));have j:el s sd tg who=(0,0,false)->f [] [.box (aH s),.box [O sd,O tg]]:=by
  simp_all
 clear i;refine Z (Xr ..) (Ya (λh=>?_) (λh=>?_))
 ·have h:who=0:=by simpa using h
  have e:el s sd tg who=(0,sd,true):=by rw[el,aE h]
  rw[e];exact ay rfl
 have h:who≠0:=by simpa using h
 refine Z (Xr ..) (Ya (λh2=>?_) (λh2=>?_))
 ·have h2:who=1:=by simpa using h2
  have e:el s sd tg who=(0,1-sd,true):=by rw[el,aB h,aE h2]
  rw[e];refine ay ?_;rw[Bb _ (by omega)]
 have h2:who≠1:=by simpa using h2
 refine Z (QM ..) (Ya (λh3=>?_) (λh3=>?_))
 ·simp_all [el]
 have h3:¬who≠2:=by simpa using h3
 have d:el s sd tg who=if tg = -2\/tg = -3 then (0,-2-tg,true)else if 0<tg then (if (aC s tg).2.2=true then (tg,(aC s tg).1,true)else (0,0,false))else (0,0,false):=by simp_all [el]
 refine ae ?_;have pick:∀K:I->Prop,K (.bool (decide (tg = -2\/tg = -3)))->VV.gr (.bool (decide (tg = -2))) false (λk=>VV.rd (Qc 1 [.ak 1 0] [.box (aH s),.box [O sd,O tg]]) k) λt39=>
   VV.gr (.bool (decide (tg = -2))) false (λk=>VV.rd (Xf false 1 [t39] [.box (aH s),.box [O sd,O tg]]) k) λt40=>
   VV.gr (.bool (decide (tg = -2))) false (λk=>VV.rd (Qn .eql false [t40,(.int .i64 (-3))] [.box (aH s),.box [O sd,O tg]]) k) λt41=>
   VV.rd (Xk [.bool (decide (tg = -2)),(.bool true),t41] [.box (aH s),.box [O sd,O tg]]) K:=by
  intro K o;by_cases hq:tg = -2
  ·rw[show decide (tg = -2)=true from gA hq];refine ay ?_;simp_all
  ·rw[show decide (tg = -2)=false from i7 hq];refine ae ?_;simp_all
 refine pick _ (Ya (λh4=>?_) (λh4=>?_))
 ·have h4:tg = -2\/tg = -3:=by simpa using h4
  rw[d,aE h4];refine ay ?_;rw[Bb _ (by omega)]
 have h4:¬(tg = -2\/tg = -3):=by simpa using h4
 rw[aB h4]at d;refine ay (Ya (λh5=>?_) (λh5=>?_))
 ·have h5:0<tg:=by simpa using h5
  rw[aE h5]at d;refine ay (bD h71 g73.ok ?_);unfold kQ;refine ay (Ya (λh6=>?_) (λh6=>?_))
  ·rw[aE h6]at d;rw[d];exact ay rfl
  simp_all
 grind
def Ts(s:St)(sd tg who:Int):I:=if (el s sd tg who).2.2=true then (if 0<(el s sd tg who).1 then .iface 280 (.agg [O (el s sd tg who).1,O (el s sd tg who).2.1])else .iface 281 (O (el s sd tg who).2.1))else .dp
theorem YdQ{who:Int}(h01:sd=0\/sd=1)(h:(el s sd tg who).2.2=true):((el s sd tg who).2.1=0\/(el s sd tg who).2.1=1)/\0<=(el s sd tg who).1:=by
 grind [el,aC]
def pk(op:Int)(b:Bk)(s:St)(id k n:Int):St×Ev×Int:=if op=1 then nH s id k n else eX b s id k n
def gX(b:Bk)(s:St)(sd tg op who n:Int):Int×St×List Ev:=
 if (el s sd tg who).2.2=true/\0<=n then
  (if (pk op b s (el s sd tg who).1 (el s sd tg who).2.1 n).2.2=0 then (0,(pk op b s (el s sd tg who).1 (el s sd tg who).2.1 n).1,[(pk op b s (el s sd tg who).1 (el s sd tg who).2.1 n).2.1])
  else ((pk op b s (el s sd tg who).1 (el s sd tg who).2.1 n).2.2,s,[]))
 else (0,s,[])
theorem Z9{b j:Nat}{row:List I}{v:I}(hb:ai J b=.box row)(hv:aO true j n row=some v):fz true n (.ak b j) J=some v:=by
 simp only[fz,hb,hv]
theorem dk.lift{σ':List U}(h:dk J σ' [])(rb:Nat):Fr rb lv lv J σ':=⟨h.1,λk d _ _=>h.2 k d (by simp),λk n e=>.inr ⟨n,e⟩⟩
theorem dk.mY(J:List U)(x:U):dk J (J++[x]) []:=dk.app J [x]
theorem dk.du(h:dk J τ []){b:Nat}(hb:J.length<=b)(x:U):dk J (τ.set b x) []:=
 ⟨by simpa using h.1,λc d _=>by rw[Qb x (Er d h.1) (by omega),h.2 c d (by simp)]⟩
theorem dk.j9(h:dk J τ [])(x:U):dk J (τ++[x]) []:=by
 have:=h.trans (dk.mY τ x);simpa using this
theorem XeC{mv:I}(hr:ai J rb=.box (dz b s sd tg lv fu mv))(h01:sd=0\/sd=1)(hs:ba 1000000000 s)(who:Int)(d:K (Ts s sd tg who) J):g152.u VV [.ak rb 0,aS who] J K:=by
 rw[H2.e];unfold g152;dsimp only;refine Z rfl (Z rfl (Z (v:=bN s) (ld hr rfl) (Z rfl (Z rfl (Z (v:=.agg [O sd,O tg]) (ld hr rfl) ?_)))));refine bD (c170 s hs sd tg who (by omega) (by omega)) g192.ok ?_;unfold Ts at d;refine ay (Ya (λh=>?_) (λh=>?_))
 ·simp_all
 ·rw[aE (by simpa using h)]at d;refine Z (Y4 ..) (Ya (λh2=>?_) (λh2=>?_))
  ·rw[aE (by simpa using h2)]at d;exact Z rfl (Z rfl d)
  ·rw[aB (by simpa using h2)]at d;exact Z rfl d
theorem ZdQ{F:FuncId}(hr:ai J rb=.box (dz b s sd tg lv fu (.func (.func F) [] [])))(id k n:Int){r:St×Ev×Int}(hc:PC F [dd b,bN s,O id,O k,O n] (iH r))(j:Qh prog F=true)
 (o:∀σ',dk J σ' []->K (iH r) σ'):g282.u VV [.agg [O id,O k],.ak rb 0,O n] J K:=by
 rw[H3.e];unfold g282;dsimp only;refine Qd (v:=.ak J.length 0) (rd:=[]) (up:=[(J.length,.box [O id,O k])]) rfl (Qf J _) ?_;have p:=dk.mY J (.box [O id,O k]);have r1:=Zb [U.box [O id,O k]] hr;have n1:=Xc J (.box [O id,O k]);have D:(J++[U.box [O id,O k]]).length=J.length+1:=by simp
 generalize J++[U.box [O id,O k]]=τ1 at *;refine Qd (v:=.ak τ1.length 0) (rd:=[]) (up:=[(τ1.length,.box aU)]) rfl (Qf τ1 _) ?_;have a2:=p.j9 (.box aU);have w:=Zb [U.box aU] r1;have y:=Zb [U.box aU] n1;have z:=Xc τ1 (.box aU);have E:(τ1++[U.box aU]).length=τ1.length+1:=by simp
 generalize τ1++[U.box aU]=τ2 at *;refine Qd (v:=.ak τ2.length 0) (rd:=[]) (up:=[(τ2.length,.box bY)]) rfl (Qf τ2 _) ?_;have a3:=a2.j9 (.box bY);have d:=Zb [U.box bY] w;have i:=Zb [U.box bY] y;have A:=Zb [U.box bY] z;have e3:=Xc τ2 (.box bY);have G:(τ2++[U.box bY]).length=τ2.length+1:=by simp
 generalize τ2++[U.box bY]=τ3 at *;refine Z rfl (Z rfl (Z (v:=.func (.func F) [] []) (ld d rfl) (Z rfl (Z rfl (Z (v:=dd b) (ld d rfl) (Z rfl (Z rfl (Z (v:=bN s) (ld d rfl) ?_))))))));refine Z rfl (Z (v:=O id) (ld i rfl) (Z rfl (Z (v:=O k) (ld i rfl) ?_)));refine Qm (f:=F) (ys:=[dd b,bN s,O id,O k,O n]) hc rfl j rfl ?_;refine ay ?_;refine Ze (cO A rfl rfl rfl) (Ye _ (by omega)) ?_;have B:=Qa (x:=.box (aH r.1)) e3 (by simp) (c:=τ1.length) (by omega);have C:ai (τ3.set τ1.length (.box (aH r.1))) τ1.length=.box (aH r.1):=Zc _ (by omega);refine Ze (cO B rfl rfl rfl) (Ye _ (by simp;omega)) (Xo (by rfl) ?_);refine Zp (Z9 (Qa C (by simp) (by omega)) rfl) (Zp (Z9 (Zc _ (by simp;omega)) rfl) ?_);exact o _ ((a3.du (by omega) _).du (by omega) _)
theorem ZcB{F:FuncId}(hr:ai J rb=.box (dz b s sd tg lv fu (.func (.func F) [] [])))(k n:Int){r:St×Ev×Int}(hc:PC F [dd b,bN s,O 0,O k,O n] (iH r))(i:Qh prog F=true)
 (j:∀σ',dk J σ' []->K (iH r) σ'):g283.u VV [O k,.ak rb 0,O n] J K:=by
 rw[H3.e];unfold g283;dsimp only;refine Qd (v:=.ak J.length 0) (rd:=[]) (up:=[(J.length,.box aU)]) rfl (Qf J _) ?_;have a2:=dk.mY J (.box aU);have o:=Zb [U.box aU] hr;have p:=Xc J (.box aU);have A:(J++[U.box aU]).length=J.length+1:=by simp
 generalize J++[U.box aU]=τ2 at *;refine Qd (v:=.ak τ2.length 0) (rd:=[]) (up:=[(τ2.length,.box bY)]) rfl (Qf τ2 _) ?_;have a3:=a2.j9 (.box bY);have d:=Zb [U.box bY] o;have w:=Zb [U.box bY] p;have e3:=Xc τ2 (.box bY);have B:(τ2++[U.box bY]).length=τ2.length+1:=by simp
 generalize τ2++[U.box bY]=τ3 at *;refine Z rfl (Z rfl (Z (v:=.func (.func F) [] []) (ld d rfl) (Z rfl (Z rfl (Z (v:=dd b) (ld d rfl) (Z rfl (Z rfl (Z (v:=bN s) (ld d rfl) ?_))))))));refine Qm (f:=F) (ys:=[dd b,bN s,O 0,O k,O n]) hc rfl i rfl ?_;refine ay ?_;refine Ze (cO w rfl rfl rfl) (Ye _ (by omega)) ?_;have y:=Qa (x:=.box (aH r.1)) e3 (by simp) (c:=J.length) (by omega);have z:ai (τ3.set J.length (.box (aH r.1))) J.length=.box (aH r.1):=Zc _ (by omega);refine Ze (cO y rfl rfl rfl) (Ye _ (by simp;omega)) (Xo (by rfl) ?_);refine Zp (Z9 (Qa z (by simp) (by omega)) rfl) (Zp (Z9 (Zc _ (by simp;omega)) rfl) ?_);exact j _ ((a3.du (by omega) _).du (by omega) _)
theorem Zel{mv:I}(hr:ai J rb=.box (dz b s sd tg lv fu mv))(hl:LV rb l lv J)(hn:l.length<=1000000000)(h01:sd=0\/sd=1)
 (hf:aN b=true)(C:Yg b.aj)(hs:ba 2000000 s)(hm:aJ (bO b).1 b s true=true)(x:Ef)(n:Int)(z:∀v σ',Dn rb b sd tg fu l lv J (gX b s sd tg x.op x.who n) v σ'->K v σ'):g109.u VV [.ak rb 0,.agg (bC x),O n] J K:=by
 have wq:=Yb hr;have f0:Fr rb lv lv J (J++[U.box (bC x)]):=Fr.app _ (λk n e=>hl.lt e);have r1:=Zb [U.box (bC x)] hr;have D:LV rb l lv (J++[U.box (bC x)]):=hl.fG (λk d _=>Zg _ d);have n1:=Xc J (.box (bC x));have o:rb<(J++[U.box (bC x)]).length:=by simp;omega
 have A:J.length≠rb:=by omega
 have V:ba 1000000000 s:=⟨by have:=hs.an;omega,⟨by have:=hs.s0.az;omega,by have:=hs.s0.hand;omega,by have:=hs.s0.ao;omega,by have:=hs.s0.af;omega,by have:=hs.s0.told;omega⟩,⟨by have:=hs.s1.az;omega,by have:=hs.s1.hand;omega,by have:=hs.s1.ao;omega,by have:=hs.s1.af;omega,by have:=hs.s1.told;omega⟩⟩;rw[H3.e];unfold g109;dsimp only;refine Qd (zx _ _) (Qf J _) (Z rfl (Z rfl ?_));generalize J++[U.box (bC x)]=τ at *;refine Qd (cO (row':=dz b s sd tg lv fu (.func (.func 78) [] [])) r1 rfl rfl rfl) (Ye _ o) (Z rfl (Z (ld (Qa n1 (by simp) A.symm) (gQ x)) (Z (Xr ..) (Zj λX Y=>?_))));have E:∀(F:FuncId) (i:List U),(∀id k n,k=0\/k=1->PC F [dd b,bN s,O id,O k,O n] (iH (pk x.op b s id k n)))->Qh prog F=true->Fr rb lv lv J i->ai i rb=.box (dz b s sd tg lv fu (.func (.func F) [] []))->ai i J.length=.box (bC x)->LV rb l lv i->X [] i:=by
  intro F i G H L p hnu N;subst Y;have stay:gX b s sd tg x.op x.who n=(0,s,[])->K (O 0) i:=λe=>z _ _ ⟨lv,_,L,by rw[e];exact p,by rw[e],by rw[e];simpa using N⟩;refine Z rfl (Z (ld hnu (nB x)) ?_);refine Xe hP (f:=152) rfl g152.ok rfl (XeC p h01 V x.who ?_);have bT:=YdQ (s:=s) (tg:=tg) (who:=x.who) h01;unfold Ts;have last:∀(id k:Int) (υ2:List U),el s sd tg x.who=(id,k,true)->0<=n->dk i υ2 [] ->
    VV.rd (Zk 0 [iH (pk x.op b s id k n)] υ2) λt40=>
    VV.rd (Zk 1 [iH (pk x.op b s id k n)] υ2) λt41=>
    VV.rd (Zk 2 [iH (pk x.op b s id k n)] υ2) λt42=>
    VV.wr (Zt aU [] υ2) υ2 λt9 J=>
    VV.wr (Zt bY [] J) J λt10 J=>
    VV.wr (Xh 23 [t9,t40] J) J λ_ J=>
    VV.wr (Xh 7 [t10,t41] J) J λ_ J=>
    VV.rd (Qn .neq false [t42,(.int .i64 0)] J) λt44=>
    VV.test t44 (K t42 J) (
    VV.rd (Xf true 23 [t9] J) λt47=>
    VV.rd (Yi [.ak rb 0] J) λt48=>
    VV.rd (Qc 2 [t48] J) λt49=>
    VV.wr (Xh 23 [t49,t47] J) J λ_ J=>
    VV.rd (Xf true 7 [t10] J) λt51=>
    VV.call (.call 153) [.ak rb 0,t51] J λt52 J=>K (.int .i64 0) J):=by
   intro id k υ2 hw kU j;have he:gX b s sd tg x.op x.who n=if (pk x.op b s id k n).2.2=0 then (0,(pk x.op b s id k n).1,[(pk x.op b s id k n).2.1])else ((pk x.op b s id k n).2.2,s,[]):=by
    rw[gX,hw,aE ⟨rfl,kU⟩]
   generalize pk x.op b s id k n=r at *;have P:=j.get p;have X':LV rb l lv υ2:=N.fG (λk d _=>j.2 k d (by simp));have WE:Fr rb lv lv J υ2:=L.trans (j.lift rb);refine Z rfl (Z rfl (Z rfl ?_));refine Qd (v:=.ak υ2.length 0) (rd:=[]) (up:=[(υ2.length,.box aU)]) rfl (Qf υ2 _) ?_;have a3:=dk.mY υ2 (.box aU);have z3:=Xc υ2 (.box aU);have l3:(υ2++[U.box aU]).length=υ2.length+1:=by simp
   generalize υ2++[U.box aU]=υ3 at *;refine Qd (v:=.ak υ3.length 0) (rd:=[]) (up:=[(υ3.length,.box bY)]) rfl (Qf υ3 _) ?_;have a4:=a3.j9 (.box bY);have z4:=Zb [U.box bY] z3;have e4:=Xc υ3 (.box bY);have l4:(υ3++[U.box bY]).length=υ3.length+1:=by simp
   generalize υ3++[U.box bY]=υ4 at *;refine Qd (cO z4 rfl rfl rfl) (Ye _ (by omega)) ?_;have a5:=a4.du (b:=υ2.length) (by omega) (.box (aH r.1));have e5:=Qa (x:=.box (aH r.1)) e4 (by simp) (c:=υ2.length) (by omega);have s5:ai (υ4.set υ2.length (.box (aH r.1))) υ2.length=.box (aH r.1):=Zc _ (by omega);have l5:(υ4.set υ2.length (U.box (aH r.1))).length=υ4.length:=by simp
   generalize υ4.set υ2.length (U.box (aH r.1))=υ5 at *;refine Qd (cO e5 rfl rfl rfl) (Ye _ (by omega)) ?_;have B:=a5.du (b:=υ3.length) (by omega) (.box (cS r.2.1));have s6:=Qa (x:=.box (cS r.2.1)) s5 (by simp) (c:=υ3.length) (by omega);have e6:ai (υ5.set υ3.length (.box (cS r.2.1))) υ3.length=.box (cS r.2.1):=Zc _ (by omega);have l6:(υ5.set υ3.length (U.box (cS r.2.1))).length=υ5.length:=by simp
   generalize υ5.set υ3.length (U.box (cS r.2.1))=υ6 at *;have y:=B.get P;have Q:LV rb l lv υ6:=X'.fG (λk d _=>B.2 k d (by simp));have R:Fr rb lv lv J υ6:=WE.trans (B.lift rb);have abk:=Yb P;refine Z (QM ..) (Ya (λh=>?_) (λh=>?_))
   ·have h:r.2.2≠0:=by simpa using h
    rw[aB h]at he;exact z _ _ ⟨lv,_,R,by rw[he];exact y,by rw[he],by rw[he];simpa using Q⟩
   ·have h:r.2.2=0:=by simpa using h
    rw[aE h]at he;refine Z (v:=bN r.1) (ld s6 rfl) (Z rfl (Z rfl (Qd (cO (row':=dz b r.1 sd tg lv fu (.func (.func F) [] [])) y rfl rfl rfl) (Ye _ (Yb y)) (Z (v:=tj r.2.1) (ld (Qa e6 (by simp) (by omega)) rfl) ?_))));refine Xe hP (f:=153) rfl g153.ok rfl (vZ (Zc _ (Yb y)) (Q.fG (λk d w=>Qb _ d w)) hn r.2.1 _ (.inl rfl) (λσ' cW q1 q2 q3=>?_));exact z _ _ ⟨cW,_,(R.trans (Fr.set lv _)).trans q1,by rw[he];exact q2,by rw[he],by rw[he];exact q3⟩
  by_cases hq:(el s sd tg x.who).2.2=true
  ·obtain⟨d,jE⟩:=bT hq;rw[aE hq];have hw:el s sd tg x.who=((el s sd tg x.who).1,(el s sd tg x.who).2.1,true):=by rw[<-hq]
   have S:n<0->gX b s sd tg x.op x.who n=(0,s,[]):=λh=>by rw[gX,aB (by omega)]
   generalize (el s sd tg x.who).1=id at *;generalize (el s sd tg x.who).2.1=k at *;by_cases T:0<id
   ·rw[aE T];refine ay (Ya (λh=>?_) (λh=>?_))
    ·exact stay (S (by simpa using h))
    ·have h:¬n<0:=by simpa using h
     exact Xe hP (f:=282) (ys:=[.agg [O id,O k],.ak rb 0,O n]) rfl g282.ok rfl (ZdQ p id k n (G id k n d) H (λυ2 j=>last id k υ2 hw (by omega) j))
   ·rw[aB T];have:id=0:=by omega
    subst this;refine ay (Ya (λh=>?_) (λh=>?_))
    ·exact stay (S (by simpa using h))
    ·have h:¬n<0:=by simpa using h
     exact Xe hP (f:=283) (ys:=[O k,.ak rb 0,O n]) rfl g283.ok rfl (ZcB p k n (G 0 k n d) H (λυ2 j=>last 0 k υ2 hw (by omega) j))
  ·rw[aB hq];refine ay ?_
   grind [gX]
 refine Ya (λh=>?_) (λh=>?_)
 ·have h:x.op=1:=by simpa using h
  have r2:ai (τ.set rb (.box (dz b s sd tg lv fu (.func (.func 78) [] [])))) rb=.box (dz b s sd tg lv fu (.func (.func 78) [] [])):=Zc _ o;refine Z rfl (Z rfl (Qd (cO (row':=dz b s sd tg lv fu (.func (.func 151) [] [])) r2 rfl rfl rfl) (Ye _ (by simpa using o)) ?_));rw[GW];refine E _ _ (λid k n d=>?_) g151.ok.plain (f0.trans (Fr.set lv _)) (Zc _ o) (Qa n1 (by simp) A.symm) (D.fG (λk d w=>Qb _ d w));rw[pk,aE h];exact c26 b hf C s hs hm id k n d
 ·have h:x.op≠1:=by simpa using h
  refine E _ _ (λid k n d=>?_) g78.ok.plain (f0.trans (Fr.set lv _)) (Zc _ o) (Qa n1 (by simp) A.symm) (D.fG (λk d w=>Qb _ d w));rw[pk,aB h];exact c22 b hf C s hs hm id k n d
end Go.Ah.Tz
end
section
namespace Go.Ah.Tz
open Go.Proofs.Tryz (prog)
set_option maxRecDepth 100000
section
variable {P:Program} {GL:aw}
theorem YcZ{k:MK}{xs:List I}{J:List U}{K K':KT}(h:(W P GL).call k xs J K)(b:∀v σ',K v σ'->K' v σ'):(W P GL).call k xs J K':=by
 obtain⟨R,h1,h2⟩:=h;exact⟨R,h1,λv σ' q=>b v σ' (h2 v σ' q)⟩
theorem Yeo{k:MK}{xs:List I}{J:List U}{K:KT}(pre:∀ (w0:World) (L:Ln) (g:Gm) (w:World),bu GL w0 L g (hp J) w->∃ σ2,bu GL w0 L g (hp σ2) w /\
  (W P GL).call k xs σ2 (λv σ'=>∃ b,(∀ (w0:World) (L:Ln) (d:Gm) (w':World),bu GL w0 L d (hp σ') w'->bu GL w0 L d (hp b) w')/\K v b)):(W P GL).call k xs J K:=by
 refine⟨K,?_,λ_ _ h=>h⟩;intro o os s w0 L g w a r y;obtain⟨σ2,z,R,A,p⟩:=pre w0 L g w r;have q:=A o os s w0 L g w a z y;generalize (execOp a.eval o).run P w=res at q;cases res with
 |ok B w'=>
  cases B with
  |value u=>
   obtain⟨d,x,σ',k0,k1,k2,k3⟩:=q;obtain⟨b,i,j⟩:=p _ _ k0;exact⟨d,x,b,j,k1,i _ _ _ _ k2,k3⟩
  |skip=>
   obtain⟨d,σ',k0,k1,k2⟩:=q;obtain⟨b,i,j⟩:=p _ _ k0;exact⟨d,b,j,k1,i _ _ _ _ k2⟩
  |enter f args=>
   refine Gz q ?_;rintro e C ⟨u,he,d,x,σ',k0,k1,k2,k3⟩;obtain⟨b,i,j⟩:=p _ _ k0;exact⟨u,he,d,x,b,j,k1,i _ _ _ _ k2,k3⟩
  |_=>exact q.elim
 |_=>exact q.elim
end
end Go.Ah.Tz
namespace Go.Ah
theorem Qek{J:List U}{c:Nat}(x:U)(h:c<J.length):hp (J.set c x)=dQ (hp J) c x:=by
 funext n
 unfold hp dQ;rw[List.getElem?_set]
 grind
theorem bu.L6{GL:aw}{w0:World}{L:Ln}{g:Gm}{J:List U}{w:World}(r:bu GL w0 L g (hp J) w){c sz:Nat}{rs:List (List I)}(hc:ai J c=.full sz rs)(k:Nat):bu GL w0 L g (hp (J.set c (.rows sz (rs.take k)))) w:=by
 rw[Qek _ (Yb hc)];exact r.DY (wQ hc (by simp)) k
theorem bu.AZ{GL:aw}{w0:World}{L:Ln}{g:Gm}{J:List U}{w:World}(r:bu GL w0 L g (hp J) w){c sz b j:Nat}{rs:List (List I)}{row:List I}{ex:Bool}(hc:ai J c=.rows sz rs)(h0:rs≠[])(hr:ai J b=.box row)(i:row[j]?=some (.sl c 0 rs.length ex)) :
  ∃m,bu GL w0 L g (hp (J.set c (.full sz (rs++CD m (CD sz .aP))))) w:=by
 have hb:=wQ hr (by simp);obtain⟨d,p⟩:=r.jb b _ hb;have f:d.cI=false:=by
  cases f:d.cI with
  |false=>rfl
  |true=>have:=r.bd b _ d hb rfl p f;cases this
 obtain⟨_,_,o,_,arr,T,rfl,hs,hd⟩:=r.own b _ d hb rfl p f;have s:j<arr.size:=by rw[hs];exact(eS i).1
 obtain⟨m,x⟩:=r.Ex (wQ hc (by simp)) h0 rfl (hd j _ arr[j] i (by simp[s]));exact⟨m,by rw[Qek _ (Yb hc)];exact x⟩
end Go.Ah
namespace Go.Ah.Tz
open Go.Proofs.Tryz (prog)
attribute [local irreducible] aI.rd aI.pu aI.wr aI.dr aI.gr aI.gw aI.gl aI.gd aI.opt c8 W
set_option maxHeartbeats 4000000
theorem C0{n:Nat}{J:List U}{c:Nat}{row:List I}(hc:ai J c=.rows n [row]):Yl n J (.sl c 0 1 true)=some ([row],[c]):=by
 simp only[Yl,hc];simp[cut];rfl
theorem Xdq{J:List U}{c len f2:Nat}{rs:List (List I)}{row:List I}(hc:ai J c=.full 7 rs)(h2:ai J f2=.rows 7 [row])(hr:row.all I.cell=true)(hle:len+1<=rs.length)(b:len<=1000000000) :
  Yh 7 72 [.sl c 0 len false,.sl f2 0 1 true] J=.ok (.sl c 0 (len+1) false) [f2] [(c,.full 7 (over len [row] rs))]:=by
 have:Yh 7 72 [.sl c 0 len false,.sl f2 0 1 true] J=zw 7 72 J c len rs (.sl f2 0 1 true):=by simp[Yh,yU,hc]
 rw[this];unfold zw;simp only[C0 h2,XG hr,A1,Cb,Al];rw[show BY ((2*(len+1)+192)*72) (2 ^ 48)=true from AH (by omega),show BY (len+1) rs.length=true from AH hle];rfl
theorem Qdq{J:List U}{c len f2:Nat}{rs:List (List I)}{row:List I}(hc:ai J c=.full 7 rs)(h2:ai J f2=.rows 7 [row])(hr:row.all I.cell=true)(hle:rs.length=len)(b:len<=1000000000) :
  Yh 7 72 [.sl c 0 len false,.sl f2 0 1 true] J=.ok (.sl J.length 0 (len+1) false) [c,f2] [(J.length,.rows 7 (rs++[row]))]:=by
 have:Yh 7 72 [.sl c 0 len false,.sl f2 0 1 true] J=zw 7 72 J c len rs (.sl f2 0 1 true):=by simp[Yh,yU,hc]
 rw[this];unfold zw;have hq:BY (len+1) rs.length=false:=by
  cases h:BY (len+1) rs.length with
  |false=>rfl
  |true=>have:=iq h;omega
 simp only[C0 h2,XG hr,A1,Cb,Al,hq];rw[show BY ((2*(len+1)+192)*72) (2 ^ 48)=true from AH (by omega),show BY len rs.length=true from AH (by omega),DN (by omega)];rfl
variable{l:List Ev}
theorem eR.take{rows:List (List I)}(h:eR rows l)(k:Nat):eR (rows.take k) (l.take k):=by
 induction h with
 |nil=>simp;exact .nil
 |snoc rows l e i h b d=>
  have j:=h.len;by_cases f:k<=l.length
  ·rw[FP (by omega),FP f];exact d
  ·rw[DN (by simp;omega),DN (by simp;omega)];exact .snoc _ _ _ _ h b
def LX(d:Nat)(l:List Ev)(lv:I)(ed:List Ev)(b:I)(τ:List U):Prop:=
 (l=[]/\lv=.aq/\LV d ed b τ)\/(l≠[]/\∃ c rows rest,c≠d/\lv=.sl c 0 l.length false/\ai τ c=.full 7 (rows ++ rest) /\
  ((b=.sl c 0 (l.length + ed.length) false/\eR rows (l ++ ed))\/(eR rows l/\LV d (l ++ ed) b τ/\∀ n,b≠.sl c 0 n false)))
variable{lv iR:I}
theorem LX.fG{b:Nat}{d:List Ev}{J σ':List U}(h:LX b l lv d iR J)(hk:∀k,k<J.length->k≠b->ai σ' k=ai J k):LX b l lv d iR σ':=by
 rcases h with ⟨h1,h2,h3⟩|⟨h0,c,rows,rest,h1,h2,f,h3⟩
 ·exact .inl ⟨h1,h2,h3.fG hk⟩
 ·refine .inr ⟨h0,c,rows,rest,h1,h2,by rw[hk c (Yb f) h1];exact f,?_⟩;rcases h3 with h3|⟨h3,h4,h5⟩
  ·exact .inl h3
  ·exact .inr ⟨h3,h4.fG hk,h5⟩
theorem LX.back{b:Nat}{f:List Ev}{J:List U}(h:LX b l lv f iR J):LX b l lv [] lv J:=by
 rcases h with ⟨rfl,rfl,h3⟩|⟨h0,c,rows,rest,h1,h2,d,h3⟩
 ·exact .inl ⟨rfl,rfl,.inl ⟨rfl,rfl⟩⟩
 ·rcases h3 with ⟨_,h3⟩|⟨h3,_⟩
  ·have:=h3.take l.length;rw[Gw]at this;exact .inr ⟨h0,c,rows.take l.length,rows.drop l.length++rest,h1,h2,by rw[<-Cp,F5];exact d,.inl ⟨by simpa using h2,by simpa using this⟩⟩
  ·exact .inr ⟨h0,c,rows,rest,h1,h2,d,.inl ⟨by simpa using h2,by simpa using h3⟩⟩
theorem LX.cells{b:Nat}{d:List Ev}{J:List U}(h:LX b l lv d iR J):cellsOf lv=some [lv]:=by
 rcases h with ⟨_,rfl,_⟩|⟨_,c,rows,rest,_,rfl,_⟩<;>rfl
theorem LX.ud{d:Nat}{f:List Ev}{J:List U}(h:LX d l lv f iR J){k:Nat}{row:List I}(hk:ai J k=.box row)(n:Nat):iR≠.sl k 0 n false:=by
 rcases h with ⟨_,_,h⟩|⟨_,c,rows,rest,_,_,b,⟨h,_⟩|⟨_,h,_⟩⟩
 ·rcases h with ⟨_,h⟩|⟨_,c,rows,_,h,b,_⟩<;>grind
 ·grind
 ·rcases h with ⟨_,h⟩|⟨_,c,rows,_,h,b,_⟩<;>grind
theorem Ns{J:List U}{f:Nat}{b:Bk}{s:St}{sd tg fu:Int}{mv:I}{ed:List Ev}(hr:ai J f=.box (dz b s sd tg iR fu mv))(hl:LX f l lv ed iR J)(hn:(l++ed).length<=1000000000)(e:Ev)(cv:I)(i:tC cv e.aj){K:KT}
 (z:∀σ' j,Fr f iR j J σ'->ai σ' f=.box (dz b s sd tg j fu mv)->LX f l lv (ed++[e]) j σ'->K (.bw []) σ'):g153.u VV [.ak f 0,.agg (c_ e cv)] J K:=by
 rcases hl with ⟨rfl,rfl,hl⟩|⟨h0,c,rows,rest,d,rfl,o,⟨rfl,p⟩|⟨p,hl,L⟩⟩
 ·exact vZ hr hl (by simpa using hn) e cv i λσ' j r E F=>z σ' j r E (.inl ⟨rfl,rfl,F⟩)
 rotate_left
 ·refine vZ hr hl hn e cv i λσ' j r E F=>z σ' j r E (.inr ⟨h0,c,rows,rest,d,rfl,by rw[r.cq c (Yb o) d L];exact o,.inr ⟨p,by simpa using F,λn q=>?_⟩⟩);rcases r.new c n q with q|⟨m,q⟩
  ·have:=Yb o;omega
  ·exact L m q
 have wq:=Yb hr;have N:(c_ e cv).all I.cell=true:=by rcases i with rfl|⟨rfl,_⟩<;>rfl
 have hlen:=p.len;rw[AT]at hlen hn;rw[H2.e];unfold g153;dsimp only;generalize S:c_ e cv=X at *;have r1:=Zb [.box (c_ e cv)] hr;have P:=Zb [.rows 7 [c_ e cv]] r1;have T:=Xc J (.box (c_ e cv));have Q:=Xc (J++[.box (c_ e cv)]) (.rows 7 [c_ e cv]);subst S;refine Qd (Qei (e:=e) i _) (Qf J _) (Xd rfl (Xd rfl (Ze (ld r1 rfl) (Yd _) (Ze (ld T (show aO true 0 7 (c_ e cv)=some (.agg (c_ e cv)) from rfl)) (Yd _) (Ze (RB (e:=e) i _) (Qf _ _) ?_)))));have pY:(J++[U.box (c_ e cv)]).length=J.length+1:=by simp
 have A:(J++[U.box (c_ e cv)]++[U.rows 7 [c_ e cv]]).length=J.length+2:=by simp
 have vy:=Yb o;have B:=Zb [.rows 7 [c_ e cv]] (Zb [.box (c_ e cv)] o (by simp));have R:c<(J++[U.box (c_ e cv)]++[U.rows 7 [c_ e cv]]).length:=by rw[A];omega
 have C:f≠J.length+1:=by omega
 have D:c≠J.length+1:=by omega
 cases rest with
 |cons x rest=>
  have V:over (l.length+ed.length) [c_ e cv] (rows++x::rest)=(rows++[c_ e cv])++rest:=by
   unfold over;rw[FP (by omega),DN (by omega),List.drop_append,List.drop_of_length_le (by simp;omega)];simp[<-hlen]
  refine Ze (Xdq B Q N (by simp;omega) hn) (Ye _ R) (Xd rfl (Xd rfl ?_));rw[V];have w:=Qa (x:=.full 7 ((rows++[c_ e cv])++rest)) P (by simp) d;have y:=Yb w;refine Ze (cO w rfl rfl rfl) (Ye _ y) (Xo (by simp[Qg,Qj,Zl,Zs,bF,df,Ao,B0,C,C.symm,D,D.symm,d,d.symm]) ?_);refine z _ (.sl c 0 (l.length+ed.length+1) false) ⟨by simp,λk G H Y=>?_,λk n h=>.inr ?_⟩ ?_ (.inr ⟨h0,c,rows++[c_ e cv],rest,d,rfl,?_,.inl ⟨by simp[EG],by rw[<-Cp];exact eR.snoc _ _ _ _ p i⟩⟩)
  ·have D3:k≠c:=λq=>Y _ (by rw[q]);rw[Qb _ (by simp;omega) H,Qb _ (by simp;omega) D3,Zg _ (by simp;omega),Zg _ G]
  ·cases h;exact⟨_,rfl⟩
  ·exact Qp (CJ y)
  ·rw[Qb _ (by simp;omega) d];exact Zc _ R
 |nil=>
  rw[DR]at o B;refine Ze (Qdq B Q N hlen hn) (Qf _ _) (Xd rfl (Xd rfl ?_));have w:=Zb [.rows 7 (rows++[c_ e cv])] P;have c3:=Zb [.rows 7 (rows++[c_ e cv])] B;have d3:=Xc (J++[U.box (c_ e cv)]++[U.rows 7 [c_ e cv]]) (.rows 7 (rows++[c_ e cv]));have y:=Yb w;refine Ze (cO w rfl rfl rfl) (Ye _ y) (Xo (by simp[Qg,Qj,Zl,Zs,bF,df,Ao,B0,C,C.symm,D,D.symm,d,d.symm]) ?_);refine z _ (.sl (J++[U.box (c_ e cv)]++[U.rows 7 [c_ e cv]]).length 0 (l.length+ed.length+1) false) ⟨by simp,λk G H _=>?_,λk n h=>.inl ?_⟩ ?_ (.inr ⟨h0,c,rows.take l.length,rows.drop l.length,d,rfl,?_,.inr ⟨?_,.inr ⟨by simp,(J++[U.box (c_ e cv)]++[U.rows 7 [c_ e cv]]).length,rows++[c_ e cv],by rw[A];omega,by simp[EG],?_,by rw[<-Cp];exact eR.snoc _ _ _ _ p i⟩,λn q=>?_⟩⟩)
  ·rw[Qb _ (by simp;omega) H,Zg _ (by simp;omega),Zg _ (by simp;omega),Zg _ G]
  ·cases h;rw[A];omega
  ·exact Qp (CJ y)
  ·rw[F5,Qb _ (by simp;omega) d];exact c3
  ·have:=p.take l.length;rwa [Gw]at this
  ·rw[Qb _ (by simp) (by rw[A];omega)];exact d3
  ·cases q;omega
theorem XeL{k:MK}{xs:List I}{J:List U}{i:Nat}{b:Bk}{s:St}{sd tg fu:Int}{mv:I}(hr:ai J i=.box (dz b s sd tg lv fu mv))(hl:LV i l lv J){K:KT}
 (h:∀ B,ai B i=.box (dz b s sd tg lv fu mv)->LX i l lv [] lv B->(∀ f Q,Fr i lv f B Q->Fr i lv f J Q) ->
   VV.call k xs B (λv σ'=>∃ p f y z A,Fr i lv f J σ'/\ai σ' i=.box (dz b z sd tg f A y)/\LX i l lv p f σ'/\(∀ o,Fr i lv f J o->ai o i=.box (dz b z sd tg f A y)->LV i (l ++ p) f o->K v o))):VV.call k xs J K:=by
 have done:∀(σ':List U) (p:List Ev) (f y:I) (z:St) (A:Int) (v:I),Fr i lv f J σ'->ai σ' i=.box (dz b z sd tg f A y)->LX i l lv p f σ'->(∀o,Fr i lv f J o->ai o i=.box (dz b z sd tg f A y)->LV i (l++p) f o->K v o) ->
   ∃o,(∀(C:World) (L:Ln) (D:Gm) (E:World),bu aQ C L D (hp σ') E->bu aQ C L D (hp o) E)/\K v o:=by
  intro σ' p f y z A v hf T hx V;rcases hx with ⟨rfl,rfl,h3⟩|⟨h0,c,rows,rest,F,h2,G,h3⟩
  ·exact⟨σ',λ_ _ _ _ r=>r,V _ hf T h3⟩
  ·have R:=Yb G;have hrn:=Qa (x:=.rows 7 ((rows++rest).take rows.length)) T (by simp) F;refine⟨σ'.set c (.rows 7 ((rows++rest).take rows.length)),λC L D E r=>r.L6 G _,V _ ⟨by simpa using hf.len,λk P S H=>?_,hf.new⟩ hrn ?_⟩
   ·have:k≠c:=λq=>H l.length (by rw[h2,q]);have IU:=hf.len;rw[Qb _ (by omega) this];exact hf.cq k P S H
   ·rcases h3 with ⟨h3,N⟩|⟨N,h3,h4⟩
    ·refine .inr ⟨by simp[h0],c,rows,F,by rw[h3];simp,?_,N⟩;rw[Zc _ R,Gw]
    ·rcases h3 with h3|⟨q0,d,rs,q1,X,Y,q4⟩
     ·exact .inl h3
     ·refine .inr ⟨q0,d,rs,q1,X,?_,q4⟩;have:d≠c:=λq=>h4 (l++p).length (by rw[X,q]);rw[Qb _ (Yb Y) this];exact Y
 have post:∀B,VV.call k xs B (λv σ'=>∃p f y z A,Fr i lv f J σ'/\ai σ' i=.box (dz b z sd tg f A y)/\LX i l lv p f σ'/\(∀o,Fr i lv f J o->ai o i=.box (dz b z sd tg f A y)->LV i (l++p) f o->K v o)) ->
   VV.call k xs B (λv σ'=>∃o,(∀(C:World) (L:Ln) (D:Gm) (E:World),bu aQ C L D (hp σ') E->bu aQ C L D (hp o) E)/\K v o):=by
  intro B hw;refine YcZ hw λv σ' q=>?_;obtain⟨p,f,y,z,A,a1,a2,a3,a4⟩:=q;exact done σ' p f y z A v a1 a2 a3 a4
 refine Yeo λC L g w r=>?_;rcases hl with ⟨rfl,rfl⟩|⟨h0,c,rows,F,rfl,G,N⟩
 ·exact⟨J,r,post _ (h J hr (.inl ⟨rfl,rfl,.inl ⟨rfl,rfl⟩⟩) λ_ _ q=>q)⟩
 ·have hlen:=N.len;have kU:rows≠[]:=by intro q;rw[q]at hlen;exact h0 (Ck.1 (by simpa using hlen.symm))
  obtain⟨m,hm⟩:=r.AZ (j:=27) (ex:=false) G kU hr (by rw[hlen];rfl);have R:=Yb G;refine⟨_,hm,post _ (h _ (Qa hr (by simp) F) (.inr ⟨h0,c,rows,_,F,rfl,Zc _ R,.inl ⟨by simp,by simpa using N⟩⟩) λf Q q=>⟨by simpa using q.len,λk P S H=>?_,by simpa using q.new⟩)⟩;have:k≠c:=λq=>H l.length (by rw[q]);rw[q.cq k (by simpa using P) S H,Qb _ P this]
end Go.Ah.Tz
end
section
namespace Go.Ah.Tz
open Go.Proofs.Tryz (prog)
set_option maxRecDepth 100000
structure cu (b:Bk) (N C:Nat) (s:St):Prop where
 may:cc b s
 told:TB N s
 aj:Xj s<=C
variable{s:St}
variable{b:Bk}
theorem Zdz(h:cc b s):ba 2000000 s:=by
 obtain⟨hd,h0,h1,_,d⟩:=h;have side:∀x:Sd,gp b x->mX 2000000 x:=by
  intro x k;have k1:=(Ql.1 k.az).1;have k2:=(Ql.1 k.hand).1;have k3:=(Ql.1 k.ao).1;have i:=(Ql.1 k.told).1;have j:=k.af;exact⟨by omega,by omega,by omega,by omega,by omega⟩
 refine⟨?_,side _ h0,side _ h1⟩;by_cases f:s.phase=1
 ·have:=(d.2 f).2.1;omega
 ·rw[d.1 f];simp
variable{N C rb:Nat}
theorem cu.le(h:cu b N C s):ba 2000000 s:=Zdz h.may
theorem cu.ni(h:cu b N C s):ba 1000000000 s:=by
 have hs:=h.le;exact⟨by have:=hs.an;omega,⟨by have:=hs.s0.az;omega,by have:=hs.s0.hand;omega,by have:=hs.s0.ao;omega,by have:=hs.s0.af;omega,by have:=hs.s0.told;omega⟩,⟨by have:=hs.s1.az;omega,by have:=hs.s1.hand;omega,by have:=hs.s1.ao;omega,by have:=hs.s1.af;omega,by have:=hs.s1.told;omega⟩⟩
theorem cu.mono{N' C':Nat}(h:cu b N C s)(h1:N<=N')(h2:C<=C'):cu b N' C' s:=⟨h.may,⟨CI h.told.1 h1,CI h.told.2 h1⟩,by have:=h.aj;omega⟩
variable{k sd tg fu most i d:Int}
theorem cu.draw(h:cu b N C s)(hN:N<1000000)(hC:C<1000000)(h01:k=0\/k=1)(e:(aT s k).2.2=0):cu b (N+1) C (aT s k).1:=by
 obtain⟨j,⟨t0,t1⟩,f⟩:=h;have o:s.s0.ao.length<1000000/\s.s1.ao.length<1000000:=by unfold Xj at f;omega
 rcases h01 with rfl|rfl
 ·obtain⟨k1,k2⟩:=Xcw j e o.1 (by omega) (by omega);refine⟨k1,?_,by rw[k2];exact f⟩;rcases Zbp s e with ⟨_,q⟩|⟨c,l,_,q⟩|⟨c,l,_,_,q⟩<;>rw[q]<;>refine⟨?_,?_⟩<;>simp<;>omega
 ·obtain⟨k1,k2⟩:=Qcw j e o.2 (by omega) (by omega);refine⟨k1,?_,by rw[k2];exact f⟩;rcases Ybp s e with ⟨_,q⟩|⟨c,l,_,q⟩|⟨c,l,_,_,q⟩<;>rw[q]<;>refine⟨?_,?_⟩<;>simp<;>omega
def Zz(k:Int):Nat->St->Int×St×List Ev
 |0,s=>(0,s,[])
 |j+1,s=>if (aT s k).2.2=0 then ((Zz k j (aT s k).1).1,(Zz k j (aT s k).1).2.1,(aT s k).2.1::(Zz k j (aT s k).1).2.2)else ((aT s k).2.2,s,[])
def jP(s:St)(k n:Int):Int×St×List Ev:=
 if (Zz k (min (max n 0) 60).toNat s).1=0 then Zz k (min (max n 0) 60).toNat s else ((Zz k (min (max n 0) 60).toNat s).1,s,[])
theorem Zcb(hC:C<1000000)(h01:k=0\/k=1):∀(j:Nat) {N:Nat} {s:St},cu b N C s->N+j<=1000000->cu b (N+j) C (Zz k j s).2.1
 |0,N,s,h,_=>h
 |j+1,N,s,h,f=>by
  unfold Zz;split
  ·rename_i e;have:=Zcb hC h01 j (h.draw (by omega) hC h01 e) (by omega)
   grind
  ·exact h.mono (by omega) (AO _)
variable{row:List I}
variable{l:List Ev}
variable{lv cW:I}
variable{J τ:List U}
theorem LV.ud(h:LV rb l lv J){k:Nat}(hk:ai J k=.box row)(n:Nat):lv≠.sl k 0 n false:=by
 rcases h with ⟨_,h⟩|⟨_,c,rows,_,h,f,_⟩<;>grind
theorem Fr.back(h:Fr rb lv cW J τ):Fr rb lv lv J τ:=⟨h.len,h.cq,λk n e=>.inr ⟨n,e⟩⟩
theorem Fr.get(h:Fr rb lv cW J τ)(hl:LV rb l lv J){k:Nat}(hk:ai J k=.box row)(hr:k≠rb):ai τ k=.box row:=by
 rw[h.cq k (Yb hk) hr (hl.ud hk)];exact hk
def wR(b:Bk)(s:St)(sd:Int)(name:Tx):Int×St×List Ev:=
 if YZ b s sd (gf 0 b.aj name).1=true then (0,s,[])else (0,Qy s sd (gf 0 b.aj name).1,[⟨2,sd,(gf 0 b.aj name).1,s.next,0,0,[]⟩])
theorem cu.Ez(h:cu b N C s)(h01:sd=0\/sd=1)(name:Tx):cu b N (C+1) (wR b s sd name).2.1:=by
 unfold wR;split
 ·exact h.mono (AO _) (by omega)
 ·rename_i e;obtain⟨f,j,o⟩:=h;rcases h01 with rfl|rfl
  ·obtain⟨k1,k2⟩:=Za7 f (by simpa using e);exact⟨k1,j,by rw[k2];omega⟩
  ·obtain⟨k1,k2⟩:=Ya7 f (by simpa using e);exact⟨k1,j,by rw[k2];omega⟩
attribute [local irreducible] aI.rd aI.pu aI.wr aI.dr aI.gr aI.gw aI.gl aI.gd aI.opt c8 W
set_option maxHeartbeats 4000000
variable{rd:List Nat}
variable{h0:Hp}
theorem aA.aP{x:I}:aA h0 rd x .aP:=λ_ _ _ _ _ _ _ _ _ _ v _=>.aP _ v
theorem bA.uh{zs ws:List I}(h:bA h0 rd zs ws):∀ {l:List I},fV l=true->bA h0 rd (l++zs) (l++ws)
 |[],_=>h
 |x::l,f=>by
  simp_all [bA.cons,aA.ro,bA.uh]
theorem c404(b:Bk)(s:St)(sd tg fu who:Int)(h01:sd=0\/sd=1):PC 154 [.al (dz b s sd tg .aP fu .aP) 0,aS who] (O (dA sd who)):=by
 refine Xa hP g154.ok rfl rfl ?_;rw[H2.e];unfold g154;dsimp only;refine Z (Xr ..) (Ya (λh=>?_) (λh=>?_))
 ·have h:who=1:=by simpa using h
  refine ax ?_;rw[Bb _ (by omega),dA,aE h]
 ·have h:who≠1:=by simpa using h
  refine ax ?_;rw[dA,aB h]
theorem YeE{mv:I}(hr:ai J rb=.box (dz b s sd tg lv fu mv))(who:Int):bA (hp J) [rb] [.ak rb 0,aS who] [.al (dz b s sd tg .aP fu .aP) 0,aS who]:=by
 refine .cons (aA.box (ZS hr) (by simp) ?_) (.cons (aA.ro rfl) .nil);refine bA.uh (l:=cf b) (bA.uh (l:=aH s) ?_ rfl) rfl;exact .cons (aA.ro rfl) <| .cons (aA.ro rfl) <| .cons aA.aP <| .cons (aA.ro rfl) <| .cons aA.aP .nil
theorem Fr.Lj{f:I}{j:List Ev}(h:Fr rb f cW J τ)(hl:LX rb l lv j f J){k:Nat}(hk:ai J k=.box row)(hr:k≠rb):ai τ k=.box row:=by
 rw[h.cq k (Yb hk) hr (hl.ud hk)];exact hk
variable{K:KT}
theorem YeR{mv:I}(hr:ai J rb=.box (dz b s sd tg lv fu mv))(hl:LX rb l lv [] lv J)(hn:l.length+60<=1000000000)(h01:sd=0\/sd=1)
 (hf:aN b=true)(Q:Yg b.aj)(c6:(bO b).1=0)(bT:cu b N C s)(hN:N+60<=1000000)(hC:C<1000000)(x:Ef)(n:Int)(D:∀v σ' cW lZ,Fr rb lv cW J σ'->ai σ' rb=.box (dz b (jP s (dA sd x.who) n).2.1 sd tg cW fu lZ)->v=O (jP s (dA sd x.who) n).1->LX rb l lv (jP s (dA sd x.who) n).2.2 cW σ'->K v σ'):g110.u VV [.ak rb 0,.agg (bC x),O n] J K:=by
 have wq:=Yb hr;have a0:=dk.mY J (.box (bC x));have r0:=Zb [U.box (bC x)] hr;have n0:=Xc J (.box (bC x));have MY:(J++[U.box (bC x)]).length=J.length+1:=by simp
 have R:J.length≠rb:=by omega
 rw[H3.e];unfold g110;dsimp only;refine Qd (zx _ _) (Qf J _) ?_;generalize J++[U.box (bC x)]=τ0 at *;refine Xd rfl (Xd rfl (Ze (v:=bN s) (ld r0 rfl) (Yd _) (Xd rfl (Xd rfl (Ze (v:=lv) (ld r0 rfl) (Yd _) ?_)))));refine Ze (v:=.ak τ0.length 0) (rd:=[]) (up:=[(τ0.length,.box aU)]) rfl (Qf τ0 _) ?_;have a1:=a0.j9 (.box aU);have r1:=Zb [U.box aU] r0;have n1:=Zb [U.box aU] n0;have z1:=Xc τ0 (.box aU);have pY:(τ0++[U.box aU]).length=τ0.length+1:=by simp
 generalize τ0++[U.box aU]=τ1 at *;have z:τ0.length≠rb:=by omega
 refine Ze (cO z1 rfl rfl rfl) (Ye _ (by omega)) (Xo (by simp[Qg,Qj,Zl,Zs,bF,df,Ao,B0,z,z.symm]) ?_);have a2:=a1.du (b:=τ0.length) (by omega) (.box (aH s));have r2:=Qa (x:=.box (aH s)) r1 (by simp) z;have n2:=Qa (x:=.box (aH s)) n1 (by simp) (c:=τ0.length) (by omega);have s2:ai (τ1.set τ0.length (.box (aH s))) τ0.length=.box (aH s):=Zc _ (by omega);have kq:(τ1.set τ0.length (U.box (aH s))).length=τ1.length:=by simp
 generalize τ1.set τ0.length (U.box (aH s))=τ2 at *;obtain⟨j,hj,aby,sD⟩:∃j:Nat,min (max n 0) 60=j/\j<=60/\(min (max n 0) 60).toNat=j:=⟨(min (max n 0) 60).toNat,by omega,by omega,rfl⟩;refine ay ?_;rw[hj];unfold jP at D;rw[sD]at D;have p:=JF h01 x.who;generalize D4:dA sd x.who=k at *;have dg:LX rb l lv [] lv τ2:=hl.fG (λk p _=>a2.2 k p (by simp));refine Zh (ι:=Nat) (λi S τ=>∃t ed o,S=[O i]/\i<=j/\Zz k j s=((Zz k (j-i) t).1,(Zz k (j-i) t).2.1,ed++(Zz k (j-i) t).2.2)/\ed.length=i/\cu b (N+i) C t/\Fr rb lv o J τ/\ai τ rb=.box (dz b t sd tg o fu mv)/\LX rb l lv ed o τ/\ai τ τ0.length=.box (aH s)/\ai τ J.length=.box (bC x))
  (λi=>j-i) 0 ⟨s,[],lv,rfl,by omega,rfl,rfl,bT,a2.lift rb,r2,dg,s2,n2⟩ ?_
 rintro i S τ again ⟨t,ed,o,rfl,hi,r,T,A,V,w,X,Y,E⟩ bj;have aam:=Yb w;have abL:=Yb Y;have abF:=Yb E;refine Z rfl (Ya (λh=>?_) (λh=>?_))
 ·have h:i<j:=by simpa using h
  refine Xd rfl (Xd rfl (Ze (v:=dd b) (ld w rfl) (Yd _) (Xd rfl (Xd rfl (Ze (v:=bN t) (ld w rfl) (Yd _) (Xd rfl (Ze (ld E (nB x)) (Yd _) ?_)))))));refine Ir (rd:=[rb]) (c404 b t sd tg fu x.who h01) rfl g154.ok.plain (YeE w x.who) rfl ?_;rw[D4];have c43:PC 62 [dd b,bN t,O k] (iH (aT t k)):=by
   rcases p with rfl|rfl
   ·exact KB b hf Q t A.le (Qs.2 ⟨c6,A.may⟩)
   ·exact KC b hf Q t A.le (Qs.2 ⟨c6,A.may⟩)
  refine YX c43 g62.ok (Xd rfl (Xd rfl (Xd rfl ?_)));refine Ze (v:=.ak τ.length 0) (rd:=[]) (up:=[(τ.length,.box aU)]) rfl (Qf τ _) ?_;have b1:=dk.mY τ (.box aU);have z3:=Xc τ (.box aU);have AR:(τ++[U.box aU]).length=τ.length+1:=by simp
  generalize τ++[U.box aU]=τ3 at *;refine Ze (v:=.ak τ3.length 0) (rd:=[]) (up:=[(τ3.length,.box bY)]) rfl (Qf τ3 _) ?_;have b2:=b1.j9 (.box bY);have z4:=Zb [U.box bY] z3;have e4:=Xc τ3 (.box bY);have En:(τ3++[U.box bY]).length=τ3.length+1:=by simp
  generalize τ3++[U.box bY]=τ4 at *;refine Ze (cO z4 rfl rfl rfl) (Ye _ (by omega)) ?_;have b3:=b2.du (b:=τ.length) (by omega) (.box (aH (aT t k).1));have s5:ai (τ4.set τ.length (.box (aH (aT t k).1))) τ.length=.box (aH (aT t k).1):=Zc _ (by omega);have e5:=Qa (x:=.box (aH (aT t k).1)) e4 (by simp) (c:=τ.length) (by omega);have aaA:(τ4.set τ.length (U.box (aH (aT t k).1))).length=τ4.length:=by simp
  generalize τ4.set τ.length (U.box (aH (aT t k).1))=τ5 at *;refine Ze (cO e5 rfl rfl rfl) (Ye _ (by omega)) ?_;have B:=b3.du (b:=τ3.length) (by omega) (.box (cS (aT t k).2.1));have s6:=Qa (x:=.box (cS (aT t k).2.1)) s5 (by simp) (c:=τ3.length) (by omega);have e6:ai (τ5.set τ3.length (.box (cS (aT t k).2.1))) τ3.length=.box (cS (aT t k).2.1):=Zc _ (by omega);have aaB:(τ5.set τ3.length (U.box (cS (aT t k).2.1))).length=τ5.length:=by simp
  generalize τ5.set τ3.length (U.box (cS (aT t k).2.1))=τ6 at *;have q1:τ.length≠rb:=by omega
  have q2:τ3.length≠rb:=by omega
  have q3:τ.length≠J.length:=by omega
  have q4:τ3.length≠J.length:=by omega
  have q5:τ3.length≠τ.length:=by omega
  refine Xo (by simp[Qg,Qj,Zl,Zs,bF,df,Ao,B0,q1,q2,q3,q4,q5,q1.symm,q2.symm,q3.symm,q4.symm,q5.symm]) ?_;have F:=B.get w;have st6:=B.get Y;have nt6:=B.get E;have l6:LX rb l lv ed o τ6:=X.fG (λk p _=>B.2 k p (by simp));have f6:Fr rb lv o J τ6:=V.trans (B.lift rb);have y:=Yb F;have hd:Zz k (j-i) t=if (aT t k).2.2=0 then ((Zz k (j-(i+1)) (aT t k).1).1,(Zz k (j-(i+1)) (aT t k).1).2.1,(aT t k).2.1::(Zz k (j-(i+1)) (aT t k).1).2.2)else ((aT t k).2.2,t,[]):=by
   rw[show j-i=(j-(i+1))+1 from by omega];rfl
  refine Z (QM ..) (Ya (λh2=>?_) (λh2=>?_))
  ·have h2:(aT t k).2.2≠0:=by simpa using h2
   rw[aB h2]at hd;have G:(Zz k j s).1=(aT t k).2.2:=by rw[r,hd]
   refine Z (v:=bN s) (ld st6 rfl) (Z rfl (Z rfl (Qd (cO (row':=dz b s sd tg o fu mv) F rfl rfl rfl) (Ye _ y) (Z rfl (Z rfl ?_)))));have r7:ai (τ6.set rb (.box (dz b s sd tg o fu mv))) rb=.box (dz b s sd tg o fu mv):=Zc _ y;have hZ:=hl.cells;refine Qd (cO (row':=dz b s sd tg lv fu mv) r7 hZ rfl rfl) (Ye _ (by simpa using y)) ?_;rw[GW];exact D _ _ lv mv ((f6.back).trans (Fr.set lv _)) (by rw[G,aB h2];exact Zc _ y) (by rw[G,aB h2]) (by rw[G,aB h2];exact(l6.fG (λk p H=>Qb _ p H)).back)
  ·have h2:(aT t k).2.2=0:=by simpa using h2
   rw[aE h2]at hd;refine Z (v:=bN (aT t k).1) (ld s6 rfl) (Z rfl (Z rfl (Qd (cO (row':=dz b (aT t k).1 sd tg o fu mv) F rfl rfl rfl) (Ye _ y) (Z (v:=tj (aT t k).2.1) (ld (Qa e6 (by simp) (by omega)) rfl) ?_))));refine Xe hP (f:=153) rfl g153.ok rfl ?_;have L:LX rb l lv ed o (τ6.set rb (.box (dz b (aT t k).1 sd tg o fu mv))):=l6.fG (λk p H=>Qb _ p H);refine Ns (Zc _ y) L (by simp[T];omega) (aT t k).2.1 _ (.inl rfl) (λσ' cW P p2 p3=>?_);refine Z (Qi ..) ?_;rw[Zd (n:=i) (by omega)];refine bj (i+1) _ _ (by omega) ⟨(aT t k).1,ed++[(aT t k).2.1],cW,rfl,by omega,by rw[r,hd];simp,by simp[T],?_,(f6.trans (Fr.set o _)).trans P,p2,p3,?_,?_⟩
   ·exact A.draw (by omega) hC p h2
   ·exact P.Lj L (Qa st6 (by simp) z.symm) z
   ·exact P.Lj L (Qa nt6 (by simp) R.symm) R
 ·have h:i=j:=by simp at h;omega
  subst h;rw[Nat.sub_self]at r;have r:Zz k i s=(0,t,ed):=by rw[r];simp[Zz]
  exact D _ _ o mv V (by rw[r];exact w) (by rw[r];rfl) (by rw[r];exact X)
theorem ZeR{k:MK}{xs:List I}{mv:I}(hr:ai J rb=.box (dz b s sd tg lv fu mv))(hl:LV rb l lv J)(hn:l.length+60<=1000000000)(h01:sd=0\/sd=1)
 (hf:aN b=true)(j:Yg b.aj)(c6:(bO b).1=0)(bT:cu b N C s)(hN:N+60<=1000000)(hC:C<1000000)(x:Ef)(n:Int)(hc:Xt k xs=some (110,[.ak rb 0,.agg (bC x),O n]))(o:∀v σ',Dn rb b sd tg fu l lv J (jP s (dA sd x.who) n) v σ'->K v σ'):VV.call k xs J K:=
 XeL hr hl λ_ p r w=>Xe hP hc g110.ok rfl (YeR p r hn h01 hf j c6 bT hN hC x n (λv σ' cW f y z A B=>⟨_,cW,f,_,fu,w cW σ' y,z,B,λD E F G=>o v D ⟨cW,f,E,F,A,G⟩⟩))
theorem Qds(b:Bk)(s:St)(k c:Int):∃st ev q,vV b s k c=p_ st ev (.bool q)/\((q=false/\YZ b s k c=true)\/(q=true/\YZ b s k c=false/\st=Qy s k c/\ev=⟨2,k,c,s.next,0,0,[]⟩)):=by
 unfold vV;by_cases h:YZ b s k c=true
 ·rw[aE h];exact⟨_,_,_,rfl,.inl ⟨rfl,h⟩⟩
 ·rw[aB h];exact⟨_,_,_,rfl,.inr ⟨rfl,by simpa using h,rfl,rfl⟩⟩
theorem Qef{mv:I}(hr:ai J rb=.box (dz b s sd tg lv fu mv))(hl:LV rb l lv J)(hn:l.length<=1000000000)(h01:sd=0\/sd=1)
 (hf:aN b=true)(r:Yg b.aj)(c6:(bO b).1=0)(bT:cu b N C s)(G:b.aj.length<=iC)(x:Ef)(n:Int)(j:∀v σ',Dn rb b sd tg fu l lv J (wR b s sd x.name) v σ'->K v σ'):g115.u VV [.ak rb 0,.agg (bC x),O n] J K:=by
 have wq:=Yb hr;have a0:=dk.mY J (.box (bC x));have r0:=Zb [U.box (bC x)] hr;have n0:=Xc J (.box (bC x));have MY:(J++[U.box (bC x)]).length=J.length+1:=by simp
 rw[H3.e];unfold g115;dsimp only;refine Qd (zx _ _) (Qf J _) ?_;generalize J++[U.box (bC x)]=τ at *;refine Z rfl (Z rfl (Z (v:=dd b) (ld r0 rfl) (Z rfl (Z (v:=.str x.name) (ld n0 (by rw[Yz];rfl)) ?_))));refine bD (c224 b G x.name) g90.ok (Z rfl (Z rfl ?_));unfold wR at j;generalize (gf 0 b.aj x.name).1=c at j ⊢;refine Xd rfl (Xd rfl (Ze (v:=dd b) (ld r0 rfl) (Yd _) (Xd rfl (Xd rfl (Ze (v:=bN s) (ld r0 rfl) (Yd _) (Xd rfl (Xd rfl (Xd rfl (Ze (v:=O sd) (ld r0 rfl) (Yd _) ?_)))))))));have c46:PC 41 [dd b,bN s,O sd,O c] (vV b s sd c):=by
  rcases h01 with rfl|rfl
  ·exact ZeO b hf r s bT.le (Qs.2 ⟨c6,bT.may⟩) c
  ·exact YeO b hf r s bT.le (Qs.2 ⟨c6,bT.may⟩) c
 obtain⟨st,ev,q,he,hq⟩:=Qds b s sd c;rw[he]at c46;refine YX c46 g41.ok (Xd rfl (Xd rfl (Xd rfl ?_)));refine Ze (v:=.ak τ.length 0) (rd:=[]) (up:=[(τ.length,.box aU)]) rfl (Qf τ _) ?_;have H:=a0.j9 (.box aU);have L:=dk.mY τ (.box aU);have P:=Xc τ (.box aU);have AR:(τ++[U.box aU]).length=τ.length+1:=by simp
 generalize τ++[U.box aU]=τ3 at *;refine Ze (v:=.ak τ3.length 0) (rd:=[]) (up:=[(τ3.length,.box bY)]) rfl (Qf τ3 _) ?_;have Q:=H.j9 (.box bY);have R:=L.j9 (.box bY);have S:=Zb [U.box bY] P;have T:=Xc τ3 (.box bY);have En:(τ3++[U.box bY]).length=τ3.length+1:=by simp
 generalize τ3++[U.box bY]=τ4 at *;refine Ze (cO S rfl rfl rfl) (Ye _ (by omega)) ?_;have V:=Q.du (b:=τ.length) (by omega) (.box (aH st));have b3':=R.du (b:=τ.length) (by omega) (.box (aH st));have X:ai (τ4.set τ.length (.box (aH st))) τ.length=.box (aH st):=Zc _ (by omega);have Y:=Qa (x:=.box (aH st)) T (by simp) (c:=τ.length) (by omega);have aaA:(τ4.set τ.length (U.box (aH st))).length=τ4.length:=by simp
 generalize τ4.set τ.length (U.box (aH st))=τ5 at *;refine Ze (cO Y rfl rfl rfl) (Ye _ (by omega)) ?_;have w:=V.du (b:=τ3.length) (by omega) (.box (cS ev));have b4':=b3'.du (b:=τ3.length) (by omega) (.box (cS ev));have s6:=Qa (x:=.box (cS ev)) X (by simp) (c:=τ3.length) (by omega);have e6:ai (τ5.set τ3.length (.box (cS ev))) τ3.length=.box (cS ev):=Zc _ (by omega);have aaB:(τ5.set τ3.length (U.box (cS ev))).length=τ5.length:=by simp
 generalize τ5.set τ3.length (U.box (cS ev))=τ6 at *;have y:τ.length≠rb:=by omega
 have z:τ3.length≠rb:=by omega
 have A:τ.length≠J.length:=by omega
 have B:τ3.length≠J.length:=by omega
 have D:τ3.length≠τ.length:=by omega
 refine Xo (by simp[Qg,Qj,Zl,Zs,bF,df,Ao,B0,y,z,A,B,D,y.symm,z.symm,A.symm,B.symm,D.symm]) ?_;have o:=b4'.get r0;have E:LV rb l lv τ6:=hl.fG (λk p _=>w.2 k p (by simp));have f6:Fr rb lv lv J τ6:=w.lift rb;have F:=Yb o;rcases hq with ⟨rfl,hq⟩|⟨rfl,hq,rfl,rfl⟩
 ·exact Yf (j _ _ ⟨lv,mv,f6,by rw[aE hq];exact o,by rw[aE hq],by rw[aE hq];simpa using E⟩)
 ·rw[aB (by simp[hq])]at j;refine Xg (Z (v:=bN (Qy s sd c)) (ld s6 rfl) (Z rfl (Z rfl (Qd (cO (row':=dz b (Qy s sd c) sd tg lv fu mv) o rfl rfl rfl) (Ye _ F) (Z (v:=tj ⟨2,sd,c,s.next,0,0,[]⟩) (ld (Qa e6 (by simp) (by omega)) rfl) ?_)))));refine Xe hP (f:=153) rfl g153.ok rfl (vZ (Zc _ F) (E.fG (λk p gn=>Qb _ p gn)) hn _ _ (.inl rfl) (λσ' cW p1 p2 p3=>?_));exact j _ _ ⟨cW,mv,(f6.trans (Fr.set lv _)).trans p1,p2,rfl,p3⟩
def kH(b:Bk)(s:St)(sd tg op who:Int)(name:Tx)(n:Int):Int×St×List Ev:=
 if op=0\/op=1 then gX b s sd tg op who n else if op=2 then jP s (dA sd who) n else if op=3 then eL s sd n
 else if op=4 then dt s (dA sd who)else if op=5 then iy s sd n else if op=6 then pz s (dA sd who)else wR b s sd name
def iB(op:Int):Int:=if op=5 then 0 else 1
mutual
def dN (b:Bk) (sd tg:Int):Ef->St->Int->Int×St×Int×List Ev
 |.mk op who n name c cL cV,s,fu=>
  if op=8 then (if (wT b c&&lA b s sd tg c)=true then runs b sd tg cL s fu else runs b sd tg cV s fu)
  else if fu<iB op then (190,s,fu,[])
  else ((kH b s sd tg op who name (ik b s sd tg n)).1,(kH b s sd tg op who name (ik b s sd tg n)).2.1,
   (if (kH b s sd tg op who name (ik b s sd tg n)).1=0 then fu - iB op else fu),(kH b s sd tg op who name (ik b s sd tg n)).2.2)
def runs (b:Bk) (sd tg:Int):List Ef->St->Int->Int×St×Int×List Ev
 |[],s,fu=>(0,s,fu,[])
 |x::l,s,fu=>
  if (dN b sd tg x s fu).1=0 then
   ((runs b sd tg l (dN b sd tg x s fu).2.1 (dN b sd tg x s fu).2.2.1).1,(runs b sd tg l (dN b sd tg x s fu).2.1 (dN b sd tg x s fu).2.2.1).2.1,
    (runs b sd tg l (dN b sd tg x s fu).2.1 (dN b sd tg x s fu).2.2.1).2.2.1,(dN b sd tg x s fu).2.2.2 ++ (runs b sd tg l (dN b sd tg x s fu).2.1 (dN b sd tg x s fu).2.2.1).2.2.2)
  else dN b sd tg x s fu
end
theorem QdF(b:Bk)(sd tg:Int)(x:Ef)(s:St)(fu:Int):dN b sd tg x s fu =
  if x.op=8 then (if (wT b x.c&&lA b s sd tg x.c)=true then runs b sd tg x.cL s fu else runs b sd tg x.cV s fu)
  else if fu<iB x.op then (190,s,fu,[])
  else ((kH b s sd tg x.op x.who x.name (ik b s sd tg x.n)).1,(kH b s sd tg x.op x.who x.name (ik b s sd tg x.n)).2.1,
   (if (kH b s sd tg x.op x.who x.name (ik b s sd tg x.n)).1=0 then fu - iB x.op else fu),(kH b s sd tg x.op x.who x.name (ik b s sd tg x.n)).2.2):=by
 cases x;rw[dN];rfl
theorem QcH{j:Int}{o:Int->Int×Int}{p:Th->Int×Int}{id:Int}(h:TB N s)(h01:k=0\/k=1)(e:(gm j o p s id k).2.2=0):TB N (gm j o p s id k).1:=by
 have z:∀(x:Int),x≠0->(eG,mr,x).2.2=0->False:=λx y h=>y h;unfold gm at e ⊢;by_cases r:id=0
 ·rw[aE r]at e ⊢;unfold kZ at e ⊢;split at e
  ·rename_i f;rw[aE f];rcases h01 with rfl|rfl<;>exact h
  ·exact(z 171 (by decide) e).elim
 rw[aB r]at e ⊢;by_cases A:id<0
 ·simp_all
 rw[aB A]at e ⊢;cases w:gk s.s0.af id with
 |some i=>
  rw[w]at e;simp only at e ⊢;unfold jH at e ⊢;split at e
  ·rename_i f;rw[aE f];exact h
  ·exact(z 171 (by decide) e).elim
 |none=>
  rw[w]at e;simp only at e ⊢;cases B:gk s.s1.af id with
  |some i=>
   rw[B]at e;simp only at e ⊢;unfold jH at e ⊢;split at e
   ·rename_i f;rw[aE f];exact h
   ·exact(z 171 (by decide) e).elim
  |none=>simp_all
theorem cu.mv(h:cu b N C s){op id n:Int}(h01:k=0\/k=1)(e:(pk op b s id k n).2.2=0):cu b N C (pk op b s id k n).1:=by
 unfold pk at e ⊢;split at e
 ·rename_i q;rw[aE q];obtain⟨k1,k2,_⟩:=Yc7 h.may h01 e;exact⟨k1,QcH h.told h01 e,by rw[k2];exact h.aj⟩
 ·rename_i q;rw[aB q];obtain⟨k1,k2,_⟩:=YbL h.may h01 e;exact⟨k1,QcH h.told h01 e,by rw[k2];exact h.aj⟩
theorem cu.pV(h:cu b N C s)(h01:sd=0\/sd=1)(tg op who n:Int):cu b N C (gX b s sd tg op who n).2.1:=by
 unfold gX;split
 ·rename_i q;split
  ·rename_i e;exact h.mv (YdQ h01 q.1).1 e
  ·exact h
 ·exact h
theorem Ycu{n:Nat}{l l':List Int}{most':Int}(h:Zn n l most=true)(hl:∀c∈l',c∈l)(hm:(l'.length:Int)<=most'):Zn n l' most'=true:=by
 simp_all [Ql]
variable{m:List Int}
theorem Zcu{n:Nat}{l:List Int}{most':Int}(h:Zn n l most=true)(k:Zn n m most'=true)(hm:((l.length+m.length:Nat):Int)<=most):Zn n (l++m) most=true:=by
 grind [Ql]
theorem gp.tell{x:Sd}(h:gp b x)(hm:Zn b.aj.length m most=true)(hl:x.told.length+m.length<=1000000):gp b { x with told:=x.told++m }:=
 ⟨h.aY,h.aW,h.most,h.az,h.hand,h.ao,Zcu h.told hm (by omega),h.af⟩
theorem cu.ji(h:cu b N C s)(hm:Zn b.aj.length m most=true)(hl:N+m.length<=1000000)(h01:i=0\/i=1):cu b (N+m.length) C (Tz.ji m s i):=by
 obtain⟨f,j,o⟩:=h;have p:=j.tell m h01;obtain⟨t0,t1⟩:=j;rcases h01 with rfl|rfl
 ·exact⟨⟨f.hd,f.s0.tell hm (by omega),f.s1,f.un,f.at_⟩,p,o⟩
 ·exact⟨⟨f.hd,f.s0,f.s1.tell hm (by omega),f.un,f.at_⟩,p,o⟩
theorem cu.uE(h:cu b N C s)(hm:Zn b.aj.length m most=true)(hl:N+(m.length+m.length)<=1000000):cu b (N+(m.length+m.length)) C (dJ s m [0,1]):=by
 have:=(h.ji hm (by omega) (i:=0) (.inl rfl)).ji hm (by omega) (i:=1) (.inr rfl);rw[EG]at this;exact this
theorem cu.V7(h:cu b N C s)(h01:sd=0\/sd=1)(n:Int):cu b N C (eL s sd n).2.1:=by
 unfold eL;split
 ·exact h
 split
 ·exact h
 ·rename_i w j;obtain⟨f,o,p⟩:=h;rcases h01 with rfl|rfl
  ·have:=f.s0.aW;have r:=wG.1 this.2;have j:¬1000000<s.s0.aW+n:=j;exact⟨⟨f.hd,⟨f.s0.aY,⟨by show 0<=s.s0.aW+n;omega,wG.2 ⟨by show -1000000<=s.s0.aW+n;omega,by show s.s0.aW+n<=1000000;omega⟩⟩,f.s0.most,f.s0.az,f.s0.hand,f.s0.ao,f.s0.told,f.s0.af⟩,f.s1,f.un,f.at_⟩,o,p⟩
  ·have:=f.s1.aW;have r:=wG.1 this.2;have j:¬1000000<s.s1.aW+n:=j;exact⟨⟨f.hd,f.s0,⟨f.s1.aY,⟨by show 0<=s.s1.aW+n;omega,wG.2 ⟨by show -1000000<=s.s1.aW+n;omega,by show s.s1.aW+n<=1000000;omega⟩⟩,f.s1.most,f.s1.az,f.s1.hand,f.s1.ao,f.s1.told,f.s1.af⟩,f.un,f.at_⟩,o,p⟩
theorem cu.drop(h:cu b N C s)(hN:N+2<=1000000)(hC:C<1000000)(h01:i=0\/i=1):cu b (N+2) C (dt s i).2.1:=by
 unfold dt;obtain⟨f,x,j⟩:=h;have z:s.s0.ao.length<1000000/\s.s1.ao.length<1000000:=by unfold Xj at j;omega
 rcases h01 with rfl|rfl
 ·show cu b (N+2) C (match s.s0.hand with | []=>_|c::h=>_:Int×St×List Ev).2.1;cases o:s.s0.hand with
  |nil=>exact cu.mono ⟨f,x,j⟩ (by omega) (AO _)
  |cons c r=>
   have p:=f.s0.hand;rw[o]at p;obtain⟨y,w⟩:=QT p;refine cu.uE (N:=N) (m:=[c]) (most:=1) (s:=s.put 0 { s.s0 with hand:=r,ao:=s.s0.ao++[c] }) ⟨⟨f.hd,⟨f.s0.aY,f.s0.aW,f.s0.most,f.s0.az,y,Zr f.s0.ao w (by omega),f.s0.told,f.s0.af⟩,f.s1,f.un,f.at_⟩,x,?_⟩ ?_ (by simpa using hN)
   ·have:Xj (s.put 0 { s.s0 with hand:=r,ao:=s.s0.ao++[c] })=Xj s:=by simp[Xj,St.put,o];omega
    rw[this];exact j
   ·rw[Ql];simpa using w
 ·show cu b (N+2) C (match s.s1.hand with | []=>_|c::h=>_:Int×St×List Ev).2.1;cases o:s.s1.hand with
  |nil=>exact cu.mono ⟨f,x,j⟩ (by omega) (AO _)
  |cons c r=>
   have p:=f.s1.hand;rw[o]at p;obtain⟨y,w⟩:=QT p;refine cu.uE (N:=N) (m:=[c]) (most:=1) (s:=s.put 1 { s.s1 with hand:=r,ao:=s.s1.ao++[c] }) ⟨⟨f.hd,f.s0,⟨f.s1.aY,f.s1.aW,f.s1.most,f.s1.az,y,Zr f.s1.ao w (by omega),f.s1.told,f.s1.af⟩,f.un,f.at_⟩,x,?_⟩ ?_ (by simpa using hN)
   ·have:Xj (s.put 1 { s.s1 with hand:=r,ao:=s.s1.ao++[c] })=Xj s:=by simp[Xj,St.put,o];omega
    rw[this];exact j
   ·rw[Ql];simpa using w
theorem cu.rows(h:cu b N C s)(h01:i=0\/i=1):Zn b.aj.length (s.side i).az 60=true/\Zn b.aj.length (s.side i).hand 10=true:=by
 rcases h01 with rfl|rfl
 ·exact⟨h.may.s0.az,h.may.s0.hand⟩
 ·exact⟨h.may.s1.az,h.may.s1.hand⟩
theorem cu.look(h:cu b N C s)(hN:N+60<=1000000)(h01:sd=0\/sd=1)(n:Int):cu b (N+60) C (iy s sd n).2.1:=by
 unfold iy;have hd:=(h.rows h01).1;generalize j:(s.side sd).az.take (min (max n 0) (s.side sd).az.length).toNat=cs;have f:∀c∈cs,c∈(s.side sd).az:=λc o=>by grind
 have p:cs.length<=60:=by
  have:=(Ql.1 hd).1
  grind
 cases cs with
 |nil=>exact h.mono (by omega) (AO _)
 |cons c cs=>exact(h.ji (m:=c::cs) (Ycu (most':=60) hd f (by omega)) (by omega) h01).mono (by omega) (AO _)
theorem cu.Nu(h:cu b N C s)(hN:N+60<=1000000)(h01:i=0\/i=1):cu b (N+60) C (pz s i).2.1:=by
 have hd:=(h.rows h01).2;have:=(Ql.1 hd).1;exact(h.uE hd (by omega)).mono (by omega) (AO _)
theorem ZbJ(k:Int):∀(j:Nat) (s:St),(Zz k j s).2.2.length<=j
 |0,s=>by simp[Zz]
 |j+1,s=>by
  unfold Zz;split
  ·have:=ZbJ k j (aT s k).1;simp;omega
  ·simp
theorem XeZ(h:cu b N C s)(hN:N+60<=1000000)(hC:C<1000000)(h01:sd=0\/sd=1)(tg op who:Int)(name:Tx)(n:Int) :
  cu b (N+60) (C+1) (kH b s sd tg op who name n).2.1/\(kH b s sd tg op who name n).2.2.length<=60:=by
 have f:=JF h01 who;unfold kH;split
 ·refine⟨(h.pV h01 tg op who n).mono (by omega) (by omega),?_⟩
  grind [gX]
 split
 ·have j:(min (max n 0) 60).toNat<=60:=by omega
  have:=ZbJ (dA sd who) (min (max n 0) 60).toNat s;unfold jP;split
  ·exact⟨(Zcb hC f _ h (by omega)).mono (by omega) (by omega),by omega⟩
  ·exact⟨h.mono (by omega) (by omega),by simp⟩
 split
 ·refine⟨(h.V7 h01 n).mono (by omega) (by omega),?_⟩
  grind [eL]
 split
 ·refine⟨(h.drop (by omega) hC f).mono (by omega) (by omega),?_⟩;unfold dt;split<;>simp
 split
 ·refine⟨(h.look (by omega) h01 n).mono (by omega) (by omega),?_⟩;unfold iy;split<;>simp
 split
 ·exact⟨(h.Nu (by omega) f).mono (by omega) (by omega),by simp[pz]⟩
 ·refine⟨(h.Ez h01 name).mono (by omega) (AO _),?_⟩;unfold wR;split<;>simp
mutual
theorem Ta {b:Bk} {sd tg:Int} (h01:sd=0\/sd=1):∀(x:Ef) {N C:Nat} {s:St} (fu:Int),cu b N C s->N+60*(jD x).length<=1000000->C+(jD x).length<=1000000 ->
  cu b (N+60*(jD x).length) (C+(jD x).length) (dN b sd tg x s fu).2.1/\(dN b sd tg x s fu).2.2.2.length<=60*(jD x).length
 |.mk op who n name c cL cV,N,C,s,fu,h,o,p=>by
  rw[dN]
  have h1:1<=(jD (.mk op who n name c cL cV)).length:=by simp[jD]
  split
  ·rename_i h8
   have r:(bR cL).length+(bR cV).length<=(jD (.mk op who n name c cL cV)).length:=by simp[jD,h8];omega
   split
   ·obtain⟨f,j⟩:=zy h01 cL fu h (by omega) (by omega)
    exact⟨f.mono (by omega) (by omega),by omega⟩
   ·obtain⟨f,j⟩:=zy h01 cV fu h (by omega) (by omega)
    exact⟨f.mono (by omega) (by omega),by omega⟩
  split
  ·exact⟨h.mono (by omega) (by omega),by simp⟩
  ·obtain⟨f,j⟩:=XeZ h (by omega) (by omega) h01 tg op who name (ik b s sd tg n)
   exact⟨f.mono (by omega) (by omega),CI j (by omega)⟩
theorem zy {b:Bk} {sd tg:Int} (h01:sd=0\/sd=1):∀(l:List Ef) {N C:Nat} {s:St} (fu:Int),cu b N C s->N+60*(bR l).length<=1000000->C+(bR l).length<=1000000 ->
  cu b (N+60*(bR l).length) (C+(bR l).length) (runs b sd tg l s fu).2.1/\(runs b sd tg l s fu).2.2.2.length<=60*(bR l).length
 |[],N,C,s,fu,h,o,p=>by rw[runs];exact⟨h.mono (by omega) (by omega),by simp⟩
 |x::l,N,C,s,fu,h,o,p=>by
  rw[runs]
  have r:(bR (x::l)).length=(jD x).length+(bR l).length:=by simp[bR]
  obtain⟨f,j⟩:=Ta h01 x fu h (by omega) (by omega)
  split
  ·obtain⟨w,y⟩:=zy h01 l (dN b sd tg x s fu).2.2.1 f (by omega) (by omega)
   refine⟨w.mono (by omega) (by omega),?_⟩
   simp only[AT];omega
  ·exact⟨f.mono (by omega) (by omega),by omega⟩
end
mutual
theorem Qck (b:Bk) (sd tg:Int):∀(x:Ef) (s:St) (fu:Int),0<=fu->0<=(dN b sd tg x s fu).2.2.1/\(dN b sd tg x s fu).2.2.1<=fu
 |.mk op who n name c cL cV,s,fu,h=>by
  rw[dN]
  split
  ·split<;>simp_all [HQ]
  grind [iB]
theorem HQ (b:Bk) (sd tg:Int):∀(l:List Ef) (s:St) (fu:Int),0<=fu->0<=(runs b sd tg l s fu).2.2.1/\(runs b sd tg l s fu).2.2.1<=fu
 |[],s,fu,h=>by rw[runs];exact⟨h,FW _⟩
 |x::l,s,fu,h=>by
  have h1:=Qck b sd tg x s fu h
  rw[runs]
  split
  ·have h2:=HQ b sd tg l (dN b sd tg x s fu).2.1 (dN b sd tg x s fu).2.2.1 h1.1
   grind
  ·exact h1
end
theorem Xel(h:cc b s):Oo b s:=by
 have j:∀x:Sd,gp b x->∀c,c∈x.az\/c∈x.hand->0<=c/\c.toNat<b.aj.length:=by
  intro x k c f;have:0<=c/\c<(b.aj.length:Int):=by
   rcases f with f|f
   ·exact(Ql.1 k.az).2 c f
   ·exact(Ql.1 k.hand).2 c f
  omega
 intro k c f;unfold mR at f;split at f
 ·exact j _ h.s0 c f
 ·exact j _ h.s1 c f
theorem Xd8{n:Nm}(h:fF n=true):iF true n=true/\nJ n<=200:=by
 simp only[fF,AA,fe]at h;obtain⟨h1,h2,h3,h4⟩:=h;have h4:=Ck.1 h4;constructor
 ·rw[OC,h1,h2,h3,h4];rfl
 ·have:(rQ n).length=1:=by cases n;simp_all [Nm.kids,rQ,pn]
  rw[JO,this];decide
variable{cs:List Cd}
theorem YdZ{x:Ef}(h:qP cs true d x=true)(f:x.op≠8)(hp:(jD x).length<=200):iF true x.n=true/\nJ x.n<=200:=by
 rw[Dd,aB f]at h;simp only[AA]at h;obtain⟨_,_,_,_,_,h,_⟩:=h;by_cases j:cQ x.op=true
 ·rw[aE j]at h;refine⟨h,?_⟩;have:(rQ x.n).length<=(jD x).length:=by
   cases x<;>simp_all [Ef.op,jD,Ef.n]
  rw[JO];omega
 simp_all [Xd8]
theorem Yev{x:Ef}(h:qP cs true d x=true)(f:x.op=8):cR cs true (d+1) x.cL=true/\cR cs true (d+1) x.cV=true:=by
 simp_all [b_,Dd]
theorem Zcc{t:Bool}:∀ {l:List Ef},cR cs t d l=true->∀x∈l,qP cs t d x=true
 |a::l,h,x,f=>by
  simp only[cR,AA]at h;simp only[Az]at f;rcases f with rfl|f
  ·exact h.1
  ·exact Zcc h.2 x f
def Om(rb:Nat)(b:Bk)(sd tg:Int)(l:List Ev)(lv:I)(J:List U)(r:Int×St×Int×List Ev)(v:I)(σ':List U):Prop:=
 ∃cW f,Fr rb lv cW J σ'/\ai σ' rb=.box (dz b r.2.1 sd tg cW r.2.2.1 f)/\v=O r.1/\LV rb (l++r.2.2.2) cW σ'
@[reducible] def sa(rb:Nat):List I:=[.func (.func 109) [.ak rb 0] [],.func (.func 109) [.ak rb 0] [],.func (.func 110) [.ak rb 0] [],.func (.func 111) [.ak rb 0] [],.func (.func 112) [.ak rb 0] [],.func (.func 113) [.ak rb 0] [],.func (.func 114) [.ak rb 0] [],.func (.func 115) [.ak rb 0] []]
def zB(b:Bk)(f:List Cd)(sd tg:Int)(l:List Ef):Prop:=∀(J:List U) (rb:Nat) (s:St) (fu:Int) (mv lv:I) (ed:List Ev) (N C:Nat) (d:Int) (K:KT),
 ai J rb=.box (dz b s sd tg lv fu mv)->LV rb ed lv J->bz l=true->cR f true d l=true->(bR l).length<=200->cu b N C s->N+60*(bR l).length<=1000000->C+(bR l).length<=1000000 ->
 ed.length+60*(bR l).length<=1000000->0<=fu->fu<=1000->(∀v σ',Om rb b sd tg ed lv J (runs b sd tg l s fu) v σ'->K v σ')->g70.u VV [.ak rb 0,gE l] J K
set_option maxHeartbeats 8000000
theorem YcV(b:Bk)(Ab:List Cd)(sd tg:Int)(h01:sd=0\/sd=1)(hf:aN b=true)(V:Yg b.aj)(c6:(bO b).1=0)(m:Nat)(IH:∀l:List Ef,(bR l).length<m->zB b Ab sd tg l):∀l:List Ef,(bR l).length<=m->zB b Ab sd tg l:=by
 intro l hlm J rb s fu mv lv ed N C d K hr hl eI bT hW hS hN hC hE IM Cs hK;have wq:=Yb hr;have hlen:=YF eI;rw[de]at hlen;have vu:b.aj.length<=iC:=by
  simp only[aN,QE,AA,fe]at hf;exact hf.1.1
 rw[H2.e];unfold g70;dsimp only;refine Z rfl (Z rfl (Z rfl (Z rfl (Z rfl (Z rfl (Z rfl (Z rfl (Z (v:=.agg (sa rb)) rfl ?_))))))));refine Qd (v:=.ak J.length 0) (rd:=[]) (up:=[(J.length,.box [.bH,.bH,.bH,.bH,.bH,.bH,.bH,.bH])]) rfl (Qf J _) ?_;have a1:=dk.mY J (.box [.bH,.bH,.bH,.bH,.bH,.bH,.bH,.bH]);have r1:=Zb [U.box [.bH,.bH,.bH,.bH,.bH,.bH,.bH,.bH]] hr;have z1:=Xc J (.box [.bH,.bH,.bH,.bH,.bH,.bH,.bH,.bH]);have pY:(J++[U.box [.bH,.bH,.bH,.bH,.bH,.bH,.bH,.bH]]).length=J.length+1:=by simp
 generalize J++[U.box [.bH,.bH,.bH,.bH,.bH,.bH,.bH,.bH]]=σ1 at *;refine Qd (cO (row':=sa rb) z1 rfl rfl rfl) (Ye _ (by omega)) (Z (v:=O l.length) (rd:=[]) (by simp[Yn]) ?_);have a2:=a1.du (b:=J.length) (by omega) (.box (sa rb));have cC:J.length≠rb:=by omega
 have r2:=Qa (x:=.box (sa rb)) r1 (by simp) cC;have c2:ai (σ1.set J.length (.box (sa rb))) J.length=.box (sa rb):=Zc _ (by omega);generalize σ1.set J.length (.box (sa rb))=σ2 at *;have l2:LV rb ed lv σ2:=hl.fG (λk hk _=>a2.2 k hk (by simp));refine Zh (ι:=Nat) (λi vs τ=>∃ t j B A M3 Ni Ci,vs=[O i,O 0]/\i<=l.length/\runs b sd tg l s fu=((runs b sd tg (l.drop i) t j).1,(runs b sd tg (l.drop i) t j).2.1,(runs b sd tg (l.drop i) t j).2.2.1,B ++ (runs b sd tg (l.drop i) t j).2.2.2) /\
   0<=j/\j<=1000/\cu b Ni Ci t/\Ni+60*(bR (l.drop i)).length<=1000000/\Ci+(bR (l.drop i)).length<=1000000/\(ed++B).length+60*(bR (l.drop i)).length<=1000000/\(bR (l.drop i)).length<=(bR l).length /\
   Fr rb lv A J τ/\ai τ rb=.box (dz b t sd tg A j M3)/\LV rb (ed ++ B) A τ/\ai τ J.length=.box (sa rb))
  (λi=>l.length-i) 0 ⟨s,fu,[],lv,mv,N,C,rfl,by omega,rfl,IM,Cs,hS,hN,hC,by simpa using hE,AO _,a2.lift rb,r2,by simpa using l2,c2⟩ ?_
 rintro i vs τ again ⟨t,j,B,A,M3,Ni,Ci,rfl,hi,D,LR,WB,o,hNi,hCi,We,Wn,tp,zi,bZ,Cr⟩ bj;have aam:=Yb zi;have vy:=Yb Cr;refine Z rfl (Ya (λh=>?_) (λh=>?_));rotate_left
 ·have h:i=l.length:=by simp at h;omega
  subst h;have e0:runs b sd tg (l.drop l.length) t j=(0,t,j,[]):=by rw[List.drop_length,runs]
  rw[e0]at D;exact hK _ _ ⟨A,M3,tp,by rw[D];exact zi,by rw[D];rfl,by rw[D];simpa using bZ⟩
 have h:i<l.length:=by simpa using h
 have LK:l.drop i=l[i]::l.drop (i+1):=gB h;have iO:=AI h;have Sn:=XV eI iO;have X:=Zcc bT _ iO;have cJ:=λ(J:List U)=>Zm J bC false false 14 l .i64 i h;rw[LK]at D hNi hCi We Wn;generalize l[i]=x at *;have aap:(bR (x::l.drop (i+1))).length=(jD x).length+(bR (l.drop (i+1))).length:=by simp[bR]
 rw[aap]at hNi hCi We Wn;have hx1:1<=(jD x).length:=by cases x;simp[jD]
 have CE:=Ta (b:=b) (tg:=tg) h01 x j o (by omega) (by omega);have WG:=Qck b sd tg x t j LR;rw[runs]at D;refine Zj λk' ek=>?_;have fin:∀v τ',Om rb b sd tg (ed++B) A τ (dN b sd tg x t j) v τ'->(dN b sd tg x t j).1≠0->K v τ':=by
  rintro v τ' ⟨cW,H,L,E,Q,R⟩ Z';rw[aB Z']at D;exact hK _ _ ⟨cW,H,tp.trans L,by rw[D];exact E,by rw[D];exact Q,by rw[D];simpa using R⟩
 have cont:∀v τ',Om rb b sd tg (ed++B) A τ (dN b sd tg x t j) v τ'->(dN b sd tg x t j).1=0->k' [v] τ':=by
  rintro v τ' ⟨cW,H,L,E,Q,R⟩ h0;rw[aE h0]at D;rw[h0]at Q;subst Q;rw[ek];refine Z (Qi ..) ?_;rw[Zd (n:=i) (by omega)];refine bj (i+1) _ _ (by omega) ⟨(dN b sd tg x t j).2.1,(dN b sd tg x t j).2.2.1,B++(dN b sd tg x t j).2.2.2,cW,H,Ni+60*(jD x).length,Ci+(jD x).length,rfl,by omega,?_,WG.1,by omega,CE.1,by omega,by omega,?_,by omega,tp.trans L,E,?_,?_⟩
  ·rw[D];simp
  ·have:=CE.2;simp only[AT]at We ⊢;omega
  ·simpa using R
  ·exact L.get bZ Cr cC
 clear ek bj hK;refine Z (cJ _) (Z (bg (m9 _)) (Zq (row:=bC x) (row':=bC x) (by rw[Yz];rfl) (by rw[Yz];rfl) (by rw[Yz];rfl) ?_));have b1:=dk.mY τ (.box (bC x));have y:=Zb [U.box (bC x)] zi;have S:=Zb [U.box (bC x)] Cr;have z:=Xc τ (.box (bC x));have F:LV rb (ed++B) A (τ++[U.box (bC x)]):=bZ.fG (λk hk _=>Zg _ hk);have abR:(τ++[U.box (bC x)]).length=τ.length+1:=by simp
 have abP:τ.length<(τ++[U.box (bC x)]).length:=by omega
 generalize τ++[U.box (bC x)]=τ1 at *;have f1:Fr rb A A τ τ1:=b1.lift rb;refine Z rfl (Z (ld z (gQ x)) (Z (Xr ..) (Ya (λh8=>?_) (λh8=>?_))))
 ·have h8:x.op=8:=by simpa using h8
  have hZ:(tN x.c).length<=1000000/\(bR x.cL).length<(jD x).length/\(bR x.cV).length<(jD x).length:=by
   cases x;simp[Ef.op]at h8;simp[jD,h8,Ef.c,Ef.cL,Ef.cV]at Wn ⊢;omega
  have uS:=Yev X h8;have p:dN b sd tg x t j=if (wT b x.c&&lA b t sd tg x.c)=true then runs b sd tg x.cL t j else runs b sd tg x.cV t j:=by rw[QdF,aE h8]
  refine Z rfl (Z (v:=gE x.cV) (ld z (by rw[Yz];rfl)) (Z rfl (Z rfl (Z (v:=dd b) (ld y rfl) (Z rfl (Z rfl (Z (v:=bN t) (ld y rfl) (Z rfl (Z rfl (Z (v:=.agg [O sd,O tg]) (ld y rfl) (Z rfl (Z (ld z (oP x)) ?_))))))))))));refine Qm (c169 b hf V t o.ni (Qs.2 ⟨c6,o.may⟩) sd tg (by omega) (by omega) (Xel o.may) x.c (X9 Sn) hZ.1) rfl g116.ok.plain (by rw[QN];rfl) (Z rfl (Z rfl (Zj λk2 RM=>?_)));have body:∀T:List Ef,bz T=true->cR Ab true (d+1) T=true->(bR T).length<(jD x).length->dN b sd tg x t j=runs b sd tg T t j->k2 [gE T] τ1:=by
   intro T q1 q2 q3 q4;rw[RM];refine Xe hP (f:=70) rfl g70.ok rfl (IH T (by omega) τ1 rb t j M3 A (ed++B) Ni Ci (d+1) _ y F q1 q2 (by omega) o (by omega) (by omega) (by omega) LR WB (λv τ' w=>?_));rw[<-q4]at w;obtain⟨cW,H,L,E,Q,R⟩:=w;have Wb:Om rb b sd tg (ed++B) A τ (dN b sd tg x t j) v τ':=⟨cW,H,f1.trans L,E,Q,R⟩;rw[Q];rw[Q]at Wb;refine Z (QM ..) (Ya (λhq=>?_) (λhq=>?_))
   ·exact fin _ _ Wb (by simpa using hq)
   ·exact cont _ _ Wb (by simpa using hq)
  refine Ya (λhq=>?_) (λhq=>?_)
  ·refine Z rfl (Z (v:=gE x.cL) (ld z (by rw[Yz];rfl)) ?_);exact body _ (XP Sn) uS.1 hZ.2.1 (by rw[p,aE hq])
  ·exact body _ (YP Sn) uS.2 hZ.2.2 (by rw[p,aB (by simp[hq])])
 ·have h8:x.op≠8:=by simpa using h8
  have p:dN b sd tg x t j=if j < iB x.op then (190,t,j,[])else ((kH b t sd tg x.op x.who x.name (ik b t sd tg x.n)).1,(kH b t sd tg x.op x.who x.name (ik b t sd tg x.n)).2.1,
   (if (kH b t sd tg x.op x.who x.name (ik b t sd tg x.n)).1=0 then j - iB x.op else j),(kH b t sd tg x.op x.who x.name (ik b t sd tg x.n)).2.2):=by rw[QdF,aB h8]
  have xX:=YdZ X h8 (by omega);have mn:0<=x.op/\x.op<=8:=by
   rw[Dd]at X;simp only[AA,fe]at X;exact⟨X.1,X.2.1⟩
  refine Z rfl (Z (ld z (gQ x)) (Z (Xr ..) (Zj λk2 RM=>?_)));have hu:0<=iB x.op/\iB x.op<=1:=by unfold iB;split<;>omega
  have body:k2 [O (iB x.op)] τ1:=by
   rw[RM];clear RM k2;generalize iB x.op=u at *;refine Z rfl (Z rfl (Z (v:=O j) (ld y rfl) ?_));refine ay (Ya (λhq=>?_) (λhq=>?_))
   ·have hq:j<u:=by simpa using hq
    rw[aE hq]at p;exact fin _ _ ⟨A,M3,f1,by rw[p];exact y,by rw[p],by rw[p];simpa using F⟩ (by rw[p];show (190:Int)≠0;decide)
   have hq:¬j<u:=by simpa using hq
   rw[aB hq]at p;refine Z rfl (Z rfl (Z (v:=dd b) (ld y rfl) (Z rfl (Z rfl (Z (v:=bN t) (ld y rfl) (Z rfl (Z rfl (Z (v:=.agg [O sd,O tg]) (ld y rfl) (Z rfl (Z (ld z (sk x)) ?_))))))))));refine Qm (c31 b hf V t o.ni (Qs.2 ⟨c6,o.may⟩) sd tg (by omega) (by omega) (λc hc=>Xel o.may _ c (.inl hc)) x.n (zP Sn) xX.1 xX.2) rfl g117.ok.plain (by rw[YD];rfl) (ay (Z (ld z (gQ x)) ?_));have Eb:=Uz b t sd tg x.n;generalize ik b t sd tg x.n=n at *;have after:∀v τ2,Dn rb b sd tg j (ed++B) A τ1 (kH b t sd tg x.op x.who x.name n) v τ2 ->
     VV.rd (Qn .neq false [v,(.int .i64 0)] τ2) λt103=>VV.test t103 (K v τ2) (
     VV.rd (Yi [.ak rb 0] τ2) λt105=>VV.rd (Qc 28 [t105] τ2) λt106=>VV.rd (Xf false 1 [t106] τ2) λt107=>
     VV.rd (Qn .sub false [t107,O u] τ2) λt109=>VV.rd (Yi [.ak rb 0] τ2) λt110=>VV.rd (Qc 28 [t110] τ2) λt111=>
     VV.wr (Xh 1 [t111,t109] τ2) τ2 λ_ J=>k' [v] J):=by
    rintro v τ2 ⟨cW,H,L,E,rfl,R⟩;generalize kH b t sd tg x.op x.who x.name n=r at *;refine Z (QM ..) (Ya (λP=>?_) (λP=>?_))
    ·have P:r.1≠0:=by simpa using P
     rw[aB P]at p;exact fin _ _ ⟨cW,H,f1.trans L,by rw[p];exact E,by rw[p],by rw[p];exact R⟩ (by rw[p];exact P)
    ·have P:r.1=0:=by simpa using P
     rw[aE P]at p;have dg:=Yb E;refine Z rfl (Z rfl (Z (v:=O j) (ld E rfl) ?_));refine ay ?_;rw[Bb _ (by omega)];refine Qd (cO (row':=dz b r.2.1 sd tg cW (j-u) H) E rfl rfl rfl) (Ye _ dg) (cont _ _ ⟨cW,H,(f1.trans L).trans (Fr.set cW _),by rw[p];exact Zc _ dg,by rw[p],by rw[p];exact R.fG (λk hk gn=>Qb _ hk gn)⟩ (by rw[p];exact P))
   have DM:TB 100000000 t:=⟨by have:=o.told.1;omega,by have:=o.told.2;omega⟩;have G:=o.le;have ir:(ed++B).length+60<=1000000000:=by omega
   have mM:x.op=0\/x.op=1\/x.op=2\/x.op=3\/x.op=4\/x.op=5\/x.op=6\/x.op=7:=by omega
   rcases mM with e|e|e|e|e|e|e|e
   ·rw[e];refine Z rfl (Z (v:=.func (.func 109) [.ak rb 0] []) (ld S rfl) (Z (ld z (m9 x)) ?_));refine Xe hP (f:=109) (ys:=[.ak rb 0,.agg (bC x),O n]) rfl g109.ok rfl (Zel y F (by omega) h01 hf V G (Qs.2 ⟨c6,o.may⟩) x n (λv τ2 w=>after v τ2 ?_));have:kH b t sd tg x.op x.who x.name n=gX b t sd tg x.op x.who n:=by rw[kH,aE (.inl e)]
    rw[this];exact w
   ·rw[e];refine Z rfl (Z (v:=.func (.func 109) [.ak rb 0] []) (ld S rfl) (Z (ld z (m9 x)) ?_));refine Xe hP (f:=109) (ys:=[.ak rb 0,.agg (bC x),O n]) rfl g109.ok rfl (Zel y F (by omega) h01 hf V G (Qs.2 ⟨c6,o.may⟩) x n (λv τ2 w=>after v τ2 ?_));have:kH b t sd tg x.op x.who x.name n=gX b t sd tg x.op x.who n:=by rw[kH,aE (.inr e)]
    rw[this];exact w
   ·rw[e];refine Z rfl (Z (v:=.func (.func 110) [.ak rb 0] []) (ld S rfl) (Z (ld z (m9 x)) ?_));refine ZeR y F ir h01 hf V c6 o (by omega) (by omega) x n rfl (λv τ2 w=>after v τ2 ?_);have:kH b t sd tg x.op x.who x.name n=jP t (dA sd x.who) n:=by rw[e];rfl
    rw[this];exact w
   ·rw[e];refine Z rfl (Z (v:=.func (.func 111) [.ak rb 0] []) (ld S rfl) (Z (ld z (m9 x)) ?_));have Mj:0<=(t.side sd).aW/\(t.side sd).aW<=1000000:=by
     rcases h01 with rfl|rfl
     ·exact⟨o.may.s0.aW.1,(wG.1 o.may.s0.aW.2).2⟩
     ·exact⟨o.may.s1.aW.1,(wG.1 o.may.s1.aW.2).2⟩
    refine Xe hP (f:=111) (ys:=[.ak rb 0,.agg (bC x),O n]) rfl g111.ok rfl (XeV y F (by omega) h01 Mj x n (by omega) (λv τ2 w=>after v τ2 ?_));have:kH b t sd tg x.op x.who x.name n=eL t sd n:=by rw[e];rfl
    rw[this];exact w
   ·rw[e];refine Z rfl (Z (v:=.func (.func 112) [.ak rb 0] []) (ld S rfl) (Z (ld z (m9 x)) ?_));refine Xe hP (f:=112) (ys:=[.ak rb 0,.agg (bC x),O n]) rfl g112.ok rfl (XeR y F (by omega) h01 DM ⟨by have:=G.s0.hand;omega,by have:=G.s0.ao;omega⟩ ⟨by have:=G.s1.hand;omega,by have:=G.s1.ao;omega⟩ x n (λv τ2 w=>after v τ2 ?_));have:kH b t sd tg x.op x.who x.name n=dt t (dA sd x.who):=by rw[e];rfl
    rw[this];exact w
   ·rw[e];refine Z rfl (Z (v:=.func (.func 113) [.ak rb 0] []) (ld S rfl) (Z (ld z (m9 x)) ?_));have sv:(t.side sd).az.length<=100000000:=by
     rcases h01 with rfl|rfl
     ·have:=G.s0.az;show t.s0.az.length<=_;omega
     ·have:=G.s1.az;show t.s1.az.length<=_;omega
    refine Xe hP (f:=113) (ys:=[.ak rb 0,.agg (bC x),O n]) rfl g113.ok rfl (ZeX y F (by omega) h01 DM sv x n (λv τ2 w=>after v τ2 ?_));have:kH b t sd tg x.op x.who x.name n=iy t sd n:=by rw[e];rfl
    rw[this];exact w
   ·rw[e];refine Z rfl (Z (v:=.func (.func 114) [.ak rb 0] []) (ld S rfl) (Z (ld z (m9 x)) ?_));refine Xe hP (f:=114) (ys:=[.ak rb 0,.agg (bC x),O n]) rfl g114.ok rfl (Ye0 y F (by omega) h01 DM (by have:=G.s0.hand;omega) (by have:=G.s1.hand;omega) x n (λv τ2 w=>after v τ2 ?_));have:kH b t sd tg x.op x.who x.name n=pz t (dA sd x.who):=by rw[e];rfl
    rw[this];exact w
   ·rw[e];refine Z rfl (Z (v:=.func (.func 115) [.ak rb 0] []) (ld S rfl) (Z (ld z (m9 x)) ?_));refine Xe hP (f:=115) (ys:=[.ak rb 0,.agg (bC x),O n]) rfl g115.ok rfl (Qef y F (by omega) h01 hf V c6 o vu x n (λv τ2 w=>after v τ2 ?_));have:kH b t sd tg x.op x.who x.name n=wR b t sd x.name:=by rw[e];rfl
    rw[this];exact w
  refine Ya (λhq=>?_) (λhq=>?_)
  ·have:iB x.op=0:=by rw[iB,aE (by simpa using hq)]
   rw[this]at body;exact body
  ·have:iB x.op=1:=by rw[iB,aB (by simpa using hq)]
   rw[this]at body;exact body
theorem Nk(b:Bk)(f:List Cd)(sd tg:Int)(h01:sd=0\/sd=1)(hf:aN b=true)(j:Yg b.aj)(c6:(bO b).1=0)(l:List Ef):zB b f sd tg l:=by
 have o:∀(m:Nat) (l:List Ef),(bR l).length<=m->zB b f sd tg l:=by
  intro m
  induction m with
  |zero=>exact YcV b f sd tg h01 hf j c6 0 (λ_ h=>absurd h (by omega))
  |succ m p=>grind [YcV]
 exact o _ l (AO _)
def K5:Tx:=[48,49,50,51,52,53,54,55,56,57,97,98,99,100,101,102,103,104,105,106,107,108,109,110,111,112,113,114,115,116,117,118,119,120,121,122]
def Ca:Tx:=[48,48,48,49,48,50,48,51,48,52,48,53,48,54,48,55,48,56,48,57,49,48,49,49,49,50,49,51,49,52,49,53,49,54,49,55,49,56,49,57,50,48,50,49,50,50,50,51,50,52,50,53,50,54,50,55,50,56,50,57,51,48,51,49,51,50,51,51,51,52,51,53,51,54,51,55,51,56,51,57,52,48,52,49,52,50,52,51,52,52,52,53,52,54,52,55,52,56,52,57,53,48,53,49,53,50,53,51,53,52,53,53,53,54,53,55,53,56,53,57,54,48,54,49,54,50,54,51,54,52,54,53,54,54,54,55,54,56,54,57,55,48,55,49,55,50,55,51,55,52,55,53,55,54,55,55,55,56,55,57,56,48,56,49,56,50,56,51,56,52,56,53,56,54,56,55,56,56,56,57,57,48,57,49,57,50,57,51,57,52,57,53,57,54,57,55,57,56,57,57]
def jT(i:Nat):Tx:=if i<10 then [Hb (48+i)]else [Hb (48+i/10),Hb (48+i%10)]
theorem Qes:∀i<10,(K5.take (i+1)).drop i=jT i:=by decide
theorem QdW:∀i<63,10<=i->(Ca.take (i*2+2)).drop (i*2)=jT i:=by decide
theorem Yd7:∀i<63,∀j<63,jT i=jT j->i=j:=by decide
theorem YbJ(s:Tx)(i j:Nat)(h1:i<=j)(h2:j<=s.length)(J:List U):XE [.str s,O i,O j] J=.ok (.str ((s.take j).drop i)) [] []:=by
 show (bif BY i j&&BY j s.length then aL.ok (.str ((s.take j).drop i)) [] []else .stop)=_;simp[h1,h2,AH]
theorem QeR(f:Bool)(a b:Tx)(h:a.length+b.length<=1099511627776)(J:List U):Qn .add f [.str a,.str b] J=.ok (.str (a++b)) [] []:=by
 show (bif BY (a.length+b.length) 1099511627776 then aL.ok (.str (a++b)) [] []else .stop)=_;rw[AH h];rfl
def ZK:Nat->Tx
 |0=>[120]
 |i+1=>120::jT i
def yW(cs:List Cd):Nat->Nat->Tx
 |0,i=>ZK i
 |n+1,i=>if (cs.any λc=>c.name==ZK i)=true then yW cs n (i+1)else ZK i
def JK(cs:List Cd):Tx:=yW cs 62 0
theorem Ycf(i:Nat):(jT i).length<=2:=by unfold jT;split<;>simp
theorem ZbO(i:Nat):(ZK i).length<=3:=by
 cases i<;>simp_all [ZK,Ycf]
theorem Qbr(cs:List Cd):∀(n i:Nat),(yW cs n i).length<=3
 |0,i=>ZbO i
 |n+1,i=>by
  unfold yW;split
  ·exact Qbr cs n (i+1)
  ·exact ZbO i
theorem Xc7{i j:Nat}(hi:i<=63)(f:j<=63)(h:ZK i=ZK j):i=j:=by
 have h0:∀k,jT k≠[]:=by intro k;unfold jT;split<;>simp
 cases i with
 |zero=>
  cases j<;>simp_all [ZK]
 |succ i=>
  cases j with
  |zero=>simp_all [ZK]
  |succ j=>
   grind [ZK,Yd7]
theorem YdN:∀(l m:List Tx),l.Nodup->(∀x∈l,x∈m)->l.length<=m.length
 |[],_,_,_=>by simp
 |a::l,m,f,hs=>by
  have o:=hs a (by simp);rw[EX]at f;have:=YdN l (m.erase a) f.2 (λx j=>(List.mem_erase_of_ne (λe=>f.1 (by rw[<-e];exact j))).2 (hs x (by simp[j])))
  grind
theorem XcR{i:Nat}(hi:i<=62)(h:∀k<i,(cs.any λc=>c.name==ZK k)=true):i<=cs.length:=by
 have f:((Ao i).map ZK).Nodup:=by
  rw[List.Nodup,List.pairwise_map];refine Mk ?_ List.nodup_range;intro a b j hb o e;rw[List.mem_range]at j hb;exact o (Xc7 (by omega) (by omega) e)
 have:=YdN _ (cs.map Cd.name) f (λx p=>by
  grind)
 simpa using this
def nY(cs:List Cd)(l:List Ef):Cd:=⟨JK cs,false,0,0,0,0,0,0,l,[],[],0⟩
def nD(b:Bk)(l:List Ef):Bool:=decide ((dD (b.aj++[nY b.aj l])).1=0)
@[reducible] def Es(t:Tx)(l:List Ef):List I:=[.str t,.bool false,O 0,O 0,O 0,O 0,O 0,O 0,gE l,.aq,.aq,O 0]
theorem ZeD(cs:List Cd)(l:List Ef):bA h0 rd (Es (JK cs) l) (cM (nY cs l)):=
 .cons (aA.ro rfl) <| .cons (aA.ro rfl) <| .cons (aA.ro rfl) <| .cons (aA.ro rfl) <| .cons (aA.ro rfl) <| .cons (aA.ro rfl) <| .cons (aA.ro rfl) <| .cons (aA.ro rfl) <| .cons (aA.ro rfl) <|
  .cons (aA.nl 14) <| .cons (aA.nl 14) <| .cons (aA.ro rfl) .nil
theorem Xep(m:Nat->Option Nat)(c:Cd):(cM c).map (I.cy m)=cM c:=rfl
theorem ZeE(m:Nat->Option Nat)(l:List Cd):(U.rows 12 (l.map cM)).dE (I.cy m)=.rows 12 (l.map cM):=by
 simp[Xep]
theorem c504(i:Nat)(h:i<63):PC 221 [O i] (.str (jT i)):=by
 refine Xa hP g221.ok rfl rfl ?_;rw[H1.e];unfold g221;dsimp only;refine ay (Ya (λq=>?_) (λq=>?_))
 ·have q:i<10:=by have:=of_decide_eq_true q;omega
  refine Z (Qi ..) ?_;rw[Zd (n:=i) (by omega)];refine Z (YbJ K5 i (i+1) (by omega) (by show i+1<=36;omega) _) ?_;rw[Qes i q]
 ·have q:¬i<10:=by have:=of_decide_eq_false q;omega
  refine ay ?_;have f:AF.wrap ((i:Int)*2)=((i*2:Nat):Int):=by grind [Bb]
  rw[f];have j:AF.wrap (((i*2:Nat):Int)+2)=((i*2+2:Nat):Int):=by grind [Bb]
  rw[j];refine Z (YbJ Ca (i*2) (i*2+2) (by omega) (by show i*2+2<=200;omega) _) ?_;rw[QdW i h (by omega)]
theorem KG(i:Nat)(h:i<63):PC 108 [O i] (.str (jT i)):=by
 refine Xa hP g108.ok rfl rfl ?_;rw[H1.e];unfold g108;dsimp only;refine Xe hP (f:=150) rfl g150.ok rfl ?_;rw[H1.e];unfold g150;dsimp only;refine Xe hP (f:=189) rfl g189.ok rfl ?_;rw[H2.e];unfold g189;dsimp only;refine Z rfl (Xg (Z (v:=.bool (decide ((0:Int)<=(i:Int)))) rfl ?_));rw[show decide ((0:Int)<=(i:Int))=true from gA (by omega)];refine Xb (Z rfl (Xb (Z (v:=.bool (decide ((i:Int)<100))) rfl ?_)));rw[show decide ((i:Int)<100)=true from gA (by omega)];exact Z rfl (Xg (bD (c504 i h) g221.ok rfl))
theorem KD(l:List Cd)(hl:l.length<=1000000000):dH prog aQ 105 [iX l] (.sl 0 0 l.length false) [.rows 12 (l.map cM)]:=by
 cases l with
 |nil=>
  refine dH.xl ?_ ?_
  ·refine QC hP g105.ok rfl ?_;rw[H1.e];unfold g105;dsimp only;exact Z rfl (Xg (Tidy.ghost 12 (.inl rfl)))
  ·refine QC hP g105.ok rfl ?_;rw[H1.e];unfold g105;dsimp only;exact Z rfl (Yf (Z rfl (Qd rfl rfl (Tidy.trans (Tidy.d_ λM c u d=>Q0 (.aX true true 12 []) ⟨M,c⟩ u d) (Tidy.ghost 12 (.inr rfl))))))
 |cons x l=>
  refine QC hP g105.ok rfl ?_;rw[H1.e];unfold g105;dsimp only;refine Z rfl (Yf (Z rfl ?_));refine Qd (v:=.sl 0 0 (x :: l).length false) (rd:=[]) (up:=[(0,.rows 12 ((x :: l).map cM))]) ?_ rfl (Tidy.refl _ _);show (match Yl 12 [] (iX (x :: l))with
   |some (f,rd)=>bif a_ f&&BY ((2*(([]:List (List I)).length+f.length)+192)*152) (2 ^ 48)then aL.ok (.sl 0 0 (([]:List (List I)).length+f.length) false) rd ([]++[(0,U.rows 12 ([]++f))])else aL.stop
   | none=>.stop)=_
  have h1:Yl 12 [] (iX (x::l))=some ((x::l).map cM,[]):=rfl;have h2:∀q:List Cd,a_ (q.map cM)=true:=by
   intro q;induction q with
   |nil=>rfl
   |cons y q j=>simp only[B7,a_,j,DZ];rfl
  have h3:BY ((2*(([]:List (List I)).length+((x::l).map cM).length)+192)*152) (2 ^ 48)=true:=AH (by grind)
  grind
theorem w292{l:List Cd}(hl:l.length<=1000000000)(f:K (.sl J.length 0 l.length false) (J++[.rows 12 (l.map cM)])):VV.call (.call 105) [iX l] J K:=by
 refine J9 (KD l hl) rfl g105.ok.plain rfl ?_;simp only[Zx,B7,E4,ZeE,I.cy,ZG,Al];exact f
theorem KF(c:Cd)(t:Tx):PC 107 [.agg (cM c),.al [.str t] 0] (.bool (c.name==t)):=by
 refine Xa hP g107.ok rfl rfl ?_;rw[H2.e];unfold g107;dsimp only;exact Qd rfl rfl (Z rfl (Z (v:=.str c.name) rfl (Z (v:=.str t) (bg rfl) (Z rfl rfl))))
theorem KE(l:List Cd)(hl:l.length<=1000000000)(t:Tx):PC 106 [iX l,.func (.func 107) [] [.al [.str t] 0]] (.bool (l.any λc=>c.name==t)):=by
 refine Xa hP g106.ok rfl rfl ?_;rw[H2.e];unfold g106;dsimp only;refine bD (c259 l (by rw[de];omega) 107 [] [.al [.str t] 0] g107.ok.plain (λc=>c.name==t) (λc _=>KF c t) (λc=>rfl)) g149.ok (Z (pL ..) ?_);simp[Ph]
theorem c202(b:Bk)(hf:aN b=true)(w:Yg b.aj)(F:b.aj.length<=61)(l:List Ef)(hl:bz l=true)(G:(bR l).length<=500000000):PC 69 [dd b,gE l] (.bool (nD b l)):=by
 have o:QE b.aj=true:=by
  simp_all [aN]
 have x:QE (b.aj++[nY b.aj l])=true:=by
  simp only[QE,AA,fe,de]at o ⊢;refine⟨by simp;omega,?_⟩;rw[List.all_append,o.2];have:=Qbr b.aj 62 0;simp only[List.all_cons,List.all_nil,DZ,Bool.true_and,gq,nY,JK,de,AA,fe];exact⟨by omega,hl,rfl,rfl⟩
 have aan:Yg (b.aj++[nY b.aj l]):=by
  intro c f;rcases Bd.1 f with f|f
  ·exact w c f
  simp_all [od,nY,bR]
 have h293:=BI _ x aan;refine Xa hP g69.ok rfl rfl ?_;rw[H2.e];unfold g69;dsimp only;refine Qd (v:=.ak 0 0) (rd:=[]) (up:=[(0,.box (cf b))]) rfl rfl (Z rfl (Z (v:=iX b.aj) (ld (row:=cf b) rfl rfl) (w292 (by omega) ?_)));refine Z (v:=O b.aj.length) rfl (Z (Xr ..) ?_);rw[show decide ((b.aj.length:Int)=240)=false from i7 (by omega)];refine Yf (Qd (v:=.ak 2 0) (rd:=[]) (up:=[(2,.box [.str []])]) rfl rfl (Qd (v:=.aP) (rd:=[]) (up:=[(2,.box [.str [120]])]) rfl rfl ?_));have z:∀r∈b.aj.map cM,fV r=true:=by
  intro r hr;obtain⟨c,_,rfl⟩:=By.1 hr;rfl
 refine Zh (ι:=Nat) (λi p τ=>p=[O i]/\i<=61/\τ=[.box (cf b),.rows 12 (b.aj.map cM),.box [.str (ZK i)]]/\(∀k<i,(b.aj.any λc=>c.name==ZK k)=true)/\JK b.aj=yW b.aj (62-i) i) (λi=>62-i) 0 ⟨rfl,by omega,rfl,by omega,rfl⟩ ?_;rintro i p τ again ⟨rfl,L,rfl,A,j⟩ P;have e61:62-i=(61-i)+1:=by omega
 rw[e61,yW]at j;refine Z rfl (Yt (rd:=[1,2]) (KE b.aj (by omega) (ZK i)) rfl g106.ok.plain (.cons (aA.own (J:=[.box (cf b),.rows 12 (b.aj.map cM),.box [.str (ZK i)]]) rfl (by simp) (by simp) (HO _ _ (by simp)) z) (.cons (aA.func .nil (.cons (aA.box (row:=[.str (ZK i)]) rfl (by simp) (.cons (aA.ro rfl) .nil)) .nil)) .nil)) rfl (Ya (λh=>?_) (λh=>?_)))
 ·rw[aE h]at j;have B:∀k<i+1,(b.aj.any λc=>c.name==ZK k)=true:=by
   intro k D;by_cases e:k=i
   ·rw[e];exact h
   ·exact A k (by omega)
  have hle:=XcR (cs:=b.aj) (i:=i+1) (by omega) B;refine bD (KG i (by omega)) g108.ok (Z (QeR _ [120] (jT i) (by have:=Ycf i;simp;omega) _) (Qd (v:=.aP) (rd:=[]) (up:=[(2,.box [.str (ZK (i+1))])]) rfl rfl (Z (Qi ..) ?_)));rw[Zd (n:=i) (by omega)]
  grind
 ·rw[aB (by simp[h])]at j;refine ay (Qd (Q5 12 152 (b:=1) (c:=3) (len:=b.aj.length) (rs:=b.aj.map cM) (row:=Es (ZK i) l) rfl rfl (by simp) rfl (by omega)) rfl ?_);rw[<-j];refine Yt (rd:=[4]) h293 rfl g55.ok.plain (.cons (aA.d_ (y:=.aX false false 12 ((b.aj++[nY b.aj l]).map cM)) (aA.sl (rs:=b.aj.map cM++[Es (JK b.aj) l]) rfl (by simp) (by simp) (by simp) (λk row row' E Q=>?_)) (λM u d=>d.g_)) .nil) rfl ?_
  ·rw[Al]at E;by_cases D:k<b.aj.length
   ·grind [bA.ro]
   grind [ZeD]
  ·refine ae ?_;rfl
theorem Qbu{e:Int}(hp:s.phase=1)(ha:s.an.length=0):aJ e b s true=(aJ e b { s with phase:=0 } false&&s.bq):=by
 rw[C6,AA];constructor
 ·intro h;exact⟨Xch h hp ha,Ybv h hp⟩
 ·rintro⟨h,f⟩;simp only[aJ,AA]at h ⊢;obtain⟨j,o,p,r,w,F,G,x,y,z,A,B,D,h⟩:=h;have E:=Ck.1 ha;refine⟨j,o,p,r,w,by simp[hp],by simp[hp],x,y,?_,A,B,D,?_⟩
  ·rw[hp];exact z
  ·rw[aB (by simp[hp]),E];simp[f,fg]
theorem XcH:∀ {l pre:List Cd},(eA cs pre l).1=0->∀c∈l,eQ cs c=true
 |c::l,pre,h,x,f=>by
  unfold eA at h;split at h
  ·omega
  split at h
  ·rename_i j;simp only[Az]at f;rcases f with rfl|f
   ·exact j
   ·exact XcH h x f
  omega
theorem Xdh(h:(dD cs).1=0):∀c∈cs,eQ cs c=true:=by
 grind [dD,XcH]
theorem Ds{l:List Ef}(h:nD b l=true):cR (b.aj++[nY b.aj l]) true 1 l=true/\(bR l).length<=200:=by
 have f:=Xdh (of_decide_eq_true h) (nY b.aj l) (by simp);simp only[eQ,AA,fe,b_]at f
 grind [od,nY,P9]
def Xs(b:Bk)(sd fu:Int)(l:List Ef):Bool:=(((decide (sd<0)||decide (sd>1))||decide (fu<0))||decide (fu>1000)) || !nD b l
def LW(l:List Ev)(lv:I)(J:List U):Prop:=(l=[]/\lv=.aq)\/(l≠[]/\∃c rows,lv=.sl c 0 l.length false/\ai J c=.rows 7 rows/\eR rows l)
theorem LV.lw(h:LV rb l lv J):LW l lv J:=by
 rcases h with h|⟨h0,c,rows,_,h1,h2,h3⟩
 ·exact .inl h
 ·exact .inr ⟨h0,c,rows,h1,h2,h3⟩
theorem w_(s:St)(hs:ba 1000000000 s):PC 17 [bN s] (bN s):=
 ZcU (c59 s hs) ⟨Ao 11,(SB.copy (J:=hJ s) (n:=0) (λi x h=>by rw[Al];exact Qp h) (λi f=>by simp_all)).agg⟩
theorem Vc(b:Bk)(hf:aN b=true)(D:Yg b.aj)(iY:b.aj.length<=61)(s:St)(hs:ba 1000000000 s)(sd tg fu:Int)(l:List Ef)(hl:bz l=true)(wc:(bR l).length<=500000000)(N C:Nat)(hT:TB N s)(hN:N+12000<=1000000)(hC:Xj s<=C)(oV:C+200<=1000000)
 (hE1:aJ (bO b).1 b s true=false->∀σ',dk J σ' []->K (.bw [.agg aU,.aq,O 0,O 170]) σ')
 (IE:aJ (bO b).1 b s true=true->Xs b sd fu l=true->∀σ',dk J σ' []->K (.bw [.agg aU,.aq,O 0,O 2]) σ')
 (hK:aJ (bO b).1 b s true=true->Xs b sd fu l=false->∀ σ' lv,dk J σ' []->LW (runs b sd tg l s fu).2.2.2 lv σ'->(∀ k n,lv=.sl k 0 n false->J.length<=k) ->
   K (.bw [bN (runs b sd tg l s fu).2.1,lv,O (runs b sd tg l s fu).2.2.1,O (runs b sd tg l s fu).1]) σ') :
  g44.u VV [dd b,bN s,.agg [O sd,O tg],gE l,O fu] J K:=by
 rw[H5.e];unfold g44;dsimp only;refine Qd (v:=.ak J.length 0) (rd:=[]) (up:=[(J.length,.box (cf b))]) rfl (Qf J _) ?_;have a0:=dk.mY J (.box (cf b));have b0:=Xc J (.box (cf b));have MY:(J++[U.box (cf b)]).length=J.length+1:=by simp
 generalize J++[U.box (cf b)]=σ0 at *;refine Qd (v:=.ak σ0.length 0) (rd:=[]) (up:=[(σ0.length,.box (aH s))]) rfl (Qf σ0 _) ?_;have a1:=a0.j9 (.box (aH s));have b1:=Zb [U.box (aH s)] b0;have s1:=Xc σ0 (.box (aH s));have pY:(σ0++[U.box (aH s)]).length=σ0.length+1:=by simp
 generalize σ0++[U.box (aH s)]=σ1 at *;refine Qd (v:=.ak σ1.length 0) (rd:=[]) (up:=[(σ1.length,.box [O sd,O tg])]) rfl (Qf σ1 _) ?_;have a2:=a1.j9 (.box [O sd,O tg]);have b2:=Zb [U.box [O sd,O tg]] b1;have s2:=Zb [U.box [O sd,O tg]] s1;have E:=Xc σ1 (.box [O sd,O tg]);have kq:(σ1++[U.box [O sd,O tg]]).length=σ1.length+1:=by simp
 generalize σ1++[U.box [O sd,O tg]]=σ2 at *;refine Qd (v:=.ak σ2.length 0) (rd:=[]) (up:=[(σ2.length,.box aU)]) rfl (Qf σ2 _) ?_;have a3:=a2.j9 (.box aU);have b3:=Zb [U.box aU] b2;have P:=Zb [U.box aU] s2;have Q:=Zb [U.box aU] E;have z3:=Xc σ2 (.box aU);have AR:(σ2++[U.box aU]).length=σ2.length+1:=by simp
 generalize σ2++[U.box aU]=σ3 at *;refine Z (v:=bN s) (ld P rfl) (Zq (row:=aH s) (row':=aH s) rfl rfl rfl ?_);have a4:=a3.j9 (.box (aH s));have R:=Zb [U.box (aH s)] b3;have w:=Zb [U.box (aH s)] P;have S:=Zb [U.box (aH s)] Q;have T:=Zb [U.box (aH s)] z3;have p:=Xc σ3 (.box (aH s));have En:(σ3++[U.box (aH s)]).length=σ3.length+1:=by simp
 generalize σ3++[U.box (aH s)]=σ4 at *;refine Z rfl (Z (v:=aS s.phase) (ld w rfl) ?_);refine ay ?_;refine TM (v1:=.ak σ0.length 5) (v2:=aM s.an) (v3:=O s.an.length) (d:=((s.an.length:Int)==0)) (q3:=[]) rfl (ld (row:=aH s) w rfl) (by simp[Yn]) rfl ?_;refine Zj λk' V=>?_;have X:∀(t:St) (τ:List U),ba 1000000000 t->dk J τ []->ai τ J.length=.box (cf b)->ai τ σ0.length=.box (aH s)->ai τ σ1.length=.box [O sd,O tg]->ai τ σ2.length=.box aU->ai τ σ3.length=.box (aH t) ->
   (aJ (bO b).1 b t false && !(decide (t.phase≠s.phase) && !s.bq))=aJ (bO b).1 b s true->k' [] τ:=by
  intro t τ MH at_ x st y z Y nd;have A:=Yb z;rw[V];clear V;have zY:=c55 b hf D t MH;refine Z (v:=dd b) (ld x rfl) (Z (v:=bN t) (ld Y rfl) (bD zY g35.ok ?_));refine Z (QM ..) ?_;have uR:∀o:I->Prop,o (.bool (!aJ (bO b).1 b s true)) ->
    VV.gr (.bool (decide ((bif aJ (bO b).1 b t false then (0:Int)else 170)≠0))) false (λk=>VV.rd (Qc 2 [.ak σ3.length 0] τ) k) λt34=>
    VV.gr (.bool (decide ((bif aJ (bO b).1 b t false then (0:Int)else 170)≠0))) false (λk=>VV.rd (Xf false 1 [t34] τ) k) λt35=>
    VV.gr (.bool (decide ((bif aJ (bO b).1 b t false then (0:Int)else 170)≠0))) false (λk=>VV.rd (Qc 2 [.ak σ0.length 0] τ) k) λt36=>
    VV.gr (.bool (decide ((bif aJ (bO b).1 b t false then (0:Int)else 170)≠0))) false (λk=>VV.rd (Xf false 1 [t36] τ) k) λt37=>
    VV.gr (.bool (decide ((bif aJ (bO b).1 b t false then (0:Int)else 170)≠0))) false (λk=>VV.rd (Qn .neq false [t35,t37] τ) k) λt38=>
    VV.gr (.bool (decide ((bif aJ (bO b).1 b t false then (0:Int)else 170)≠0))) false (λk=>VV.rd (mi [t38] τ) k) λt39=>
    VV.gr t39 true (λk=>VV.rd (Qc 3 [.ak σ0.length 0] τ) k) λt40=>
    VV.gr t39 true (λk=>VV.rd (Xf false 1 [t40] τ) k) λt41=>
    VV.gr t39 true (λk=>VV.rd (qH .not [t41] τ) k) λt42=>
    VV.gr (.bool (decide ((bif aJ (bO b).1 b t false then (0:Int)else 170)≠0))) false (λk=>VV.rd (Xk [t39,t42,(.bool false)] τ) k) λt43=>
    VV.rd (Xk [(.bool (decide ((bif aJ (bO b).1 b t false then (0:Int)else 170)≠0))),(.bool true),t43] τ) o:=by
   intro o j;rw[<-nd]at j;rcases cE (aJ (bO b).1 b t false)with q|q
   ·rw[q]at j ⊢;refine ay ?_;refine Z (v:=aS t.phase) (ld Y rfl) ?_;refine ay ?_;refine Z (v:=aS s.phase) (ld st rfl) ?_;refine ae ?_;rcases cE (decide (t.phase≠s.phase))with u|u
    ·rw[u]at j ⊢;refine ay (Z (v:=.bool s.bq) (ld st rfl) (ay ?_));simpa using j
    ·rw[u]at j ⊢;refine ay ?_;simpa using j
   ·rw[q]at j ⊢;refine ay ?_;simpa using j
  refine uR _ ?_;clear uR;rcases cE (aJ (bO b).1 b s true)with hm|hm
  rotate_left
  ·rw[hm];refine ay (Qd (cO (row':=aU) z rfl rfl rfl) (Ye _ A) (Zp (Qr A rfl) ?_));exact hE1 hm _ (at_.du (by omega) _)
  rw[hm];refine Yf (Z rfl (Z (v:=O sd) (ld y rfl) ?_));refine ay (vl (d:=decide (sd>1)) (v1:=.ak σ1.length 0) (v2:=O sd) (λ_=>rfl) (λ_=>ld y rfl) (λ_=>rfl) (X3 (d:=decide (fu<0)) (v1:=O fu) (λ_=>rfl) (λ_=>rfl) (X3 (d:=decide (fu>1000)) (v1:=O fu) (λ_=>rfl) (λ_=>rfl) ?_)));have DP:Xs b sd fu l=true->∀o:I->Prop,True:=λ_ _=>trivial;have ki:∀o:KT,o (.bool (Xs b sd fu l)) τ ->
    VV.gr (.bool (((decide (sd<0)||decide (sd>1))||decide (fu<0))||decide (fu>1000))) false (λk=>VV.rd (Xf true 2 [.ak J.length 0] τ) k) λt64=>
    VV.gr (.bool (((decide (sd<0)||decide (sd>1))||decide (fu<0))||decide (fu>1000))) false (λk=>VV.rd (mi [gE l] τ) k) λt65=>
    VV.gw (.bool (((decide (sd<0)||decide (sd>1))||decide (fu<0))||decide (fu>1000))) false (λk=>VV.call (.call 69) [t64,t65] τ k) τ λt66 J=>
    VV.gr (.bool (((decide (sd<0)||decide (sd>1))||decide (fu<0))||decide (fu>1000))) false (λk=>VV.rd (qH .not [t66] J) k) λt67=>
    VV.rd (Xk [(.bool (((decide (sd<0)||decide (sd>1))||decide (fu<0))||decide (fu>1000))),(.bool true),t67] J) (λv=>o v J):=by
   intro o j;unfold Xs at j;rcases cE (((decide (sd<0)||decide (sd>1))||decide (fu<0))||decide (fu>1000))with q|q
   ·rw[q]at j ⊢;exact ay j
   ·rw[q]at j ⊢;refine Xb (Z (v:=dd b) (ld x rfl) ?_);refine ay (bD (c202 b hf D iY l hl wc) g69.ok ?_);refine ay j
  refine ki _ ?_;clear ki DP;rcases cE (Xs b sd fu l)with hb|hb
  ·rw[hb];refine ay (Qd (cO (row':=aU) z rfl rfl rfl) (Ye _ A) (Zp (Qr A rfl) ?_));exact IE hm hb _ (at_.du (by omega) _)
  rw[hb];refine Yf ?_;have F:=hb;unfold Xs at F;simp only[Ct,pI,Bool.not_eq_false']at F;obtain⟨⟨⟨⟨h1,h2⟩,h3⟩,h4⟩,h5⟩:=F;have c6:=(Qs.1 hm).1;have hM:=(Qs.1 hm).2;obtain⟨Ww,xL⟩:=Ds h5;refine Ze (v:=dd b) (ld x rfl) (Yd _) (Ze (v:=bN s) (ld st rfl) (Yd _) (YX (w_ s hs) g17.ok (Ze (v:=.agg [O sd,O tg]) (ld y rfl) (Yd _) (Xd (v:=.agg (dz b s sd tg .aq fu .bH)) rfl ?_))));refine Ze (v:=.ak τ.length 0) (rd:=[]) (up:=[(τ.length,.box (dz b s sd tg .aq fu .bH))]) rfl (Qf τ _) ?_;have rM:=Yb x;have dW:=Yb st;have ML:=Yb y;have w1:τ.length≠J.length:=by omega
  have w2:τ.length≠σ0.length:=by omega
  have w3:τ.length≠σ1.length:=by omega
  have G:τ.length≠σ2.length:=by omega
  refine Xo (by rfl) ?_;have H:=at_.j9 (.box (dz b s sd tg .aq fu .bH));have rt2:=Xc τ (.box (dz b s sd tg .aq fu .bH));have zt2:=Zb [U.box (dz b s sd tg .aq fu .bH)] z;have abl:(τ++[U.box (dz b s sd tg .aq fu .bH)]).length=τ.length+1:=by simp
  generalize τ++[U.box (dz b s sd tg .aq fu .bH)]=τ2 at *;refine Xe hP (f:=70) rfl g70.ok rfl (Nk b (b.aj++[nY b.aj l]) sd tg (by omega) hf D c6 l τ2 τ.length s fu .bH .aq [] N C 1 _ rt2 (.inl ⟨rfl,rfl⟩) hl Ww xL ⟨hM,hT,hC⟩ (by omega) (by omega) (by simp;omega) (by omega) (by omega) (λv τ3 hD=>?_));obtain⟨cW,lZ,B,L,rfl,p⟩:=hD;rw[List.nil_append]at p;have j:=hK hm hb;generalize runs b sd tg l s fu=r at *;have abD:∃cs,True:=⟨0,trivial⟩;have uX:LV τ.length [] I.aq τ2:=.inl ⟨rfl,rfl⟩;have zt3:=B.get uX zt2 G.symm;have MO:=Yb zt3;refine Xd rfl (Xd rfl (Ze (v:=bN r.2.1) (ld L rfl) (Yd _) (Xd rfl (Xd rfl (Ze (v:=cW) (ld L rfl) (Yd _) (Xd rfl (Xd rfl (Ze (v:=O r.2.2.1) (ld L rfl) (Yd _) ?_))))))));refine Ze (cO (row':=aH r.2.1) zt3 rfl rfl rfl) (Ye _ MO) (Xo (by simp[Qg,Qj,Zl,Zs,bF,df,Ao,B0,G,G.symm]) (Zp (Qr MO rfl) ?_));have fD:∀k n,cW=.sl k 0 n false->τ2.length<=k:=by
   intro k n e;rcases B.new k n e with h|⟨m,h⟩<;>simp_all
  have at3:dk J τ3 []:=⟨CI H.1 B.len,λk hk _=>by rw[B.cq k (Er hk H.1) (by omega) (by intro n e;cases e),H.2 k hk (by simp)]⟩;refine j _ cW (at3.du (by omega) _) ?_ (λk n e=>by have:=fD k n e;omega);have Mi:=p.lw;rcases Mi with h|⟨g0,c,rows,g1,g2,g9993⟩
  ·exact .inl h
  ·refine .inr ⟨g0,c,rows,g1,?_,g9993⟩;have:=fD c _ g1;rw[Qb _ (Yb g2) (by omega)];exact g2
 rcases cE ((s.phase==1)&&((s.an.length:Int)==0))with hq|hq
 ·rw[hq];simp only[AA,beq_iff_eq]at hq;have W6:=Yb p;refine Xg (Z rfl (Qd (cO (row:=aH s) (row':=aH { s with phase:=0 }) p rfl rfl rfl) (Ye _ W6) ?_));refine X { s with phase:=0 } _ ⟨hs.an,hs.s0,hs.s1⟩ (a4.du (by omega) _) (Qa R (by simp) (by omega)) (Qa w (by simp) (by omega)) (Qa S (by simp) (by omega)) (Qa T (by simp) (by omega)) (Zc _ W6) ?_
  grind [Qbu]
 ·rw[hq];refine Yf (X s _ hs a4 R w S T p ?_);rw[show decide (s.phase≠s.phase)=false from by simp];simp only[Bool.false_and,Bool.not_false,DZ];rw[C6]
  grind [Ych,U']
end Go.Ah.Tz
end
section
namespace Go.Ah
theorem Tidy.map{J:List U}{v:I}(φ:I->I)(hφ:∀(M:Nat->Option Obj) (c:Own) (x:I) (u:Value),Den M c x u->Den M c (φ x) u):Tidy J v (J.map (λb=>b.dE φ)) v:=by
 intro GL w0 L g w r u d;have back:∀k aD,hp (J.map (λb=>b.dE φ)) k=some aD->∃f,hp J k=some f/\aD=f.dE φ:=by
  intro k aD e;have e:(J.map (λb=>b.dE φ))[k]?=some aD:=e;rw[Ba,Option.map_eq_some_iff]at e;obtain⟨f,h1,h2⟩:=e;exact⟨f,h1,h2.symm⟩
 refine⟨g.c,?_,d⟩;exact {
  keeps:=r.keeps
  aZ:=r.aZ
  src:=r.src
  cr:=r.cr
  dU:=λk e=>r.dU k (by
   have e:(J.map (λb=>b.dE φ))[k]?=none:=e;rw[Ba,Option.map_eq_none_iff]at e;exact e)
  jb:=λk aD e=>by
   obtain⟨f,h1,_⟩:=back k aD e;exact r.jb k f h1
  own:=λk aD j e i s z=>by
   obtain⟨f,h1,rfl⟩:=back k aD e;rw[U.bQ]at i;obtain⟨D,E,o,F,G⟩:=r.own k f j h1 i s z;exact⟨D,E,o,F,G.dE (p:=λ_=>True) (λx v _ d=>hφ _ _ x v d) (U.all_true _)⟩
  bd:=λk aD j e i s z=>by
   obtain⟨f,h1,rfl⟩:=back k aD e;rw[U.bQ]at i;have:=r.bd k f j h1 i s z;subst this;rfl
  inj:=λk A x H K cb2 N P B C Q R S T V=>by
   obtain⟨y,h1,rfl⟩:=back k x N;obtain⟨X,Y,rfl⟩:=back A H P;rw[U.bQ]at B C;exact r.inj k A y X K cb2 h1 Y B C Q R S T V }
end Go.Ah
namespace Go.Ah.Tz
open Go.Proofs.Tryz (prog)
set_option maxRecDepth 100000
def qw(x:I):I:=match x with
 |.aq=>.aX false false 1 []
 |x=>x
theorem ZcS(M:Nat->Option Obj)(c:Own)(x:I)(u:Value)(d:Den M c x u):Den M c (qw x) u:=by
 cases x with
 |aq=>exact d.eZ 1
 |_=>exact d
theorem QcM{rows:List (List I)}{l:List Ev}(h:eR rows l):rows.map (λr=>r.map qw)=l.map cS:=by
 induction h with
 |nil=>rfl
 |snoc rows l e f _ b d=>
  simp only[A8,B7,E4,d]
  congr 1
  rcases b with rfl|⟨rfl,h⟩
  ·rfl
  ·rw[cS,h];rfl
theorem Ydt{rows:List (List I)}{l:List Ev}(h:eR rows l):∀r∈rows,fV r=true:=by
 induction h with
 |nil=>intro r hr;simp at hr
 |snoc rows l e f _ b d=>
  intro r hr;rcases Bd.1 hr with hr|hr
  ·exact d r hr
  ·rw[D1]at hr;subst hr;rcases b with rfl|⟨rfl,_⟩<;>rfl
theorem LW.Iz{l:List Ev}{lv:I}{J:List U}(h:LW l lv J)(s:St)(b c:Int):∃rd,aA (hp J) rd (.bw [bN s,lv,O b,O c]) (.bw [bN s,.aX false false 7 (l.map cS),O b,O c]):=by
 rcases h with ⟨rfl,rfl⟩|⟨_,k,rows,rfl,w,j⟩
 ·exact⟨[],aA.bw (.cons (aA.ro rfl) (.cons (aA.nl 7) (.cons (aA.ro rfl) (.cons (aA.ro rfl) .nil))))⟩
 ·refine⟨[k],aA.bw (.cons (aA.ro rfl) (.cons (aA.d_ (y:=.aX false false 7 (l.map cS)) ?_ (λM u d=>d)) (.cons (aA.ro rfl) (.cons (aA.ro rfl) .nil))))⟩;refine aA.d_ (y:=.aX false false 7 (l.map cS)) (aA.d_ (aA.sl (rs:=rows) (rs':=l.map cS) (Zw w (by simp)) (by simp) (by rw[j.len];omega) (by simp) (λi row row' f p=>?_)) (λM u d=>d.g_)) (λM u d=>d);rw[Al]at f;have hm:=QcM j;have h1:(rows.map λr=>r.map qw)[i]?=some (row.map qw):=by rw[Ba,f];rfl
  rw[hm,p]at h1;cases h1;have o:=Ydt j row (Au f);clear hm p f
  induction row with
  |nil=>exact .nil
  |cons x row z=>
   simp only[fV,AA]at o;exact .cons (aA.d_ (aA.ro o.1) (λM u d=>ZcS M bE x u d)) (z o.2)
section
variable (b:Bk) (hf:aN b=true) (bn:Yg b.aj) (iY:b.aj.length<=61) (s:St) (hs:ba 1000000000 s) (sd tg fu:Int) (l:List Ef) (hl:bz l=true) (wc:(bR l).length<=500000000) (N C:Nat) (hT:TB N s) (hN:N+12000<=1000000) (hC:Xj s<=C) (oV:C+200<=1000000)
 (hm:aJ (bO b).1 b s true=true) (hb:Xs b sd fu l=false)
include hf bn iY hs hl wc hT hN hC oV hm hb
theorem KK:PC 44 [dd b,bN s,.agg [O sd,O tg],gE l,O fu] (.bw [bN (runs b sd tg l s fu).2.1,.aX false false 7 ((runs b sd tg l s fu).2.2.2.map cS),O (runs b sd tg l s fu).2.2.1,O (runs b sd tg l s fu).1]):=by
 exact Zo hP g44.ok rfl (Vc b hf bn iY s hs sd tg fu l hl wc N C hT hN hC oV (λh=>by rw[hm]at h;cases h) (λ_ h=>by rw[hb]at h;cases h) (λ_ _ σ' lv _ h _=>h.Iz _ _ _))
end
end Go.Ah.Tz
end
section
namespace Go.Ah.Tz
open Go.Proofs.Tryz (prog)
set_option maxRecDepth 100000
def XA(s:St):Int:=if s.s0.aY<=0/\s.s1.aY<=0 then 3 else if s.s0.aY<=0 then 2 else if s.s1.aY<=0 then 1 else 0
def Bs(b:Bk)(s:St)(r:Int):Bool:=!(((decide (r<=0)||decide (r>3))||(s.phase==2)) || !aJ (bO b).1 b s true)
def bV(b:Bk)(s:St)(r:Int):St×Ev:=if Bs b s r=true then ({ s with phase:=2,an:=[],result:=r },⟨15,0,0,0,0,r,[]⟩)else (s,mr)
attribute [local irreducible] aI.rd aI.pu aI.wr aI.dr aI.gr aI.gw aI.gl aI.gd aI.opt c8 W
set_option maxHeartbeats 4000000
theorem Xes(b:Bool):decide ((bif b then (0:Int)else 170)=0)=b:=by cases b<;>rfl
variable{K:KT}
variable{J τ:List U}
theorem w209(b:Bk)(hf:aN b=true)(p:Yg b.aj)(s:St)(hs:ba 1000000000 s){bb sb:Nat}(h1:ai J bb=.box (cf b))(h2:ai J sb=.box (aH s))
 (r:∀σ',dk J σ' []->K (.bool (aJ (bO b).1 b s true)) σ'):g61.u VV [.ak bb 0,.ak sb 0] J K:=by
 rw[H2.e];unfold g61;dsimp only;refine Z rfl (Z (v:=bN s) (ld h2 rfl) (Zq (row:=aH s) (row':=aH s) rfl rfl rfl ?_));have f:=dk.mY J (.box (aH s));have i:=Zb [U.box (aH s)] h1;have s1:=Zb [U.box (aH s)] h2;have j:=Xc J (.box (aH s));have hlb:=Yb h1;have C:(J++[U.box (aH s)]).length=J.length+1:=by simp
 generalize J++[U.box (aH s)]=σ1 at *;refine Z rfl (Z rfl (Z (v:=aS s.phase) (ld s1 rfl) ?_));refine ay ?_;refine Xen (d:=((s.an.length:Int)==0)) (v1:=.ak sb 0) (v2:=.ak sb 0) (v3:=.ak sb 5) (v4:=aM s.an) (v5:=O s.an.length) (q5:=[]) (λ_=>rfl) (λ_=>rfl) (λ_=>rfl) (λ_=>ld s1 rfl) (λ_=>by simp[Yn]) (λ_=>rfl) ?_;refine Zj λw x=>?_;have o:∀(t:St) (τ:List U),ba 1000000000 t->dk J τ []->ai τ bb=.box (cf b)->ai τ J.length=.box (aH t)->aJ (bO b).1 b t false=aJ (bO b).1 b s true->w [] τ:=by
  intro t τ y at_ z A B;rw[x];refine Z rfl (Z (v:=dd b) (ld z rfl) (Z (v:=bN t) (ld A rfl) (bD (c55 b hf p t y) g35.ok (Z (Xr ..) ?_))));rw[Xes,B];exact r _ at_
 rcases cE ((s.phase==1)&&((s.an.length:Int)==0))with hq|hq
 ·rw[hq];simp only[AA,beq_iff_eq]at hq;have hm:=Qbu (e:=(bO b).1) (b:=b) hq.1 (by omega);refine ay (Z (v:=.bool s.bq) (ld s1 rfl) (Z rfl (Ya (λh=>?_) (λh=>?_))))
  ·simp_all
  ·have h:s.bq=true:=by simpa using h
   rw[h,DZ]at hm;refine Z rfl (Qd (cO (row:=aH s) (row':=aH { s with phase:=0 }) j rfl rfl rfl) (Ye _ (by omega)) ?_);exact o { s with phase:=0 } _ ⟨hs.an,hs.s0,hs.s1⟩ (f.du (by omega) _) (Qa i (by simp) (by omega)) (Zc _ (by omega)) hm.symm
 ·rw[hq];refine Yf (o s _ hs f i j ?_);rw[C6]
  grind [Ych,U']
theorem w212(s:St){sb:Nat}(h2:ai J sb=.box (aH s))(b:K (aS (XA s)) J):g97.u VV [.ak sb 0] J K:=by
 rw[H1.e];unfold g97;dsimp only;refine ay ?_;refine Z (v:=O s.s0.aY) (ld h2 rfl) ?_;refine ay ?_;refine Z (v:=O s.s1.aY) (ld h2 rfl) ?_;refine ay ?_;refine Ze1 (d:=decide (s.s1.aY<=0)) (λ_=>rfl) ?_;by_cases a:s.s0.aY<=0<;>by_cases c:s.s1.aY<=0
 ·rw[gA a,gA c];have:XA s=3:=by simp[XA,a,c]
  rw[this]at b;exact Xg b
 ·rw[gA a,i7 c];have:XA s=2:=by simp[XA,a,c]
  rw[this]at b;exact Yf (Xg b)
 ·rw[i7 a,gA c];have:XA s=1:=by simp[XA,a,c]
  rw[this]at b;exact ay b
 ·rw[i7 a,i7 c];have:XA s=0:=by simp[XA,a,c]
  rw[this]at b;exact Yf (Yf (Yf b))
theorem q98(b:Bk)(hf:aN b=true)(F:Yg b.aj)(s:St)(hs:ba 1000000000 s)(r:Int):PC 71 [dd b,bN s,aS r] (.bw [bN (bV b s r).1,tj (bV b s r).2]):=by
 refine Zo hP g71.ok rfl ?_;rw[H3.e];unfold g71;dsimp only;refine Qd (v:=.ak 0 0) (rd:=[]) (up:=[(0,.box (cf b))]) rfl (Qf [] _) (Qd (v:=.ak 1 0) (rd:=[]) (up:=[(1,.box (aH s))]) rfl (Qf [U.box (cf b)] _) (Qd (v:=.ak 2 0) (rd:=[]) (up:=[(2,.box aU)]) rfl (Qf [U.box (cf b),.box (aH s)] _) (Qd (v:=.ak 3 0) (rd:=[]) (up:=[(3,.box bY)]) rfl (Qf [U.box (cf b),.box (aH s),.box aU] _) (Z (v:=bN s) (ld (row:=aH s) rfl rfl) (bD (w_ s hs) g17.ok (Zq (row:=aH s) (row':=aH s) rfl rfl rfl ?_))))));have key:∃J:List U,J=[U.box (cf b),.box (aH s),.box aU,.box bY]++[.box (aH s)]:=⟨_,rfl⟩;obtain⟨J,eσ⟩:=key;rw[show ([U.box (cf b),.box (aH s),.box aU]++[.box bY]++[.box (aH s)]:List U)=J by rw[eσ];rfl];rw[show ([U.box (cf b),.box (aH s),.box aU]++[.box bY]:List U).length=4 from rfl];have G:ai J 0=.box (cf b):=by rw[eσ];rfl
 have s1:ai J 1=.box (aH s):=by rw[eσ];rfl
 have H:ai J 2=.box aU:=by rw[eσ];rfl
 have L:ai J 3=.box bY:=by rw[eσ];rfl
 have N:ai J 4=.box (aH s):=by rw[eσ];rfl
 have hl:J.length=5:=by rw[eσ];rfl
 clear eσ;refine Z (v:=.bool (decide (r<=0))) rfl (X3 (d:=decide (r>3)) (v1:=aS r) (λ_=>rfl) (λ_=>rfl) (vl (d:=(s.phase==2)) (v1:=.ak 1 2) (v2:=aS s.phase) (λ_=>rfl) (λ_=>ld s1 rfl) (λ_=>rfl) ?_));have C:∀j:KT,(∀τ,dk J τ []->j (.bool (!Bs b s r)) τ) ->
   VV.gw (.bool ((decide (r<=0)||decide (r>3))||(s.phase==2))) false (λk=>VV.call (.call 61) [.ak 0 0,.ak 1 0] J k) J λt23 J=>
   VV.gr (.bool ((decide (r<=0)||decide (r>3))||(s.phase==2))) false (λk=>VV.rd (qH .not [t23] J) k) λt24=>
   VV.rd (Xk [.bool ((decide (r<=0)||decide (r>3))||(s.phase==2)),.bool true,t24] J) (λv=>j v J):=by
  intro j i;unfold Bs at i;rcases cE ((decide (r<=0)||decide (r>3))||(s.phase==2))with q|q
  ·rw[q]at i ⊢;have:=i J ⟨AO _,λ_ _ _=>rfl⟩;exact Xu rfl (Yc rfl (Z rfl (by simpa using this)))
  ·rw[q]at i ⊢;refine Xq (Xe hP (f:=61) rfl g61.ok rfl (w209 b hf F s hs G s1 λτ hτ=>Xb (Z rfl (Z rfl ?_))));simp_all
 refine C _ λτ hτ=>?_;clear C;have o:=hτ.get H;have p:=hτ.get L;have w:=hτ.get N;have D:=Yb o;have E:=Yb p;have y:=Yb w;rcases cE (Bs b s r)with q|q
 ·have hr:0<r/\r<=3:=by have q:=q;simp only[Bs,Bool.not_eq_true',Ct,pI]at q;omega
  rw[q];refine Yf (Z rfl (Qd (cO (row':=aH { s with phase:=2 }) w rfl rfl rfl) (Ye _ y) ?_));have P:ai (τ.set 4 (.box (aH { s with phase:=2 }))) 4=.box (aH { s with phase:=2 }):=Zc _ y;have z:=Qa (x:=.box (aH { s with phase:=2 })) o (by simp) (show 4≠2 by decide);have e3:=Qa (x:=.box (aH { s with phase:=2 })) p (by simp) (show 4≠3 by decide);have A:4<(τ.set 4 (.box (aH { s with phase:=2 }))).length:=by simpa using y
  have k3:3<(τ.set 4 (.box (aH { s with phase:=2 }))).length:=by simpa using E
  generalize τ.set 4 (.box (aH { s with phase:=2 }))=τ1 at *;have key:∀row,∃row',bW 5 [I.aq] (aH { s with phase:=2 })=some row'/\row'=row->True:=λ_=>⟨[],λ_=>trivial⟩
  let X:List I:=ui { s with phase:=2,an:=[],result:=s.result } .aq (aM s.s0.az) (aM s.s0.hand) (aM s.s0.ao) (ly s.s0.af) (aM s.s0.told) (aM s.s1.az) (aM s.s1.hand) (aM s.s1.ao) (ly s.s1.af) (aM s.s1.told)
  let Y:List I:=ui { s with phase:=2,an:=[],result:=r } .aq (aM s.s0.az) (aM s.s0.hand) (aM s.s0.ao) (ly s.s0.af) (aM s.s0.told) (aM s.s1.az) (aM s.s1.hand) (aM s.s1.ao) (ly s.s1.af) (aM s.s1.told)
  refine Z rfl (Qd (cO (row':=X) P rfl rfl rfl) (Ye _ A) ?_);have Q:ai (τ1.set 4 (.box X)) 4=.box X:=Zc _ A;have R:=Qa (x:=.box X) z (by simp) (show 4≠2 by decide);have S:=Qa (x:=.box X) e3 (by simp) (show 4≠3 by decide);have B:4<(τ1.set 4 (.box X)).length:=by simpa using A
  generalize τ1.set 4 (.box X)=τ2 at *;refine Z rfl (Qd (cO (row':=Y) Q rfl rfl rfl) (Ye _ B) ?_);have T:ai (τ2.set 4 (.box Y)) 4=.box Y:=Zc _ B;have V:=Qa (x:=.box Y) R (by simp) (show 4≠2 by decide);have e5:=Qa (x:=.box Y) S (by simp) (show 4≠3 by decide);have m5:4<(τ2.set 4 (.box Y)).length:=by simpa using B
  generalize τ2.set 4 (.box Y)=τ3 at *;refine Z (v:=.agg Y) (ld T rfl) (Z (v:=O r) (by show Il .i64 [.int .i8 r] τ3=_;simp only[Il];rw[Bb _ (by omega)]) (Z (v:=.agg [aS 15,O 0,O 0,O 0,O 0,O r,.aq]) rfl ?_));refine Qd (cO (row':=Y) V rfl rfl rfl) (Ye _ (by omega)) ?_;have z6:ai (τ3.set 2 (.box Y)) 2=.box Y:=Zc _ (by omega);have e6:=Qa (x:=.box Y) e5 (by simp) (show 2≠3 by decide);have m6:4<(τ3.set 2 (.box Y)).length:=by simpa using m5
  generalize τ3.set 2 (.box Y)=τ4 at *;refine Qd (cO (row':=[aS 15,O 0,O 0,O 0,O 0,O r,.aq]) e6 rfl rfl rfl) (Ye _ (by omega)) (Zp (Q7 (Qa z6 (by simp) (show 3≠2 by decide)) rfl) (Zp (Qr (by omega) rfl) ?_));unfold bV;rw[aE q];exact⟨[],aA.bw (.cons (SB.agg (SB.mk (s:={ s with phase:=2,an:=[],result:=r }) .aq (RI.ro _) (RI.ro _) (RI.ro _) (RT.ro _) (RI.ro _) (RI.ro _) (RI.ro _) (RI.ro _) (RT.ro _) (RI.ro _))) (.cons (xw (e:=⟨15,0,0,0,0,r,[]⟩) RI.aq) .nil))⟩
 ·rw[q];refine Xg (Z (v:=bN s) (ld w rfl) ?_);refine ay (Qd (cO (row':=aH s) o rfl rfl rfl) (Ye _ D) ?_);have e3:=Qa (x:=.box (aH s)) p (by simp) (show 2≠3 by decide);have z:ai (τ.set 2 (.box (aH s))) 2=.box (aH s):=Zc _ D;have k3:3<(τ.set 2 (.box (aH s))).length:=by simpa using E
  generalize τ.set 2 (.box (aH s))=τ1 at *;refine Qd (cO (row':=bY) e3 rfl rfl rfl) (Ye _ k3) (Zp (Q7 (Qa z (by simp) (show 3≠2 by decide)) rfl) (Zp (Qr k3 rfl) ?_));unfold bV;rw[aB (by rw[q];simp)];exact⟨[],aA.bw (.cons (SB.agg (SB.ro s)) (.cons (xw (e:=mr) RI.aq) .nil))⟩
structure Tr where
 card:Int
 side:Int
 dw:Bool
@[reducible] def eP(x:Tr):List I:=[O x.card,O x.side,.bool x.dw]
@[reducible] def HH(l:List Tr):I:=.aX false false 3 (l.map eP)
def LE(l:List Ev)(lv:I)(J:List U):Prop:=(l=[]/\lv=.aq)\/∃c rows,lv=.sl c 0 l.length false/\ai J c=.rows 7 rows/\eR rows l
def QW(ws:List Tr)(b:I)(J:List U):Prop:=(ws=[]/\b=.aq)\/∃c off rows,b=.sl c off ws.length false/\ai J c=.rows 3 rows/\rows.length=ws.length+off/\rows.drop off=ws.map eP
def Kq(ex:List Nat)(sz:Nat)(J σ':List U):Prop:=J.length<=σ'.length/\∀k,k<J.length->k∉ex->(∀r,ai J k≠.rows sz r)->ai σ' k=ai J k
variable{sz b k s c n:Nat}
variable{ex rd:List Nat}
theorem Kq.trans{υ:List U}(h:Kq ex sz J τ)(q:Kq ex sz τ υ):Kq ex sz J υ:=
 ⟨CI h.1 q.1,λk d f hr=>by rw[q.2 k (Er d h.1) f (by rw[h.2 k d f hr];exact hr),h.2 k d f hr]⟩
theorem Kq.app(ex:List Nat)(sz:Nat)(J l:List U):Kq ex sz J (J++l):=⟨by simp,λ_ d _ _=>Zg l d⟩
theorem Kq.set(sz:Nat)(J:List U)(x:U)(h:b∈ex):Kq ex sz J (J.set b x):=
 ⟨by simp,λk d f _=>Qb x d (λe=>f (e▸h))⟩
theorem Kq.du(h:Kq ex sz J τ)(hb:J.length<=b)(x:U):Kq ex sz J (τ.set b x):=
 ⟨by simpa using h.1,λk d f hr=>by rw[Qb x (Er d h.1) (by omega),h.2 k d f hr]⟩
theorem Kq.more{d:List Nat}(h:Kq ex sz J τ)(hs:∀k∈ex,k∈d):Kq d sz J τ:=⟨h.1,λk f i hr=>h.2 k f (λe=>i (hs k e)) hr⟩
variable{row:List I}
theorem Kq.box(h:Kq ex sz J τ)(hk:ai J k=.box row)(hn:k∉ex:=by simp;omega):ai τ k=.box row:=by
 rw[h.2 k (Yb hk) hn (by rw[hk];simp),hk]
variable{rs ys:List (List I)}
theorem Kq.rows(h:Kq ex sz J τ)(hk:ai J k=.rows s rs)(hn:k∉ex)(hs:s≠sz):ai τ k=.rows s rs:=by
 rw[h.2 k (Yb hk) hn (by simp_all),hk]
def Bx(J:List U)(ex:List Nat):Prop:=∀k∈ex,∃row,ai J k=.box row
theorem Bx.rows(h:Bx J ex)(hk:ai J k=.rows s rs):k∉ex:=by
 intro e;obtain⟨row,hr⟩:=h k e;rw[hk]at hr;cases hr
variable{l:List Ev}
theorem LE.mono{lv:I}(h:LE l lv J)(hk:∀c rs,ai J c=.rows 7 rs->ai τ c=.rows 7 rs):LE l lv τ:=by
 rcases h with h|⟨c,rows,h1,h2,h3⟩
 ·exact .inl h
 ·exact .inr ⟨c,rows,h1,hk _ _ h2,h3⟩
variable{qv y:I}
variable{ws:List Tr}
theorem QW.mono(h:QW ws qv J)(hk:∀c rs,ai J c=.rows 3 rs->ai τ c=.rows 3 rs):QW ws qv τ:=by
 rcases h with h|⟨c,off,rows,h1,h2,h3⟩
 ·exact .inl h
 ·exact .inr ⟨c,off,rows,h1,hk _ _ h2,h3⟩
theorem Qu(l:List U)(h:ai J c=.rows s rs):ai (J++l) c=.rows s rs:=Zb l h
theorem ZC(x:U)(hb:ai J b=.box row)(h:ai J c=.rows s rs):ai (J.set b x) c=.rows s rs:=
 Qa h (by simp) (by rintro rfl;rw[hb]at h;cases h)
theorem Q5(n by_:Nat){off len:Nat}(hc:ai J c=.rows n rs)(hl:rs.length=len+off)(hy:Yl n J y=some (ys,rd))(hr:a_ ys=true)(d:(2*(len+ys.length)+192)*by_<=2 ^ 48) :
  Yh n by_ [.sl c off len false,y] J=.ok (.sl J.length 0 (len+ys.length) false) rd ([(c,.dead)]++[(J.length,.rows n (rs.drop off++ys))]):=by
 simp_all [Yh,Qz,yU,AH]
theorem PN(n by_:Nat)(hy:Yl n J y=some (ys,rd))(hr:a_ ys=true)(d:(2*ys.length+192)*by_<=2 ^ 48) :
  Yh n by_ [.aq,y] J=.ok (.sl J.length 0 ys.length false) rd [(J.length,.rows n ys)]:=by
 show Qz n by_ J [] [] y=_;simp_all [Qz,AH]
theorem JX{e d:Bool}{rows:List (List I)}:Yl n J (.aX e d n rows)=some (rows,[]):=by
 simp[Yl]
theorem Vd(hc:ai J c=.rows n [row]):Yl n J (.sl c 0 1 true)=some ([row],[c]):=De hc rfl
theorem ZcY(l:List Tr):a_ (l.map eP)=true:=Z0 (λr hr=>by obtain⟨x,_,rfl⟩:=By.1 hr;rfl)
theorem eR.app{rows:List (List I)}{m:List Ev}(h:eR rows l)(k:eR ys m):eR (rows++ys) (l++m):=by
 induction k with
 |nil=>simpa using h
 |snoc abo i e j _ d f=>rw[<-Cp,<-Cp];exact .snoc _ _ _ _ f d
theorem Ycc:∀(m:List Ev) {rows:List (List I)} {l:List Ev},eR rows l->eR (rows++m.map cS) (l++m)
 |[],rows,l,h=>by simpa using h
 |e::m,rows,l,h=>by
  have:=Ycc m (eR.snoc rows l e (aM e.aj) h (.inl rfl));simpa[Cp]using this
theorem Vm(l:List Ev):eR (l.map cS) l:=by simpa using Ycc l .nil
theorem Xcc:∀(m:List Ev) {rows:List (List I)} {l:List Ev},(∀e∈m,e.aj=[])->eR rows l->eR (rows++m.map la) (l++m)
 |[],rows,l,_,h=>by simpa using h
 |e::m,rows,l,hm,h=>by
  have:=Xcc m (λx d=>hm x (by simp[d])) (eR.snoc rows l e .aq h (.inr ⟨rfl,hm e (by simp)⟩));simp_all [la]
theorem YeV(l:List Ev)(h:∀e∈l,e.aj=[]):eR (l.map la) l:=by simpa using Xcc l h .nil
theorem Uv{rows:List (List I)}(h:eR rows l):a_ rows=true:=by
 refine Z0 ?_
 induction h with
 |nil=>intro r hr;simp at hr
 |snoc rows l e i _ d f=>
  intro r hr;rcases Bd.1 hr with hr|hr
  ·exact f r hr
  ·rw[D1]at hr;subst hr;rcases d with rfl|⟨rfl,h⟩<;>rfl
theorem T_(hc:ai J c=.rows n rs)(x:U)(ex:List Nat):Kq ex n J (J.set c .dead++[x]):=
 ⟨by simp,λk d _ hr=>by
  grind [Zg,Qb]⟩
theorem w210{d:Nat}{ys:List Tr}(hq:ai J d=.box [qv])(hw:QW ws qv J)(hy:Yl 3 J y=some (ys.map eP,rd))(j:ws.length+ys.length<=100000000)
 (o:∀σ' p,ai σ' d=.box [p]->QW (ws++ys) p σ'->Kq [d] 3 J σ'->K (.bw []) σ'):g93.u VV [.ak d 0,y] J K:=by
 rw[H2.e];unfold g93;dsimp only;have w:=Yb hq;refine Z rfl (Z rfl (Z (v:=qv) (ld hq rfl) ?_));rcases hw with ⟨rfl,rfl⟩|⟨c,off,rows,rfl,h2,h3,h4⟩
 ·refine Qd (PN 3 24 hy (ZcY _) (by simp at j ⊢;omega)) (Qf J _) ?_;have k1:=Kq.app [d] 3 J [.rows 3 (ys.map eP)];have f:=Zb [U.rows 3 (ys.map eP)] hq;have r1:=Xc J (.rows 3 (ys.map eP));have i:=Yb f;generalize J++[U.rows 3 (ys.map eP)]=τ at *;refine Z rfl (Z rfl (Qd (cO (row':=[.sl J.length 0 (ys.map eP).length false]) f rfl rfl rfl) (Ye _ i) ?_));refine o _ _ (Zc _ i) (.inr ⟨J.length,0,ys.map eP,by simp,ZC _ f r1,by simp,by simp⟩) (k1.trans (Kq.set 3 τ _ (by simp)))
 ·have r:=Yb h2;refine Qd (Q5 3 24 h2 h3 hy (ZcY _) (by simp at j ⊢;omega)) (YK _ _ r) ?_;rw[h4];have k1:=T_ h2 (.rows 3 (ws.map eP++ys.map eP)) [d];have f:ai (J.set c .dead++[.rows 3 (ws.map eP++ys.map eP)]) d=.box [.sl c off ws.length false]:=
   Zb _ (Qa hq (by simp) (by rintro rfl;rw[hq]at h2;cases h2))
  have r1:=Di (J:=J) c (.rows 3 (ws.map eP++ys.map eP));have i:=Yb f;generalize J.set c .dead++[U.rows 3 (ws.map eP++ys.map eP)]=τ at *;refine Z rfl (Z rfl (Qd (cO (row':=[.sl J.length 0 (ws.length+(ys.map eP).length) false]) f rfl rfl rfl) (Ye _ i) ?_));refine o _ _ (Zc _ i) (.inr ⟨J.length,0,ws.map eP++ys.map eP,by simp,ZC _ f r1,by simp,by simp⟩) (k1.trans (Kq.set 3 τ _ (by simp)))
theorem Zev{off m:Nat}{rows:List (List I)}(hc:ai J c=.rows 3 rows):ZB 3 [.sl c off (m+1) false,.int .i64 1] J=.ok (.sl c (off+1) m false) [c] []:=by
 show (match ai J c with
   |.rows s _=>bif AJ s 3 then (bif C3 1 (m+1)then aL.ok (.sl c (off+1) (m+1-1) false) [c] []else bif AJ 1 (m+1)then (bif AJ 3 3 then .ok (.sl c (off+(m+1)) 0 false) [c] []else .ok (.aX false (C3 0 (m+1)) 3 []) [] [])else .stop)else .stop
   | _=>.stop)=_
 rw[hc];cases m with
 |zero=>rfl
 |succ m=>
  rfl
theorem w213{d:Nat}(hq:ai J d=.box [qv])(hw:QW ws qv J)(R:ws.length<=100000000)
 (D:ws=[]->∀σ',ai σ' d=.box [qv]->QW [] qv σ'->Kq [d] 3 J σ'->K (.bw [.agg [O 0,O 0,.bool false],.bool false]) σ')
 (E:∀x w,ws=x::w->∀σ' z,ai σ' d=.box [z]->QW w z σ'->Kq [d] 3 J σ'->K (.bw [.agg (eP x),.bool true]) σ'):g98.u VV [.ak d 0] J K:=by
 rw[H1.e];unfold g98;dsimp only;refine Qd (v:=.ak J.length 0) (rd:=[]) (up:=[(J.length,.box [O 0,O 0,.bool false])]) rfl (Qf J _) ?_;have k1:=Kq.app [d] 3 J [.box [O 0,O 0,.bool false]];have j:=Zb [U.box [O 0,O 0,.bool false]] hq;have f:=Xc J (.box [O 0,O 0,.bool false]);have p:QW ws qv (J++[.box [O 0,O 0,.bool false]]):=hw.mono (λc rs h=>Qu _ h);have S:=Yb hq;have hlen:(J++[U.box [O 0,O 0,.bool false]]).length=J.length+1:=by simp
 generalize J++[U.box [O 0,O 0,.bool false]]=τ at *;refine Z rfl (Z rfl (Z (v:=qv) (ld j rfl) ?_));have i:J.length<τ.length:=by omega
 cases ws with
 |nil=>
  have F:Yn [qv] τ=.ok (O 0) [] []:=by
   rcases p with ⟨_,rfl⟩|⟨c,off,rows,rfl,_⟩<;>rfl
  refine Z F (Z rfl (Xg (Z (v:=.agg [O 0,O 0,.bool false]) (ld f rfl) (Qd (cO (row':=[O 0,O 0,.bool false]) f rfl rfl rfl) (Ye _ i) (Zp (Qr i rfl) ?_)))));exact D rfl _ (Qa j (by simp) (by omega)) (p.mono (λc rs h=>ZC _ f h)) (k1.du (AO _) _)
 |cons x ws=>
  rcases p with ⟨h,_⟩|⟨c,off,rows,rfl,h2,h3,h4⟩
  ·cases h
  rw[A1]at *;have G:rows[off]?=some (eP x):=by
   have:(rows.drop off)[0]?=some (eP x):=by rw[h4];rfl
   grind
  have H:rows.drop (off+1)=ws.map eP:=by
   have:(rows.drop off).drop 1=ws.map eP:=by rw[h4];rfl
   rwa [List.drop_drop]at this
  refine Z (v:=O (ws.length+1:Nat)) rfl (Z (Xr ..) (Ya (λh=>?_) (λ_=>?_)))
  ·simp at h;omega
  refine Z rfl (Z rfl (Z (v:=.sl c off (ws.length+1) false) (ld j rfl) (Z (v:=.ptr c (off+0) 0) (Y9 _ c off (ws.length+1) false 3 rows .i64 0 (by omega) h2) (Z (v:=.agg (eP x)) (ru h2 G rfl) (Qd (cO (row':=eP x) f rfl rfl rfl) (Ye _ i) ?_)))));have k2:=k1.du (AO _) (.box (eP x));have o:=Qa (x:=.box (eP x)) j (by simp) (show J.length≠d by omega);have A:=ZC (.box (eP x)) f h2;have L:ai (τ.set J.length (.box (eP x))) J.length=.box (eP x):=Zc _ i;have N:J.length<(τ.set J.length (.box (eP x))).length:=by simpa using i
  generalize τ.set J.length (.box (eP x))=τ2 at *;have B:=Yb o;refine Z rfl (Z rfl (Z (v:=.sl c off (ws.length+1) false) (ld o rfl) (Z (Zev A) (Z rfl (Z rfl (Qd (cO (row':=[.sl c (off+1) ws.length false]) o rfl rfl rfl) (Ye _ B) ?_))))));have k3:=k2.trans (Kq.set 3 τ2 (.box [.sl c (off+1) ws.length false]) (show d∈[d] by simp));have P:ai (τ2.set d (.box [.sl c (off+1) ws.length false])) d=.box [.sl c (off+1) ws.length false]:=Zc _ B;have Q:=ZC (.box [.sl c (off+1) ws.length false]) o A;have r:=Qa (x:=.box [.sl c (off+1) ws.length false]) L (by simp) (show d≠J.length by omega);have C:J.length<(τ2.set d (.box [.sl c (off+1) ws.length false])).length:=by simpa using N
  generalize τ2.set d (.box [.sl c (off+1) ws.length false])=τ3 at *;refine Z (v:=.agg (eP x)) (ld r rfl) (Qd (cO (row':=eP x) r rfl rfl rfl) (Ye _ C) (Zp (Qr C rfl) ?_));exact E x ws rfl _ _ (Qa P (by simp) (by omega)) (.inr ⟨c,off+1,rows,rfl,ZC _ r Q,by omega,H⟩) (k3.du (AO _) _)
end Go.Ah.Tz
end
section
namespace Go.Ah
theorem XdS{h0:Hp}{rd:List Nat}{x:I}:aA h0 rd x .aP:=λ_ _ _ _ _ _ _ _ _ _ _ _=>Den.aP _ _
end Go.Ah
namespace Go.Ah.Tz
open Go.Proofs.Tryz (prog)
set_option maxRecDepth 100000
section
variable (b:Bk) (hf:aN b=true) (bn:Yg b.aj) (iY:b.aj.length<=61) (s:St) (hs:ba 1000000000 s) (sd tg fu:Int) (l:List Ef) (hl:bz l=true) (wc:(bR l).length<=500000000) (N C:Nat) (hT:TB N s) (hN:N+12000<=1000000) (hC:Xj s<=C) (oV:C+200<=1000000)
 (hm:aJ (bO b).1 b s true=true)
include hf bn iY hs hl wc hT hN hC oV hm
theorem VP(hb:Xs b sd fu l=false):PC 44 [dd b,bN s,.agg [O sd,O tg],gE l,O fu] (.bw [bN (runs b sd tg l s fu).2.1,.aP,O (runs b sd tg l s fu).2.2.1,O (runs b sd tg l s fu).1]):=by
 refine Zo hP g44.ok rfl ?_;exact Vc b hf bn iY s hs sd tg fu l hl wc N C hT hN hC oV (λh=>by rw[hm]at h;cases h) (λ_ h=>by rw[hb]at h;cases h)
  (λ_ _ σ' lv _ _ _=>⟨[],aA.bw (.cons (aA.ro rfl) (.cons XdS (.cons (aA.ro rfl) (.cons (aA.ro rfl) .nil))))⟩)
theorem VO(hb:Xs b sd fu l=true):PC 44 [dd b,bN s,.agg [O sd,O tg],gE l,O fu] (.bw [.agg aU,.aq,O 0,O 2]):=by
 exact Zo hP g44.ok rfl (Vc b hf bn iY s hs sd tg fu l hl wc N C hT hN hC oV (λh=>by rw[hm]at h;cases h) (λ_ _ σ' _=>⟨[],aA.ro rfl⟩) (λ_ h=>by rw[hb]at h;cases h))
end
attribute [local irreducible] aI.rd aI.pu aI.wr aI.dr aI.gr aI.gw aI.gl aI.gd aI.opt c8 W
set_option maxHeartbeats 4000000
theorem w211(b:Bk)(hf:aN b=true)(T:Yg b.aj)(V:b.aj.length<=61)(c6:(bO b).1=0)(x:Tr)(l:List Ef)(hl:bz l=true)(X:(bR l).length<=500000000){s:St}{fu:Int}{N C:Nat}(hS:cu b N C s)(hN:N+12000<=1000000)(hC:C+200<=1000000)
 {ed:List Ev}{lv:I}{J:List U}{bb sb f i:Nat}(hb:ai J bb=.box (cf b))(hs:ai J sb=.box (aH s))(wh:ai J f=.box [O fu])(he:ai J i=.box [lv])(hle:LE ed lv J)(n1:sb≠f)(n2:sb≠i)(n3:f≠i)(bU:ed.length<=100000000){K:KT}
 (xz:Xs b x.side fu l=true->∀σ',Kq [] 7 J σ'->K (O 2) σ')
 (DJ:Xs b x.side fu l=false->(runs b x.side (-1) l s fu).1≠0->(runs b x.side (-1) l s fu).1≠190->∀σ',Kq [] 7 J σ'->K (O (runs b x.side (-1) l s fu).1) σ')
 (hK:Xs b x.side fu l=false->((runs b x.side (-1) l s fu).1=0\/(runs b x.side (-1) l s fu).1=190)->∀ σ' cW,ai σ' sb=.box (aH (runs b x.side (-1) l s fu).2.1)->ai σ' f=.box [O (runs b x.side (-1) l s fu).2.2.1]->ai σ' i=.box [cW] ->
   LE (ed ++ (runs b x.side (-1) l s fu).2.2.2) cW σ'->Kq [sb,f,i] 7 J σ'->K (O (runs b x.side (-1) l s fu).1) σ') :
  g94.u VV [.agg (eP x),gE l,.ak bb 0,.ak sb 0,.ak f 0,.ak i 0] J K:=by
 rw[H6.e];unfold g94;dsimp only;refine Qd (v:=.ak J.length 0) (rd:=[]) (up:=[(J.length,.box (eP x))]) rfl (Qf J _) ?_;have k1:=Kq.app [] 7 J [.box (eP x)];have b1:=Zb [U.box (eP x)] hb;have s1:=Zb [U.box (eP x)] hs;have f1:=Zb [U.box (eP x)] wh;have e1:=Zb [U.box (eP x)] he;have l1:LE ed lv (J++[.box (eP x)]):=hle.mono (λc R h=>Qu _ h);have x1:=Xc J (.box (eP x));generalize J++[U.box (eP x)]=o at *;have Y:=Qs.2 ⟨c6,hS.may⟩;refine Z (v:=dd b) (ld b1 rfl) (Z (v:=bN s) (ld s1 rfl) (Z rfl (Z (v:=O x.side) (ld x1 rfl) ?_)));refine ay (Z (v:=O fu) (ld f1 rfl) ?_);rcases cE (Xs b x.side fu l)with p|p
 ·refine bD (VO b hf T V s hS.ni x.side (-1) fu l hl X N C hS.told hN hS.aj hC Y p) g44.ok (Z rfl (Z rfl (Z rfl (Z rfl (Zq (row:=aU) (row':=aU) rfl rfl rfl ?_)))));refine Z rfl (X3 (d:=false) (v1:=O 2) (λ_=>rfl) (λ_=>rfl) ?_);exact Yf (xz p _ (k1.trans (Kq.app [] 7 o _)))
 have sJ:=zy (b:=b) (tg:=-1) (sd:=x.side) (by
  grind [Xs]) l fu hS
 have eI:nD b l=true:=by
  simp_all [Xs]
 obtain⟨_,xL⟩:=Ds eI;have abx:=(sJ (by omega) (by omega)).2;clear sJ;by_cases hr:(runs b x.side (-1) l s fu).1=0\/(runs b x.side (-1) l s fu).1=190;rotate_left
 ·refine bD (VP b hf T V s hS.ni x.side (-1) fu l hl X N C hS.told hN hS.aj hC Y p) g44.ok ?_;have hz:=DJ p (λe=>hr (.inl e)) (λe=>hr (.inr e));generalize runs b x.side (-1) l s fu=r at *;refine Z rfl (Z rfl (Z rfl (Z rfl (Zq (row:=aH r.2.1) (row':=aH r.2.1) rfl rfl rfl ?_))));refine Z (Xr ..) (X3 (d:=decide (r.1=190)) (v1:=O r.1) (λ_=>rfl) (λ_=>Xr ..) ?_);rw[show (decide (r.1=0)||decide (r.1=190))=false by simpa using hr];exact Yf (hz _ (k1.trans (Kq.app [] 7 o _)))
 refine bD (KK b hf T V s hS.ni x.side (-1) fu l hl X N C hS.told hN hS.aj hC Y p) g44.ok ?_;have mI:=hK p hr;generalize runs b x.side (-1) l s fu=r at *;refine Z rfl (Z rfl (Z rfl (Z rfl (Zq (row:=aH r.2.1) (row':=aH r.2.1) rfl rfl rfl ?_))));refine Z (Xr ..) (X3 (d:=decide (r.1=190)) (v1:=O r.1) (λ_=>rfl) (λ_=>Xr ..) ?_);rw[show (decide (r.1=0)||decide (r.1=190))=true by simpa using hr];have k2:=k1.trans (Kq.app [] 7 o [.box (aH r.2.1)]);have A:=Zb [U.box (aH r.2.1)] s1;have B:=Zb [U.box (aH r.2.1)] f1;have y:=Zb [U.box (aH r.2.1)] e1;have l2:LE ed lv (o++[.box (aH r.2.1)]):=l1.mono (λc R h=>Qu _ h);have S:=Xc o (.box (aH r.2.1));generalize o.length=tn at *;generalize o++[U.box (aH r.2.1)]=τ2 at *;have htn:=Yb S;have hsl:=Yb A;have tT:=Yb B;have hel:=Yb y;have Sq:Kq [sb,f,i] 7 J τ2:=k2.more (by simp);refine Xg (Ze (v:=bN r.2.1) (ld S rfl) (Yd _) (Ze (v:=lv) (ld y rfl) (Yd _) ?_));have kf:=Uv (Vm r.2.2.2);have fin:∀(j:List U) (z:I),Kq [sb,f,i] 7 τ2 j->ai j sb=.box (aH s)->ai j f=.box [O fu]->ai j i=.box [lv]->LE (ed++r.2.2.2) z j ->
   K (O r.1) (((j.set sb (.box (aH r.2.1))).set f (.box [O r.2.2.1])).set i (.box [z])):=by
  intro j z D hs hf he hl;have h1:=Yb hs;have h2:=Yb hf;have h3:=Yb he;have kA:=Sq.trans D;have kB:=kA.trans (Kq.set 7 j (.box (aH r.2.1)) (show sb∈[sb,f,i] by simp));have sB:ai (j.set sb (.box (aH r.2.1))) sb=.box (aH r.2.1):=Zc _ h1;have fB:=Qa (x:=.box (aH r.2.1)) hf (by simp) n1;have eB:=Qa (x:=.box (aH r.2.1)) he (by simp) n2;have lB:LE (ed++r.2.2.2) z (j.set sb (.box (aH r.2.1))):=hl.mono (λc R h=>ZC _ hs h);generalize j.set sb (.box (aH r.2.1))=υ1 at *;have Lr:=Yb fB;have kC:=kB.trans (Kq.set 7 υ1 (.box [O r.2.2.1]) (show f∈[sb,f,i] by simp));have sC:=Qa (x:=.box [O r.2.2.1]) sB (by simp) n1.symm;have fC:ai (υ1.set f (.box [O r.2.2.1])) f=.box [O r.2.2.1]:=Zc _ Lr;have eC:=Qa (x:=.box [O r.2.2.1]) eB (by simp) n3;have lC:LE (ed++r.2.2.2) z (υ1.set f (.box [O r.2.2.1])):=lB.mono (λc R h=>ZC _ fB h);generalize υ1.set f (.box [O r.2.2.1])=υ2 at *;have xy:=Yb eC;exact mI _ z (Qa sC (by simp) n2.symm) (Qa fC (by simp) n3.symm) (Zc _ xy) (lC.mono (λc R h=>ZC _ eC h)) (kC.trans (Kq.set 7 υ2 _ (by simp)))
 rcases l2 with ⟨rfl,rfl⟩|⟨c,rows,rfl,h2,h3⟩
 ·refine Ze (PN 7 72 JX kf (by simp;omega)) (Qf τ2 _) ?_;have D:=Kq.app [sb,f,i] 7 τ2 [.rows 7 (r.2.2.2.map cS)];have w:=Zb [U.rows 7 (r.2.2.2.map cS)] A;have E:=Zb [U.rows 7 (r.2.2.2.map cS)] B;have e3:=Zb [U.rows 7 (r.2.2.2.map cS)] y;have r3:=Xc τ2 (.rows 7 (r.2.2.2.map cS));have DG:=fin _ (.sl τ2.length 0 (r.2.2.2.map cS).length false) D w E e3 (.inr ⟨τ2.length,_,by simp,r3,by simpa using Vm r.2.2.2⟩);have F:τ2.length≠sb:=by omega
  have G:τ2.length≠f:=by omega
  have H:τ2.length≠i:=by omega
  have L:τ2.length≠tn:=by omega
  generalize τ2++[U.rows 7 (r.2.2.2.map cS)]=j at *;generalize τ2.length=m at *;refine Ze (cO (row':=aH r.2.1) w rfl rfl rfl) (Ye _ (Yb w)) ?_;have P:=Qa (x:=.box (aH r.2.1)) E (by simp) n1;have e4:=Qa (x:=.box (aH r.2.1)) e3 (by simp) n2;refine Ze (cO (row':=[O r.2.2.1]) P rfl rfl rfl) (Ye _ (Yb P)) ?_;have Q:=Qa (x:=.box [O r.2.2.1]) e4 (by simp) n3;exact Ze (cO (row':=[.sl m 0 (r.2.2.2.map cS).length false]) Q rfl rfl rfl) (Ye _ (Yb Q)) (Xo (by simp[Qg,Qj,Zl,Zs,bF,df,Ao,B0,n1,n2,n3,n1.symm,n2.symm,n3.symm,F,G,H,L,F.symm,G.symm,H.symm,L.symm]) DG)
 ·refine Ze (Q5 7 72 h2 (by rw[h3.len,FF]) JX kf (by simp;omega)) (YK _ _ (Yb h2)) ?_;rw[GG];have hZ:c≠sb:=by rintro rfl;rw[h2]at A;cases A
  have IK:c≠f:=by rintro rfl;rw[h2]at B;cases B
  have IJ:c≠i:=by rintro rfl;rw[h2]at y;cases y
  have Cr:c≠tn:=by rintro rfl;rw[h2]at S;cases S
  have D:=T_ h2 (.rows 7 (rows++r.2.2.2.map cS)) [sb,f,i];have w:ai (τ2.set c .dead++[.rows 7 (rows++r.2.2.2.map cS)]) sb=_:=Zb _ (Qa A (by simp) hZ);have E:ai (τ2.set c .dead++[.rows 7 (rows++r.2.2.2.map cS)]) f=_:=Zb _ (Qa B (by simp) IK);have e3:ai (τ2.set c .dead++[.rows 7 (rows++r.2.2.2.map cS)]) i=_:=Zb _ (Qa y (by simp) IJ);have r3:=Di (J:=τ2) c (.rows 7 (rows++r.2.2.2.map cS));have DG:=fin _ (.sl τ2.length 0 (ed.length+(r.2.2.2.map cS).length) false) D w E e3 (.inr ⟨τ2.length,_,by simp,r3,h3.app (Vm r.2.2.2)⟩);have F:τ2.length≠sb:=by omega
  have G:τ2.length≠f:=by omega
  have H:τ2.length≠i:=by omega
  have L:τ2.length≠tn:=by omega
  generalize τ2.set c .dead++[U.rows 7 (rows++r.2.2.2.map cS)]=j at *;generalize τ2.length=m at *;refine Ze (cO (row':=aH r.2.1) w rfl rfl rfl) (Ye _ (Yb w)) ?_;have P:=Qa (x:=.box (aH r.2.1)) E (by simp) n1;have e4:=Qa (x:=.box (aH r.2.1)) e3 (by simp) n2;refine Ze (cO (row':=[O r.2.2.1]) P rfl rfl rfl) (Ye _ (Yb P)) ?_;have Q:=Qa (x:=.box [O r.2.2.1]) e4 (by simp) n3;exact Ze (cO (row':=[.sl m 0 (ed.length+(r.2.2.2.map cS).length) false]) Q rfl rfl rfl) (Ye _ (Yb Q)) (Xo (by simp[Qg,Qj,Zl,Zs,bF,df,Ao,B0,n1,n2,n3,n1.symm,n2.symm,n3.symm,F,G,H,L,F.symm,G.symm,H.symm,L.symm,hZ,IK,IJ,Cr,hZ.symm,IK.symm,IJ.symm,Cr.symm]) DG)
end Go.Ah.Tz
end
section
namespace Go.Ah.Tz
def Xl(s:St):Nat:=s.s0.af.length+s.s1.af.length
def nO(s:St)(id:Int):Int:=((((s.side (aC s id).1).af)[(aC s id).2.1.toNat]?).getD default).card
def gu(b:Bk)(s:St):List Int->List Tr
 |[]=>[]
 |id::l=>(if 0<(ZP b (nO s id)).dead.length then [⟨nO s id,(aC s id).1,false⟩]else [])++gu b s l
def quiet(b:Bk):Nat->St->List Tr->List Ev->St×List Tr×List Ev
 |0,s,ws,l=>(s,ws,l)
 |n+1,s,ws,l=>if bc b s=[]then (s,ws,l)else quiet b n (Qq (bc b s) s).1 (ws++gu b s (bc b s)) (l++(Qq (bc b s) s).2)
def jB(b:Bk)(s:St)(l:List Ev)(fu how:Int):Int×St×List Ev×Int:=(0,(bV b s how).1,l++[(bV b s how).2],fu)
def bG(b:Bk)(x:Tr):List Ef:=if x.dw=true then (ZP b x.card).dw else (ZP b x.card).dead
def pJ(x:Tr):Ev:=⟨14,x.side,x.card,0,0,0,[]⟩
def YO(b:Bk):Nat->St->List Tr->Int->List Ev->Int×St×List Ev×Int
 |0,s,ws,d,l=>jB b (quiet b (Xl s) s ws l).1 (quiet b (Xl s) s ws l).2.2 d 3
 |n+1,s,ws,d,l=>
  if XA (quiet b (Xl s) s ws l).1≠0 then jB b (quiet b (Xl s) s ws l).1 (quiet b (Xl s) s ws l).2.2 d (XA (quiet b (Xl s) s ws l).1)
  else match (quiet b (Xl s) s ws l).2.1 with
   |[]=>(0,(quiet b (Xl s) s ws l).1,(quiet b (Xl s) s ws l).2.2,d)
   |x::f=>
    if d=0 then jB b (quiet b (Xl s) s ws l).1 (quiet b (Xl s) s ws l).2.2 d 3
    else if Xs b x.side (d-1) (bG b x)=true then (2,eG,[],0)
    else if (runs b x.side (-1) (bG b x) (quiet b (Xl s) s ws l).1 (d-1)).1=0 then
     YO b n (runs b x.side (-1) (bG b x) (quiet b (Xl s) s ws l).1 (d-1)).2.1 f (runs b x.side (-1) (bG b x) (quiet b (Xl s) s ws l).1 (d-1)).2.2.1
      ((quiet b (Xl s) s ws l).2.2++[pJ x]++(runs b x.side (-1) (bG b x) (quiet b (Xl s) s ws l).1 (d-1)).2.2.2)
    else if (runs b x.side (-1) (bG b x) (quiet b (Xl s) s ws l).1 (d-1)).1=190 then
     jB b (runs b x.side (-1) (bG b x) (quiet b (Xl s) s ws l).1 (d-1)).2.1 ((quiet b (Xl s) s ws l).2.2++[pJ x]++(runs b x.side (-1) (bG b x) (quiet b (Xl s) s ws l).1 (d-1)).2.2.2)
      (runs b x.side (-1) (bG b x) (quiet b (Xl s) s ws l).1 (d-1)).2.2.1 3
    else ((runs b x.side (-1) (bG b x) (quiet b (Xl s) s ws l).1 (d-1)).1,eG,[],0)
variable{s:St}
variable{b:Bk}
theorem PE(n:Nat){t:St}{ws d:List Tr}{l l':List Ev}(fu:Int)(hq:quiet b (Xl s) s ws l=(t,d,l')):YO b (n+1) s ws fu l =
  if XA t≠0 then jB b t l' fu (XA t)else match (generalizing:=false) d with
   |[]=>(0,t,l',fu)
   |x::d=>if fu=0 then jB b t l' fu 3 else if Xs b x.side (fu-1) (bG b x)=true then (2,eG,[],0)
    else if (runs b x.side (-1) (bG b x) t (fu-1)).1=0 then YO b n (runs b x.side (-1) (bG b x) t (fu-1)).2.1 d (runs b x.side (-1) (bG b x) t (fu-1)).2.2.1 (l'++[pJ x]++(runs b x.side (-1) (bG b x) t (fu-1)).2.2.2)
    else if (runs b x.side (-1) (bG b x) t (fu-1)).1=190 then jB b (runs b x.side (-1) (bG b x) t (fu-1)).2.1 (l'++[pJ x]++(runs b x.side (-1) (bG b x) t (fu-1)).2.2.2) (runs b x.side (-1) (bG b x) t (fu-1)).2.2.1 3
    else ((runs b x.side (-1) (bG b x) t (fu-1)).1,eG,[],0):=by
 rw[YO];simp only[hq]
def kX(b:Bk)(x:Tr):Prop:=0<=x.card/\x.card<b.aj.length/\(x.side=0\/x.side=1)
theorem Ub{l:List Th}{id:Int}(h:gk l id=none):id∉l.map Th.id:=by
 simp_all [gk]
theorem QcY{id:Int}(h:id∈s.s0.af.map Th.id\/id∈s.s1.af.map Th.id):∃(k:Nat) (u:Th),(aC s id).2.1=k/\(s.side (aC s id).1).af[k]?=some u/\((aC s id).1=0\/(aC s id).1=1)/\nO s id=u.card:=by
 unfold nO aC;cases d:gk s.s0.af id with
 |some k=>
  obtain⟨u,hu,_⟩:=ZO d;exact⟨k,u,rfl,hu,.inl rfl,by simp[St.side,hu]⟩
 |none=>
  simp only;cases f:gk s.s1.af id with
  |some k=>
   obtain⟨u,hu,_⟩:=ZO f;exact⟨k,u,rfl,hu,.inr rfl,by simp[St.side,hu]⟩
  |none=>
   simp_all [Ub]
theorem JD(b:Bk)(s:St):∀l:List Int,(gu b s l).length<=l.length
 |[]=>AO _
 |id::l=>by
  have:=JD b s l;unfold gu;split<;>simp<;>omega
theorem QbI(b:Bk)(s:St)(id:Int):∀l:List Int,gu b s (l++[id])=gu b s l++(if 0<(ZP b (nO s id)).dead.length then [⟨nO s id,(aC s id).1,false⟩]else [])
 |[]=>by simp[gu]
 |a::l=>by simp[gu,QbI]
theorem O8(hM:cc b s){i:Int}(hi:i=0\/i=1){k:Nat}{u:Th}(hu:(s.side i).af[k]?=some u):0<=u.card/\u.card<b.aj.length:=by
 have d:u∈s.s0.af++s.s1.af:=by
  rcases hi with rfl|rfl
  ·exact DS _ (Au hu)
  ·exact DO _ (Au hu)
 have:=hM.un.1 u d;simp_all [Qv]
theorem YcJ(hM:cc b s):∀l:List Int,(∀a∈l,a∈s.s0.af.map Th.id\/a∈s.s1.af.map Th.id)->∀x∈gu b s l,kX b x
 |[],_,x,d=>by simp[gu]at d
 |id::l,h,x,d=>by
  rw[gu,Bd]at d;rcases d with d|d
  ·split at d
   ·rw[D1]at d;subst d;obtain⟨k,u,_,h2,h3,h4⟩:=QcY (h id (by simp));have:=O8 hM h3 h2;exact⟨by rw[h4];exact this.1,by rw[h4];exact this.2,h3⟩
   ·simp at d
  ·exact YcJ hM l (λa f=>h a (by simp[f])) x d
theorem YbV(s:St)(id:Int):Xl (Yp s id).1+(Yp s id).2.length=Xl s/\(∀e∈(Yp s id).2,e.aj=[]/\e.kind=13)/\(Yp s id).1.s0.told=s.s0.told/\(Yp s id).1.s1.told=s.s1.told:=by
 unfold Yp;cases f:gk s.s0.af id with
 |some k=>
  obtain⟨u,d,_⟩:=ZO f;have i:=(eS d).1;refine⟨?_,by simp,rfl,rfl⟩
  grind [Xl]
 |none=>
  simp only;cases j:gk s.s1.af id with
  |some k=>
   obtain⟨u,d,_⟩:=ZO j;have i:=(eS d).1;refine⟨?_,by simp,rfl,rfl⟩
   grind [Xl]
  |none=>simp
theorem XK:∀(ids:List Int) (s:St),Xl (Qq ids s).1+(Qq ids s).2.length=Xl s/\(∀e∈(Qq ids s).2,e.aj=[]/\e.kind=13)/\(Qq ids s).1.s0.told=s.s0.told/\(Qq ids s).1.s1.told=s.s1.told
 |[],s=>⟨by simp[Qq],by simp[Qq],rfl,rfl⟩
 |id::ids,s=>by
  obtain⟨h1,h2,h3,h4⟩:=YbV s id;obtain⟨k1,k2,k3,d⟩:=XK ids (Yp s id).1;refine⟨?_,?_,k3.trans h3,d.trans h4⟩
  ·grind [Qq]
  ·intro e he;rw[Qq,Bd]at he
   grind
theorem Yd6(s:St):(s.s0.ao.length:Int)<=Xj s/\(s.s1.ao.length:Int)<=Xj s/\(Xl s:Int)<=Xj s:=by
 unfold Xj Xl;omega
variable{N C:Nat}
theorem cu.vp(h:cu b N C s)(hC:C+14<=1000000):cu b N C (Qq (bc b s) s).1:=by
 obtain⟨_,_,f⟩:=QY h.may;have i:=Yd6 s;have d:=h.aj;obtain⟨k1,k2⟩:=Qa5 (bc b s) h.may (by omega) (by omega);obtain⟨_,_,t0,t1⟩:=XK (bc b s) s;exact⟨k1,⟨by rw[t0];exact h.told.1,by rw[t1];exact h.told.2⟩,by rw[k2];exact d⟩
theorem PA(hM:cc b s)(h:bc b s≠[]):Xl (Qq (bc b s) s).1<Xl s:=by
 obtain⟨h1,h2,_⟩:=QY hM;have:=(XK (bc b s) s).1;have d:=Pw (bc b s) s h1 h2
 grind [List.length_pos_iff]
theorem U9(hM:cc b s)(h:Xl s=0):bc b s=[]:=by
 obtain⟨_,h2,_⟩:=QY hM;simp_all [Xl,List.eq_nil_iff_forall_not_mem]
theorem Pk{b:Bk}{N C:Nat}(hC:C+14<=1000000):∀(n:Nat) (s:St) (ws:List Tr) (l:List Ev),Xl s<=n->cu b N C s ->
  cu b N C (quiet b n s ws l).1/\bc b (quiet b n s ws l).1=[]/\(∃m,(quiet b n s ws l).2.2=l++m/\m.length+Xl (quiet b n s ws l).1=Xl s/\∀e∈m,e.kind=13) /\
   ∃m,(quiet b n s ws l).2.1=ws++m/\m.length+Xl (quiet b n s ws l).1<=Xl s/\∀x∈m,kX b x
 |0,s,ws,l,h,d=>⟨d,by rw[quiet];exact U9 (s:=s) d.may (by omega),⟨[],by simp[quiet],by simp[quiet],by simp⟩,⟨[],by simp[quiet],by simp[quiet],by simp⟩⟩
 |n+1,s,ws,l,h,d=>by
  unfold quiet;by_cases hd:bc b s=[]
  ·simp_all
  ·rw[aB hd];have z:=PA d.may hd;obtain⟨d1,i,A⟩:=QY d.may;obtain⟨B,D,_⟩:=XK (bc b s) s;have E:=Pw (bc b s) s d1 i;obtain⟨j,o,⟨m,p,F,G⟩,⟨r,w,H,y⟩⟩:=Pk hC n (Qq (bc b s) s).1 (ws++gu b s (bc b s)) (l++(Qq (bc b s) s).2) (by omega) (d.vp hC);have K:=JD b s (bc b s);refine⟨j,o,⟨(Qq (bc b s) s).2++m,by rw[p,Cp],by rw[AT];omega,λe he=>?_⟩,⟨gu b s (bc b s)++r,by rw[w,Cp],by rw[AT];omega,λx f=>?_⟩⟩
   ·grind
   ·rcases Bd.1 f with f|f
    ·exact YcJ d.may _ i x f
    ·exact y x f
theorem YbQ(hC:C+14<=1000000):∀(n m:Nat) (s:St) (ws:List Tr) (l:List Ev),cu b N C s->Xl s<=n->Xl s<=m->quiet b n s ws l=quiet b m s ws l
 |0,0,s,ws,l,_,_,_=>rfl
 |0,m+1,s,ws,l,d,h,_=>by rw[quiet,quiet,aE (U9 d.may (by omega))]
 |n+1,0,s,ws,l,d,_,h=>by rw[quiet,quiet,aE (U9 d.may (by omega))]
 |n+1,m+1,s,ws,l,d,h1,h2=>by
  rw[quiet,quiet];split
  ·rfl
  ·rename_i hd;have:=PA d.may hd;exact YbQ hC n m _ _ _ (d.vp hC) (by omega) (by omega)
theorem Yc8(hC:C+14<=1000000)(ws:List Tr)(l:List Ev)(hM:cu b N C s)(hd:bc b s≠[]) :
  quiet b (Xl s) s ws l=quiet b (Xl (Qq (bc b s) s).1) (Qq (bc b s) s).1 (ws++gu b s (bc b s)) (l++(Qq (bc b s) s).2):=by
 have h:=PA hM.may hd;obtain⟨n,d⟩:∃n,Xl s=n+1:=⟨Xl s-1,by omega⟩;rw[d,quiet,aB hd];exact YbQ hC _ _ _ _ _ (hM.vp hC) (by omega) (AO _)
theorem Zc8(n:Nat)(ws:List Tr)(l:List Ev)(hd:bc b s=[]):quiet b n s ws l=(s,ws,l):=by
 cases n<;>simp_all [quiet]
end Go.Ah.Tz
end
section
namespace Go.Ah
theorem iN:∀b:List Nat,df b []=true
 |[]=>rfl
 |y::b=>by simp[df,iN b]
theorem qm{x:Nat}:∀ {b:List Nat},x∉b->df b [x]=true
 |[],_=>rfl
 |y::b,h=>by
  simp only[Az,not_or]at h;simp only[df,qm h.2,DZ];simp[Ne.symm h.1]
end Go.Ah
namespace Go.Ah.Tz
open Go.Proofs.Tryz (prog)
set_option maxRecDepth 100000
structure RS (b:Bk) (s:St) (fu:Int) (l:List Ev) (ws:List Tr) (eb qb:Nat) (τ:List U):Prop where
 hb:ai τ 0=.box (cf b)
 hs:ai τ 1=.box (aH s)
 hf:ai τ 2=.box [O fu]
 hr:ai τ 3=.box aU
 he:∃lv,ai τ eb=.box [lv]/\LE l lv τ
 hq:∃qv,ai τ qb=.box [qv]/\QW ws qv τ
 e3:3<eb
 eq:eb<qb
variable{eb qb:Nat}
variable{ws:List Tr}
variable{fu:Int}
variable{s:St}
variable{τ τ':List U}
variable{l:List Ev}
variable{b:Bk}
theorem RS.agr(h:RS b s fu l ws eb qb τ)(k:dk τ τ' []):RS b s fu l ws eb qb τ':=by
 obtain⟨hb,hs,hf,hr,⟨lv,he,d⟩,⟨f,hq,hw⟩,e3,eq⟩:=h;have g:∀ {c x},ai τ c=x->x≠.dead->ai τ' c=x:=λi hd=>k.get i hd (by simp);exact⟨g hb (by simp),g hs (by simp),g hf (by simp),g hr (by simp),⟨lv,g he (by simp),d.mono λc j h=>g h (by simp)⟩,⟨f,g hq (by simp),hw.mono λc j h=>g h (by simp)⟩,e3,eq⟩
theorem RS.app(h:RS b s fu l ws eb qb τ)(x:U):RS b s fu l ws eb qb (τ++[x]):=h.agr (dk.mY τ x)
theorem RS.Sr{f:List Tr}{d:I}(h:RS b s fu l ws eb qb τ)(q:ai τ' qb=.box [d])(w:QW f d τ')(k:Kq [qb] 3 τ τ'):RS b s fu l f eb qb τ':=by
 obtain⟨hb,hs,hf,hr,⟨lv,he,i⟩,⟨j,hq,o⟩,e3,eq⟩:=h;exact⟨k.box hb,k.box hs,k.box hf,k.box hr,⟨lv,k.box he,i.mono λc p h=>k.rows h (by simp;rintro rfl;rw[hq]at h;cases h) (by decide)⟩,⟨d,q,w⟩,e3,eq⟩
theorem RS.Ss{s':St}{j:Int}{l':List Ev}{f:I}(h:RS b s fu l ws eb qb τ)(q1:ai τ' 1=.box (aH s'))(q2:ai τ' 2=.box [O j])(q3:ai τ' eb=.box [f])(w:LE l' f τ')(k:Kq [1,2,eb] 7 τ τ'):RS b s' j l' ws eb qb τ':=by
 obtain⟨hb,hs,hf,hr,⟨lv,he,r⟩,⟨o,hq,hw⟩,e3,eq⟩:=h;have p:∀ {c i},ai τ c=.rows 3 i->c∉[1,2,eb]:=by
  intro c i d;simp only[Az,List.not_mem_nil,or_false,not_or];refine⟨?_,?_,?_⟩
  ·rintro rfl;rw[hs]at d;cases d
  ·rintro rfl;rw[hf]at d;cases d
  ·rintro rfl;rw[he]at d;cases d
 exact⟨k.box hb,q1,q2,k.box hr,⟨f,q3,w⟩,⟨o,k.box hq,hw.mono λc i h=>k.rows h (p h) (by decide)⟩,e3,eq⟩
theorem Tn{lv:I}(h:LE l lv τ){y:I}{ys:List (List I)}{rd:List Nat}{m:List Ev}(hy:Yl 7 τ y=some (ys,rd))(hm:eR ys m)(i:l.length+m.length<=200000000) :
  ∃f up τ',Yh 7 72 [lv,y] τ=.ok f rd up/\h_ τ up=some τ'/\LE (l++m) f τ'/\Kq [] 7 τ τ'/\∀k row,ai τ k=.box row->k∉up.map (·.1):=by
 have hlen:=hm.len;rcases h with ⟨rfl,rfl⟩|⟨c,rows,rfl,h2,h3⟩
 ·refine⟨_,_,_,PN 7 72 hy (Uv hm) (by rw[hlen];simp at i;omega),Qf τ _,.inr ⟨τ.length,ys,by simp[hlen],Xc τ _,by simpa using hm⟩,Kq.app [] 7 τ _,λk row d=>?_⟩;have:=Yb d;simp;omega
 ·refine⟨_,_,_,Q5 7 72 h2 (by rw[h3.len,FF]) hy (Uv hm) (by rw[hlen];omega),YK _ _ (Yb h2),.inr ⟨τ.length,rows.drop 0++ys,by simp[hlen],Di c _,by rw[GG];exact h3.app hm⟩,T_ h2 _ [],λk row d=>?_⟩;have:=Yb d;simp;exact⟨(by rintro rfl;rw[h2]at d;cases d),(by omega)⟩
theorem JG{c:Int}(h:0<=c/\c<b.aj.length):∃(k:Nat) (hk:k<b.aj.length),c=(k:Int)/\ZP b c=b.aj[k]:=by
 refine⟨c.toNat,by omega,by omega,?_⟩;unfold ZP;rw[Cv (by omega)];rfl
def jW(r:Int×St×List Ev×Int):I:=.bw [bN r.2.1,.aX false false 7 (r.2.2.1.map cS),O r.2.2.2,O r.1]
theorem yk{J:List U}{r:Int×St×List Ev×Int}{lv:I}{cs:List I}(h1:SB J [] cs r.2.1)(h:LE r.2.2.1 lv J):∃rd,aA (hp J) rd (.bw [.agg cs,lv,O r.2.2.2,O r.1]) (jW r):=by
 obtain⟨e,s,l,f⟩:=r;have o:∃rd,aA (hp J) rd lv (.aX false false 7 (l.map cS)):=by
  have h:LE l lv J:=h;rcases h with ⟨rfl,rfl⟩|⟨k,rows,rfl,A,p⟩
  ·exact⟨[],aA.d_ (aA.ro rfl) (λM u d=>d.eZ 7)⟩
  ·refine⟨[k],?_⟩;refine aA.d_ (y:=.aX false false 7 (l.map cS)) (aA.d_ (aA.sl (rs:=rows) (rs':=l.map cS) (Zw A (by simp)) (by simp) (by rw[p.len];omega) (by simp) (λi row row' j z=>?_)) (λM u d=>d.g_)) (λM u d=>d);rw[Al]at j;have hm:=QcM p;have h1:(rows.map λr=>r.map qw)[i]?=some (row.map qw):=by rw[Ba,j];rfl
   rw[hm,z]at h1;cases h1;have w:=Ydt p row (Au j);clear hm z j
   induction row with
   |nil=>exact .nil
   |cons x row B=>
    simp only[fV,AA]at w;exact .cons (aA.d_ (aA.ro w.1) (λM u d=>ZcS M bE x u d)) (B w.2)
 obtain⟨rd,o⟩:=o;refine⟨rd,aA.bw (.cons (aA.more (SB.agg h1) (by simp)) (.cons o (.cons (aA.ro rfl) (.cons (aA.ro rfl) .nil))))⟩
end Go.Ah.Tz
end
section
namespace Go.Ah.Tz
open Go.Proofs.Tryz (prog)
set_option maxRecDepth 100000
variable{b:Bk}
theorem ZdT(hf:aN b=true)(d:Yg b.aj){c:Cd}(hc:c∈b.aj):bz c.dead=true/\bz c.dw=true/\(bR c.dead).length<=500000000/\(bR c.dw).length<=500000000:=by
 simp only[aN,QE,AA,List.all_eq_true]at hf;have h:=hf.1.2 c hc;simp only[gq,AA]at h;have hs:=d c hc;simp only[od,AT]at hs;exact⟨h.2.2.1,h.2.2.2,by omega,by omega⟩
attribute [local irreducible] aI.rd aI.pu aI.wr aI.dr aI.gr aI.gw aI.gl aI.gd aI.opt c8 W
set_option maxHeartbeats 4000000
def yJ(d:Nat)(K:KT)(vs:List I)(J:List U):Prop:=
 VV.rd (Xf true 2 [.ak 0 0] J) λt196=>VV.rd (Xf true 23 [.ak 1 0] J) λt197=>
 VV.call (.call 71) [t196,t197,h0 vs] J λt199 J=>VV.rd (Zk 0 [t199] J) λt200=>VV.rd (Zk 1 [t199] J) λt201=>
 VV.wr (Zt aU [] J) J λt31 J=>VV.wr (Zt bY [] J) J λt32 J=>VV.wr (Xh 23 [t31,t200] J) J λ_ J=>VV.wr (Xh 7 [t32,t201] J) J λ_ J=>
 VV.dr (Xf true 23 [t31] J) J λt202 l176 J=>VV.dr (Xf false 1 [.ak d 0] J) J λt203 l178 J=>VV.dr (Xf true 7 [t32] J) J λt204 l180 J=>
 VV.dr (Yq 7 1 bY [(0,7)] [t204] J) J λt205 l182 J=>VV.dr (Yh 7 72 [t203,t205] J) J λt206 l184 J=>VV.dr (Xf false 1 [.ak 2 0] J) J λt207 l186 J=>
 VV.dr (Xh 23 [.ak 3 0,t202] J) J λ_ l187 J=>
 VV.gd (Qg [[],[],[],[2],[1,2,3],[],[0,1,2,3,4],[0,1,2,3,4,6],[0,1,2,3,4,5,6,7],[0,1,2,3,4,5,6,7,8]] [l176,l178,l180,l182,l184,l186,l187,([],[]),([],[]),([],[])]) <|
 VV.opt (fz true 23 (.ak 3 0) J) λr188=>K (.bw [r188,t206,t207,.int .i64 0]) J
variable{τ φ:List U}
variable{eb qb N C:Nat}
variable{ws:List Tr}
variable{fu:Int}
variable{l:List Ev}
variable{s t:St}
theorem Ye3(b:Bk)(hf:aN b=true)(H:Yg b.aj)(hs:ba 1000000000 s)(hR:RS b s fu l ws eb qb τ)(how:Int)(hh:0<=how/\how<=3)(hl:l.length<=100000000){K:KT}
 (L:∀σ' lv,LE (jB b s l fu how).2.2.1 lv σ'->K (.bw [bN (jB b s l fu how).2.1,lv,O fu,O 0]) σ'):yJ eb K [aS how] τ:=by
 unfold yJ;have e3:=hR.e3;refine Z (v:=dd b) (ld hR.hb rfl) (Z (v:=bN s) (ld hR.hs rfl) (bD (q98 b hf H s hs how) g71.ok (Z (v:=bN (bV b s how).1) rfl (Z (v:=tj (bV b s how).2) rfl ?_))));have P:∀σ' lv,LE (l++[(bV b s how).2]) lv σ'->K (.bw [bN (bV b s how).1,lv,O fu,O 0]) σ':=L;generalize bV b s how=o at *;refine Qd (v:=.ak τ.length 0) (rd:=[]) (up:=[(τ.length,.box aU)]) rfl (Qf τ _) ?_;have h1:=hR.app (.box aU);have Q:=Xc τ (.box aU);have pY:(τ++[U.box aU]).length=τ.length+1:=by simp
 have bZ:4<τ.length:=by obtain⟨R,hq,_⟩:=hR.hq;have:=Yb hq;have:=hR.eq;omega
 generalize τ++[U.box aU]=τ1 at *;refine Qd (v:=.ak τ1.length 0) (rd:=[]) (up:=[(τ1.length,.box bY)]) rfl (Qf τ1 _) ?_;have h2:=h1.app (.box bY);have j:=Zb [U.box bY] Q;have S:=Xc τ1 (.box bY);have kq:(τ1++[U.box bY]).length=τ1.length+1:=by simp
 have ag:dk τ (τ1++[U.box bY]) []->True:=λ_=>trivial;generalize τ1++[U.box bY]=τ2 at *;have abS:∀ {τ':List U} {k:Nat} (x:U),RS b s fu l ws eb qb τ'->qb<k->RS b s fu l ws eb qb (τ'.set k x)\/True:=λ_ _ _=>.inr trivial;have Si:qb<τ.length:=by obtain⟨R,hq,_⟩:=hR.hq;exact Yb hq
 have b2:=h2.hb;have T:=h2.hf;have V:=h2.hr;obtain⟨lv,X,Y⟩:=h2.he;have heq:=hR.eq;refine Qd (cO (row':=aH o.1) j rfl rfl rfl) (Ye _ (by omega)) ?_;have z3:ai (τ2.set τ.length (.box (aH o.1))) τ.length=.box (aH o.1):=Zc _ (by omega);have p:=Qa (x:=.box (aH o.1)) S (by simp) (show τ.length≠τ1.length by omega);have f3:=Qa (x:=.box (aH o.1)) T (by simp) (show τ.length≠2 by omega);have r3:=Qa (x:=.box (aH o.1)) V (by simp) (show τ.length≠3 by omega);have IA:=Qa (x:=.box (aH o.1)) X (by simp) (show τ.length≠eb by omega);have l3:LE l lv (τ2.set τ.length (.box (aH o.1))):=Y.mono (λc d h=>ZC _ j h);have AR:(τ2.set τ.length (.box (aH o.1))).length=τ2.length:=by simp
 generalize τ2.set τ.length (.box (aH o.1))=τ3 at *;refine Qd (cO (row':=cS o.2) p rfl rfl rfl) (Ye _ (by omega)) ?_;have y4:ai (τ3.set τ1.length (.box (cS o.2))) τ1.length=.box (cS o.2):=Zc _ (by omega);have r:=Qa (x:=.box (cS o.2)) z3 (by simp) (show τ1.length≠τ.length by omega);have f4:=Qa (x:=.box (cS o.2)) f3 (by simp) (show τ1.length≠2 by omega);have r4:=Qa (x:=.box (cS o.2)) r3 (by simp) (show τ1.length≠3 by omega);have w:=Qa (x:=.box (cS o.2)) IA (by simp) (show τ1.length≠eb by omega);have l4:LE l lv (τ3.set τ1.length (.box (cS o.2))):=l3.mono (λc d h=>ZC _ p h);have En:(τ3.set τ1.length (.box (cS o.2))).length=τ3.length:=by simp
 generalize τ3.set τ1.length (.box (cS o.2))=τ4 at *;refine Ze (v:=bN o.1) (ld r rfl) (Yd _) (Ze (v:=lv) (ld w rfl) (Yd _) (Ze (v:=tj o.2) (ld y4 rfl) (Yd _) (Ze (RB (e:=o.2) (cv:=aM o.2.aj) (.inl rfl) τ4) (Qf τ4 _) ?_)));have b5:=Xc τ4 (.rows 7 [c_ o.2 (aM o.2.aj)]);have z5:=Zb [U.rows 7 [c_ o.2 (aM o.2.aj)]] r;have y:=Zb [U.rows 7 [c_ o.2 (aM o.2.aj)]] f4;have z:=Zb [U.rows 7 [c_ o.2 (aM o.2.aj)]] r4;have e5:=Zb [U.rows 7 [c_ o.2 (aM o.2.aj)]] w;have l5:LE l lv (τ4++[U.rows 7 [c_ o.2 (aM o.2.aj)]]):=l4.mono (λc d h=>Qu _ h);generalize τ4++[U.rows 7 [c_ o.2 (aM o.2.aj)]]=τ5 at *;obtain⟨nv,up,τ6,a1,a2,a3,a4,f⟩:=Tn l5 (Vd b5) (m:=[o.2]) (by simpa using eR.snoc [] [] o.2 (aM o.2.aj) .nil (.inl rfl)) (by simp;omega);refine Ze a1 a2 ?_;have A:=f _ _ z5;have B:=f _ _ y;have D:=f _ _ z;have f6:=a4.box y (by simp);have i:=a4.box z (by simp);generalize up.map (·.1)=ua0 at *;have hr6:=Yb i;refine Ze (v:=O fu) (ld f6 rfl) (Yd _) (Ze (cO (row':=aH o.1) i rfl rfl rfl) (Ye _ hr6) ?_);have n1:τ.length≠τ4.length:=by omega
 have E:eb≠τ4.length:=by omega
 have F:τ4.length≠2:=by omega
 have n4:τ4.length≠3:=by omega
 have G:τ1.length≠τ4.length:=by omega
 refine Xo (by simp[Qg,Qj,Zl,Zs,bF,df,Ao,B0,n1,E,F,n4,G,n1.symm,E.symm,F.symm,n4.symm,G.symm,A,B,D,qm A,qm B,qm D,iN]) (Zp (Qr hr6 rfl) ?_);exact P _ nv (a3.mono (λc d h=>ZC _ i h))
set_option maxHeartbeats 8000000
theorem LE.cells{lv:I}{J:List U}(h:LE l lv J):cellsOf lv=some [lv]:=by
 rcases h with ⟨_,rfl⟩|⟨c,rows,rfl,_⟩<;>rfl
def yL(qb:Nat)(ids j:I)(k73:n_)(J:List U):Prop:=
 VV.rd (Zi 1 [ids,j] J) λt99=>VV.rd (Xf false 1 [t99] J) λt100=>VV.rd (Xf true 23 [.ak 1 0] J) λt102=>
 VV.call (.call 73) [t102,t100] J λt104 J=>VV.rd (Zk 0 [t104] J) λt105=>VV.rd (Zk 1 [t104] J) λt106=>VV.rd (Zk 2 [t104] J) λ_=>
 VV.rd (Qc 7 [.ak 1 0] J) λt109=>VV.rd (Qo 2 8 [t109,t105] J) λt110=>VV.rd (Qc 6 [t110] J) λt111=>VV.rd (Xf false 1 [t111] J) λt112=>
 VV.rd (Zi 4 [t112,t106] J) λt114=>VV.rd (Qc 1 [t114] J) λt115=>VV.rd (Xf false 1 [t115] J) λt116=>VV.rd (Qc 0 [.ak 0 0] J) λt117=>
 VV.rd (Xf false 1 [t117] J) λt118=>VV.rd (Zi 12 [t118,t116] J) λt120=>VV.rd (Qc 9 [t120] J) λt121=>VV.rd (Xf false 1 [t121] J) λt122=>
 VV.rd (Yn [t122] J) λt123=>VV.rd (Qn .gtr false [t123,.int .i64 0] J) λt124=>
 VV.test t124 (
  VV.rd (XJ [.int .i64 0,.int .i64 0,.bool false] [(0,1),(1,1)] [t116,t105] J) λt128=>VV.wr (Yq 3 1 [.int .i64 0,.int .i64 0,.bool false] [(0,3)] [t128] J) J λt129 J=>
  VV.call (.call 93) [.ak qb 0,t129] J λ_ J=>k73 [] J) (k73 [] J)
theorem Ze6(hf:aN b=true)(hS:cu b N C t)(hR:RS b t fu l ws eb qb φ){ids:List Int}{j:Nat}(x:j<ids.length)(ct:ids[j]∈t.s0.af.map Th.id\/ids[j]∈t.s1.af.map Th.id)(hw:ws.length<=90000000)
 {k73:n_}(d:∀φ',RS b t fu l (ws++(if 0<(ZP b (nO t ids[j])).dead.length then [⟨nO t ids[j],(aC t ids[j]).1,false⟩]else [])) eb qb φ'->k73 [] φ'):yL qb (aM ids) (O j) k73 φ:=by
 unfold yL;refine Z (Zm _ aK false false 1 ids .i64 j x) ?_;generalize ids[j]=id at *;refine Z (v:=O id) (bg rfl) (Z (v:=bN t) (ld hR.hs rfl) (bD (c71 t hS.ni id) g73.ok (Z rfl (Z rfl (Z rfl ?_)))));obtain⟨k,u,u1,r,p,w⟩:=QcY ct;have y:=O8 hS.may p r;rw[u1];rw[w]at d;clear w u1;generalize (aC t id).1=i at *;have z:=(eS r).1;obtain⟨c,A,B,D⟩:=JG y;rw[D]at d;have hb:=hR.hb;have hs:=hR.hs;have P:b.aj.length<=iC:=by
  simp only[aN,QE,AA,fe]at hf;exact hf.1.1
 refine Z rfl (Z (v:=.ak 1 (7+i.toNat*8)) (by rcases p with rfl|rfl<;>rfl) (Z (v:=.ak 1 (13+i.toNat*8)) (by rcases p with rfl|rfl<;>rfl) (Z (v:=ly (t.side i).af) (by rcases p with rfl|rfl<;>exact ld hs rfl) ?_)));refine Z (Zm _ br false false 4 (t.side i).af .i64 k z) ?_;rw[show (t.side i).af[k]=u from (eS r).2];refine Z rfl (Z (v:=O u.card) (bg rfl) (Z rfl (Z (v:=iX b.aj) (ld hb rfl) ?_)));rw[B]at d ⊢;refine Z (Zm _ cM false false 12 b.aj .i64 c A) ?_;generalize b.aj[c]=o at *;refine Z rfl (Z (v:=gE o.dead) (bg rfl) (Z (v:=O o.dead.length) (rd:=[]) (by simp[Yn]) (Z (v:=.bool (decide ((o.dead.length:Int)>0))) rfl (Ya (λh=>?_) (λh=>?_)))))
 ·have h:0<o.dead.length:=by simpa using h
  rw[aE h]at d;refine Z (v:=.agg (eP ⟨c,i,false⟩)) rfl (Qd (Ib 3 φ _ _ (eP ⟨c,i,false⟩) rfl rfl) (Qf φ _) ?_);have h2:=hR.app (.rows 3 [eP ⟨c,i,false⟩]);have E:=Xc φ (.rows 3 [eP ⟨c,i,false⟩]);generalize φ++[U.rows 3 [eP ⟨c,i,false⟩]]=φ2 at *;obtain⟨Q,F,G⟩:=h2.hq;refine Xe hP (f:=93) rfl g93.ok rfl (w210 (ys:=[⟨c,i,false⟩]) F G (Vd E) (by simp;omega) λσ' S H K L=>d _ (h2.Sr H K L))
 ·have h:¬0<o.dead.length:=by simpa using h
  rw[aB h,DR]at d;exact d _ hR
def wX(eb:Nat)(ids:I)(again:n_)(J:List U):Prop:=
 VV.rd (Xf true 2 [.ak 0 0] J) λt133=>VV.rd (Xf true 23 [.ak 1 0] J) λt134=>VV.call (.call 96) [t133,t134,ids] J λt136 J=>
 VV.rd (Zk 0 [t136] J) λt137=>VV.rd (Zk 1 [t136] J) λt138=>VV.wr (Zt aU [] J) J λt25 J=>VV.wr (Xh 23 [t25,t137] J) J λ_ J=>
 VV.dr (Xf true 23 [t25] J) J λt139 l107 J=>VV.dr (Xf false 1 [.ak eb 0] J) J λt140 l109 J=>VV.dr (Yh 7 72 [t140,t138] J) J λt142 l111 J=>
 VV.dr (Xh 23 [.ak 1 0,t139] J) J λ_ l112 J=>VV.dr (Xh 1 [.ak eb 0,t142] J) J λ_ l113 J=>
 VV.gd (Qg [[],[],[],[1,2],[0,1,2,3],[0,1,2,3,4]] [l107,l109,([],[]),l111,l112,l113]) <|
 VV.rd (Xf true 2 [.ak 0 0] J) λt92=>VV.rd (Xf true 23 [.ak 1 0] J) λt93=>VV.call (.call 95) [t92,t93] J λt94 J=>again [t94] J
theorem QeN(hf:aN b=true)(o:Yg b.aj)(c6:(bO b).1=0)(hS:cu b N C t)(hC:C+14<=1000000)(hR:RS b t fu l ws eb qb φ)(hl:l.length<=100000000)
 {again:n_}(E:∀φ',RS b (Qq (bc b t) t).1 fu (l++(Qq (bc b t) t).2) ws eb qb φ'->again [aM (bc b (Qq (bc b t) t).1)] φ'):wX eb (aM (bc b t)) again φ:=by
 unfold wX;have V:=(QY hS.may).2.2;have p:=XK (bc b t) t;have hS':=hS.vp hC;have X:Xl t<=14:=by have:=hS.may.s0.af;have:=hS.may.s1.af;unfold Xl;omega
 refine Z (v:=dd b) (ld hR.hb rfl) (Z (v:=bN t) (ld hR.hs rfl) (bD (c27 b hf o t hS.le (Qs.2 ⟨c6,hS.may⟩) (bc b t) (by omega)) g96.ok (Z rfl (Z rfl ?_))));have F:=YeV (Qq (bc b t) t).2 (λe he=>(p.2.1 e he).1);have hlen:(Qq (bc b t) t).2.length<=14:=by have:=p.1;omega
 generalize (Qq (bc b t) t).2=m at *;generalize (Qq (bc b t) t).1=d at *;refine Zq (row:=aH d) (row':=aH d) rfl rfl rfl ?_;have h1:=hR.app (.box (aH d));have t1:=Xc φ (.box (aH d));generalize φ.length=Y at *;generalize φ++[U.box (aH d)]=φ1 at *;obtain⟨lv,r,G⟩:=h1.he;obtain⟨f,up,φ2,H,K,a3,a4,L⟩:=Tn (y:=.aX false false 7 (m.map la)) G JX F (by omega);refine Ze (v:=bN d) (ld t1 rfl) (Yd _) (Ze (v:=lv) (ld r rfl) (Yd _) (Ze H K ?_));have ut:=L _ _ t1;have i:=a4.box h1.hs (by simp);have P:=a4.box h1.hf (by simp);have Q:=a4.box r (by simp);have he3:=h1.e3;generalize up.map (·.1)=ua0 at *;refine Ze (cO (row':=aH d) i rfl rfl rfl) (Ye _ (Yb i)) ?_;have R:ai (φ2.set 1 (.box (aH d))) 1=.box (aH d):=Zc _ (Yb i);have S:=Qa (x:=.box (aH d)) P (by simp) (show 1≠2 by decide);have e3:=Qa (x:=.box (aH d)) Q (by simp) (show 1≠eb by omega);have j:LE (l++m) f (φ2.set 1 (.box (aH d))):=a3.mono (λc T h=>ZC _ i h);have k3:Kq [1,2,eb] 7 φ1 (φ2.set 1 (.box (aH d))):=(a4.more (by simp)).trans (Kq.set 7 φ2 _ (by simp));generalize φ2.set 1 (.box (aH d))=φ3 at *;refine Ze (cO (row':=[f]) e3 j.cells rfl rfl) (Ye _ (Yb e3)) ?_;have w:=Qa (x:=.box [f]) R (by simp) (show eb≠1 by omega);have z:=Qa (x:=.box [f]) S (by simp) (show eb≠2 by omega);have A:ai (φ3.set eb (.box [f])) eb=.box [f]:=Zc _ (Yb e3);have B:LE (l++m) f (φ3.set eb (.box [f])):=j.mono (λc T h=>ZC _ e3 h);have D:=k3.trans (Kq.set 7 φ3 (.box [f]) (show eb∈[1,2,eb] by simp));have h4:=h1.Ss w z A B D;clear w z A B D k3 j;generalize φ3.set eb (.box [f])=φ4 at *;refine Xo (by simp[Qg,Qj,Zl,Zs,bF,df,Ao,B0,ut,qm ut,iN]) (Z (v:=dd b) (ld h4.hb rfl) (Z (v:=bN d) (ld h4.hs rfl) (bD (c28 b hf o d hS'.le (Qs.2 ⟨c6,hS'.may⟩)) g95.ok (E _ h4))))
theorem RS.aaX(h:RS b s fu l ws eb qb τ)(d:Int):RS b s d l ws eb qb (τ.set 2 (.box [O d])):=by
 obtain⟨lv,he,f⟩:=h.he;have e3:=h.e3;exact h.Ss (Qa h.hs (by simp) (by decide)) (Zc _ (Yb h.hf)) (Qa he (by simp) (by omega)) (f.mono λc i k=>ZC _ h.hf k) (Kq.set 7 τ _ (by simp))
theorem RS.ed{l':List Ev}{τ':List U}{d:I}(h:RS b s fu l ws eb qb τ)(k:Kq [] 7 τ τ')(hl:LE l' d τ'):RS b s fu l' ws eb qb (τ'.set eb (.box [d])):=by
 obtain⟨lv,he,_⟩:=h.he;have e3:=h.e3;have f:=k.box he (by simp);exact h.Ss (Qa (k.box h.hs (by simp)) (by simp) (by omega)) (Qa (k.box h.hf (by simp)) (by simp) (by omega)) (Zc _ (Yb f)) (hl.mono λc i q=>ZC _ f q) ((k.more (by simp)).trans (Kq.set 7 τ' _ (by simp)))
theorem QbQ(s:St):0<=XA s/\XA s<=3:=by grind [XA]
def yM(eb:Nat)(again k58:n_)(K:KT)(d t27:I)(J:List U):Prop:=
 VV.rd (Xf false 1 [.ak 2 0] J) λt158=>VV.rd (Qn .sub false [t158,.int .i64 1] J) λt159=>VV.wr (Xh 1 [.ak 2 0,t159] J) J λ_ J=>
 VV.rd (Xf false 1 [.ak eb 0] J) λt160=>VV.rd (Qc 1 [t27] J) λt161=>VV.rd (Xf false 1 [t161] J) λt162=>VV.rd (Qc 0 [t27] J) λt163=>VV.rd (Xf false 1 [t163] J) λt164=>
 VV.rd (XJ bY [(0,1),(1,1),(2,1)] [.int .i8 14,t162,t164] J) λt165=>VV.wr (Yq 7 1 bY [(0,7)] [t165] J) J λt166 J=>VV.wr (Yh 7 72 [t160,t166] J) J λt167 J=>VV.wr (Xh 1 [.ak eb 0,t167] J) J λ_ J=>
 VV.rd (Qc 0 [.ak 0 0] J) λt168=>VV.rd (Xf false 1 [t168] J) λt169=>VV.rd (Qc 0 [t27] J) λt170=>VV.rd (Xf false 1 [t170] J) λt171=>VV.rd (Zi 12 [t169,t171] J) λt172=>
 VV.rd (Qc 9 [t172] J) λt173=>VV.rd (Xf false 1 [t173] J) λt174=>VV.rd (Qc 2 [t27] J) λt175=>VV.rd (Xf false 1 [t175] J) λt176=>
 c8 (λk153=>VV.test t176 (
  VV.rd (Qc 0 [.ak 0 0] J) λt177=>VV.rd (Xf false 1 [t177] J) λt178=>VV.rd (Qc 0 [t27] J) λt179=>VV.rd (Xf false 1 [t179] J) λt180=>VV.rd (Zi 12 [t178,t180] J) λt181=>
  VV.rd (Qc 10 [t181] J) λt182=>VV.rd (Xf false 1 [t182] J) λt183=>k153 [t183] J) (k153 [t174] J)) (λv154 J=>
 VV.rd (Xf true 3 [t27] J) λt185=>VV.call .gP [d,t185,h0 v154] J λt187 J=>VV.rd (Qn .eql false [t187,.int .i64 0] J) λt192=>VV.test t192 (again [] J) (
  VV.rd (Qn .eql false [t187,.int .i64 190] J) λt194=>VV.test t194 (k58 [.int .i8 3] J) (
   VV.rd (XJ aU [] [] J) λt189=>VV.wr (Xh 23 [.ak 3 0,t189] J) J λ_ J=>VV.opt (fz true 23 (.ak 3 0) J) λr167=>K (.bw [r167,.aq,.int .i64 0,t187]) J)))
theorem Ye6(hf:aN b=true)(w:Yg b.aj)(H:b.aj.length<=61)(c6:(bO b).1=0)(hS:cu b N C t)(hN:N+12000<=1000000)(hC:C+200<=1000000)(wh:1<=fu/\fu<=1000){d:Nat}
 (hR:RS b t fu l ws eb qb φ)(hl:l.length<=90000000){x:Tr}(hx:kX b x)(hxb:ai φ d=.box (eP x))(cC:qb<d){again k58:n_}{K:KT}
 (L:Xs b x.side (fu-1) (bG b x)=true->∀σ',K (.bw [.agg aU,.aq,O 0,O 2]) σ')
 (P:Xs b x.side (fu-1) (bG b x)=false->(runs b x.side (-1) (bG b x) t (fu-1)).1≠0->(runs b x.side (-1) (bG b x) t (fu-1)).1≠190->∀σ',K (.bw [.agg aU,.aq,O 0,O (runs b x.side (-1) (bG b x) t (fu-1)).1]) σ')
 (Q:Xs b x.side (fu-1) (bG b x)=false->(runs b x.side (-1) (bG b x) t (fu-1)).1=190->∀σ',RS b (runs b x.side (-1) (bG b x) t (fu-1)).2.1 (runs b x.side (-1) (bG b x) t (fu-1)).2.2.1 (l++[pJ x]++(runs b x.side (-1) (bG b x) t (fu-1)).2.2.2) ws eb qb σ'->k58 [aS 3] σ')
 (hGo:Xs b x.side (fu-1) (bG b x)=false->(runs b x.side (-1) (bG b x) t (fu-1)).1=0->∀σ',RS b (runs b x.side (-1) (bG b x) t (fu-1)).2.1 (runs b x.side (-1) (bG b x) t (fu-1)).2.2.1 (l++[pJ x]++(runs b x.side (-1) (bG b x) t (fu-1)).2.2.2) ws eb qb σ'->again [] σ') :
  yM eb again k58 K (.func (.func 94) [] [.ak 0 0,.ak 1 0,.ak 2 0,.ak eb 0]) (.ak d 0) φ:=by
 unfold yM;have e3:=hR.e3;have eq:=hR.eq;refine Z (v:=O fu) (ld hR.hf rfl) (Z (Bv ..) ?_);rw[Bb _ (by omega)];refine Qd (cO (row':=[O (fu-1)]) hR.hf rfl rfl rfl) (Ye _ (Yb hR.hf)) ?_;have h1:=hR.aaX (fu-1);have o:=Qa (x:=.box [O (fu-1)]) hxb (by simp) (show 2≠d by omega);generalize φ.set 2 (.box [O (fu-1)])=φ1 at *;clear hR hxb;obtain⟨lv,R,S⟩:=h1.he;refine Z (v:=lv) (ld R rfl) (Z rfl (Z (v:=O x.side) (ld o rfl) (Z rfl (Z (v:=O x.card) (ld o rfl) (Z (v:=.agg (c_ (pJ x) .aq)) rfl ?_)))));refine Qd (RB (e:=pJ x) (cv:=.aq) (.inr ⟨rfl,rfl⟩) φ1) (Qf φ1 _) ?_;have h2:=h1.app (.rows 7 [c_ (pJ x) .aq]);have T:=Zb [U.rows 7 [c_ (pJ x) .aq]] o;have V:=Xc φ1 (.rows 7 [c_ (pJ x) .aq]);have X:LE l lv (φ1++[U.rows 7 [c_ (pJ x) .aq]]):=S.mono (λc rs h=>Qu _ h);generalize φ1++[U.rows 7 [c_ (pJ x) .aq]]=φ2 at *;obtain⟨p,up,φ3,Y,a2,a3,a4,_⟩:=Tn X (Vd V) (m:=[pJ x]) (by simpa using eR.snoc [] [] (pJ x) .aq .nil (.inr ⟨rfl,rfl⟩)) (by simp;omega);refine Qd Y a2 ?_;obtain⟨lv2,e2,_⟩:=h2.he;have y:=a4.box e2 (by simp);have x3:=a4.box T (by simp);refine Qd (cO (row':=[p]) y a3.cells rfl rfl) (Ye _ (Yb y)) ?_;have h4:=h2.ed a4 a3;have i:=Qa (x:=.box [p]) x3 (by simp) (show eb≠d by omega);generalize φ3.set eb (.box [p])=φ4 at *;obtain⟨c,A,c1,c2⟩:=JG (b:=b) ⟨hx.1,hx.2.1⟩;have abw:=ZdT hf w (AI A);refine Z rfl (Z (v:=iX b.aj) (ld h4.hb rfl) (Z rfl (Z (v:=O x.card) (ld i rfl) ?_)));have j:=λ(J:List U)=>Zm J cM false false 12 b.aj .i64 c A;rw[<-c1]at j;have B:bG b x=if x.dw=true then b.aj[c].dw else b.aj[c].dead:=by unfold bG;rw[c2]
 generalize b.aj[c]=D at *;refine Z (j _) (Z rfl (Z (v:=gE D.dead) (bg rfl) (Z rfl (Z (v:=.bool x.dw) (ld i rfl) (Zj λk153 r=>?_)))));have fw:(l++[pJ x]).length<=100000000:=by simp;omega
 have body:k153 [gE (bG b x)] φ4:=by
  have E:bz (bG b x)=true/\(bR (bG b x)).length<=500000000:=by
   grind
  rw[r];clear r j;obtain⟨lv4,e4,l4⟩:=h4.he;refine Z (v:=.agg (eP x)) (ld i rfl) (Xe hP (f:=94) (ys:=[.agg (eP x),gE (bG b x),.ak 0 0,.ak 1 0,.ak 2 0,.ak eb 0]) rfl g94.ok rfl (w211 b hf w H c6 x (bG b x) E.1 E.2 hS hN hC h4.hb h4.hs h4.hf e4 l4 (by decide) (by omega) (by omega) fw (λhb σ' k=>?_) (λhb F G σ' k=>?_) (λhb hr σ' cW q1 q2 q3 q4 k=>?_)))
  ·have hr:=k.box h4.hr (by simp);refine Z (Xr ..) (Yf (Z (Xr ..) (Yf (Z (v:=.agg aU) rfl (Qd (cO (row':=aU) hr rfl rfl rfl) (Ye _ (Yb hr)) (Zp (Qr (Yb hr) rfl) ?_))))));exact L hb _
  ·have hr:=k.box h4.hr (by simp);refine Z (Xr ..) ?_;rw[i7 F];refine Yf (Z (Xr ..) ?_);rw[i7 G];refine Yf (Z (v:=.agg aU) rfl (Qd (cO (row':=aU) hr rfl rfl rfl) (Ye _ (Yb hr)) (Zp (Qr (Yb hr) rfl) ?_)));exact P hb F G _
  ·have h5:=h4.Ss q1 q2 q3 q4 k;refine Z (Xr ..) (Ya (λz=>?_) (λz=>?_))
   ·exact hGo hb (by simpa using z) _ h5
   ·have z:(runs b x.side (-1) (bG b x) t (fu-1)).1=190:=by
     simp_all
    refine Z (Xr ..) ?_;rw[gA z];exact Xg (Q hb z _ h5)
 clear r;refine Ya (λhd=>?_) (λhd=>?_)
 ·rw[aE hd]at B;rw[B]at body;refine Z rfl (Z (v:=iX b.aj) (ld h4.hb rfl) (Z rfl (Z (v:=O x.card) (ld i rfl) (Z (j _) (Z rfl (Z (v:=gE D.dw) (bg rfl) body))))))
 simp_all
theorem Yeh(cs:List Cd):∀(l pre:List Cd),(eA cs pre l).1=0->∀c∈l,eQ cs c=true
 |[],_,_,c,f=>absurd f (by simp)
 |d::l,pre,h,c,f=>by
  unfold eA at h;split at h
  ·cases h
  ·split at h
   ·rename_i h2;rcases Az.1 f with rfl|f
    ·exact h2
    ·exact Yeh cs l _ h c f
   ·cases h
theorem Te(h:(bO b).1=0):∀c∈b.aj,eQ b.aj c=true:=by
 unfold bO at h;split at h
 ·rename_i h1;exact absurd h h1
 ·rename_i h1;have h1:(dD b.aj).1=0:=by simpa using h1
  unfold dD at h1;split at h1
  ·cases h1
  ·exact Yeh _ _ _ h1
def eN:List Th->Nat
 |[]=>0
 |u::l=>(if 0<u.harm then 1 else 0)+eN l
def bB(s:St):Nat:=eN s.s0.af+eN s.s1.af
theorem PQ:∀l:List Th,eN l<=l.length
 |[]=>AO _
 |u::l=>by have:=PQ l;unfold eN;split<;>simp<;>omega
theorem Zcf:∀l m:List Th,eN (l++m)=eN l+eN m
 |[],m=>by simp[eN]
 |u::l,m=>by simp only[List.cons_append,eN,Zcf l m];omega
theorem TD:∀(l:List Th) (k:Nat) (u:Th),l[k]?=some u->eN (l.eraseIdx k)+(if 0<u.harm then 1 else 0)=eN l
 |[],k,u,h=>by simp at h
 |v::l,0,u,h=>by cases h;simp only[List.eraseIdx_zero,List.tail_cons,eN];omega
 |v::l,k+1,u,h=>by
  have:=TD l k u (by simpa using h);simp only[List.eraseIdx_cons_succ,eN];omega
theorem C_{k:Int}{d:Sd}(h:d.af=(s.side k).af):bB (s.put k d)=bB s:=by
 unfold bB St.put St.side at *;split<;>simp_all
theorem O3(m:List Int):∀(l:List Int) (s:St),bB (dJ s m l)=bB s
 |[],_=>rfl
 |i::l,s=>(O3 m l (ji m s i)).trans (C_ rfl)
theorem Qc4{k:Int}(e:(aT s k).2.2=0):bB (aT s k).1=bB s:=by
 unfold aT at e ⊢;split
 ·rename_i h;rw[h]at e;dsimp only at e;split at e
  ·rename_i q;rw[aE q];exact C_ rfl
  ·cases e
 ·split
  ·refine(C_ ?_).trans rfl;rfl
  ·exact C_ rfl
theorem Xbo(k:Int):∀(j:Nat) (s:St),bB (Zz k j s).2.1=bB s
 |0,_=>rfl
 |j+1,s=>by
  unfold Zz;split
  ·rename_i e;exact(Xbo k j _).trans (Qc4 e)
  ·rfl
theorem Xd9(b:Bk)(s:St)(sd tg op who:Int)(name:Tx)(n:Int)(hw:op=0\/op=1->who=0\/who=1):bB (kH b s sd tg op who name n).2.1=bB s:=by
 unfold kH;split
 ·rename_i j;have z:∀(x:Int),x≠0->(eG,mr,x).2.2=0->False:=λx o h=>o h;have p:(el s sd tg who).1=0:=by unfold el;rcases hw j with rfl|rfl<;>simp
  have key:∀d f i k,(gm d f i s 0 k).2.2=0->bB (gm d f i s 0 k).1=bB s:=by
   intro d f i k e;unfold gm at e ⊢;rw[aE rfl]at e ⊢;unfold kZ at e ⊢;split at e
   ·rename_i q;rw[aE q];exact C_ rfl
   ·exact(z _ (by decide) e).elim
  unfold gX;rw[p];split
  ·split
   ·rename_i e;unfold pk at e ⊢;split at e
    ·rename_i q;rw[aE q];exact key _ _ _ _ e
    ·rename_i q;rw[aB q];exact key _ _ _ _ e
   ·rfl
  ·rfl
 split
 ·unfold jP;split
  ·exact Xbo ..
  ·rfl
 split
 ·unfold eL;split
  ·rfl
  split
  ·rfl
  ·exact C_ rfl
 split
 ·unfold dt;split
  ·rfl
  ·exact(O3 ..).trans (C_ rfl)
 split
 ·unfold iy;split
  ·rfl
  ·exact O3 ..
 split
 ·exact O3 ..
 ·unfold wR;split
  ·rfl
  ·show bB (s.put sd { s.side sd with af:=(s.side sd).af++[⟨s.next,(gf 0 b.aj name).1,0,true⟩] })=_;unfold bB St.put St.side;split<;>simp[Zcf,eN]
mutual
theorem Zcl (b:Bk) (sd tg:Int):∀(x:Ef) (d:Int) (s:St) (fu:Int),qP b.aj false d x=true->bB (dN b sd tg x s fu).2.1=bB s
 |.mk op who n name c cL cV,d,s,fu,h=>by
  have h:(decide (0<=op) && (decide (op<=8) && (if op=8 then
   decide (who=0)&&(fF n&&(name==[]&&(jI b.aj false c&&((decide (cL.length<=16)&&(decide (d+1<=8)&&cR b.aj false (d+1) cL))&&(decide (cV.length<=16)&&(decide (d+1<=8)&&cR b.aj false (d+1) cV))))))
  else fO c && (decide (cL.length=0) && (decide (cV.length=0) && ((if cQ op then iF false n else fF n) && ((if op=7 then eK b.aj name true else name == []) && lE false op who)))))))=true:=h
  rw[AA,AA]at h
  have h:=h.2.2
  rw[dN]
  by_cases f:op=8
  ·rw[aE f]at h ⊢
   simp only[AA]at h
   obtain⟨_,_,_,_,⟨_,_,i⟩,_,_,a10⟩:=h
   split
   ·exact Iu b sd tg cL _ s fu i
   ·exact Iu b sd tg cV _ s fu a10
  ·rw[aB f]at h ⊢
   simp only[AA]at h
   split
   ·rfl
   ·refine Xd9 _ _ _ _ _ _ _ _ λj=>?_
    have h6:=h.2.2.2.2.2
    unfold lE sm at h6
    rw[aB (by omega),aE j]at h6
    simpa[nt]using h6
theorem Iu (b:Bk) (sd tg:Int):∀(l:List Ef) (d:Int) (s:St) (fu:Int),cR b.aj false d l=true->bB (runs b sd tg l s fu).2.1=bB s
 |[],d,s,fu,_=>by rw[runs]
 |x::l,d,s,fu,h=>by
  simp only[cR,AA]at h
  rw[runs]
  split
  ·exact(Iu b sd tg l d _ _ h.2).trans (Zcl b sd tg x d s fu h.1)
  ·exact Zcl b sd tg x d s fu h.1
end
theorem Va{b:Bk}(c6:(bO b).1=0){place:Int}:∀(l:List Th) (i:Int) (a:Int×Int),(∀u∈l,0<=u.card/\u.card<b.aj.length/\(((b.aj[u.card.toNat]?).map Cd.unit).getD false)=true)->0<=a.2->a.2+999*l.length<=1000000000 ->
  (if i<=place/\place<i+l.length then 1 else 0)+a.2<=(nL b place l i a).2
 |[],i,a,_,_,_=>by
  unfold nL;rw[aB (by simp;try omega)];omega
 |u::l,i,a,h,h0,x=>by
  obtain⟨y,z,j⟩:=h u (by simp);obtain⟨k,o,D,A⟩:=JG (b:=b) ⟨y,z⟩;have p:=Te c6 _ (AI o);have B:b.aj[k].unit=true:=by
   rw[show u.card.toNat=k by omega,Cv o]at j;simpa using j
  simp only[eQ,cw,i9,B,if_true,AA,fe]at p;obtain⟨_,_,_,E,_,_,F,G,_⟩:=p;simp only[A1]at x ⊢;unfold nL;rw[A];by_cases r:i=place
  ·rw[aE r];have w:AF.wrap (a.2+b.aj[k].cm)=a.2+b.aj[k].cm:=Bb _ (by omega);have:=Va c6 (place:=place) l (i+1) (AF.wrap (a.1+b.aj[k].e8),AF.wrap (a.2+b.aj[k].cm)) (λv d=>h v (by simp[d])) (by show 0<=AF.wrap (a.2+b.aj[k].cm);omega) (by show AF.wrap (a.2+b.aj[k].cm)+_<=_;omega);have f:((AF.wrap (a.1+b.aj[k].e8),AF.wrap (a.2+b.aj[k].cm)):Int×Int).2=a.2+b.aj[k].cm:=w;rw[f]at this;split<;>split at this<;>omega
  ·rw[aB r];have w:AF.wrap (a.2+b.aj[k].fh)=a.2+b.aj[k].fh:=Bb _ (by omega);have:=Va c6 (place:=place) l (i+1) (AF.wrap (a.1+b.aj[k].f_),AF.wrap (a.2+b.aj[k].fh)) (λv d=>h v (by simp[d])) (by show 0<=AF.wrap (a.2+b.aj[k].fh);omega) (by show AF.wrap (a.2+b.aj[k].fh)+_<=_;omega);have f:((AF.wrap (a.1+b.aj[k].f_),AF.wrap (a.2+b.aj[k].fh)):Int×Int).2=a.2+b.aj[k].fh:=w;rw[f]at this;split<;>split at this<;>omega
theorem UT{b:Bk}(c6:(bO b).1=0)(all:List Th)(fq:∀u∈all,0<=u.card/\u.card<b.aj.length/\(((b.aj[u.card.toNat]?).map Cd.unit).getD false)=true)(hl:all.length<=7):∀(l:List Th) (i:Int),0<=i->i+l.length<=all.length->∀id∈ZU b all l i,∃u∈l,u.id=id/\0<u.harm
 |[],i,_,_,id,h=>by simp[ZU]at h
 |u::l,i,h0,h1,id,h=>by
  simp only[A1]at h1;have f:=UT c6 all fq hl l (i+1) (by omega) (by omega) id;have d:=Va c6 (place:=i) all 0 (0,0) fq (FW 0) (by show (0:Int)+999*_<=_;omega);rw[aE ⟨h0,by omega⟩]at d;have d:1+0<=(pr b all i).2:=d;unfold ZU at h;split at h
  ·rename_i q;rcases Az.1 h with h|h
   ·exact⟨u,by simp,h.symm,by omega⟩
   ·obtain⟨v,h2,h3⟩:=f h;exact⟨v,by simp[h2],h3⟩
  ·obtain⟨v,h2,h3⟩:=f h;exact⟨v,by simp[h2],h3⟩
theorem Qdo(c6:(bO b).1=0)(hM:cc b s):∀id∈bc b s,∃u∈s.s0.af++s.s1.af,u.id=id/\0<u.harm:=by
 have hu:∀u∈s.s0.af++s.s1.af,0<=u.card/\u.card<b.aj.length/\(((b.aj[u.card.toNat]?).map Cd.unit).getD false)=true:=by
  intro u h;have:=hM.un.1 u h;simp only[Qv,AA,fe]at this;exact⟨this.1,this.2.1,this.2.2.1⟩
 have k0:=UT c6 s.s0.af (λu h=>hu u (by simp[h])) hM.s0.af s.s0.af 0 (FW 0) (by omega);have k1:=UT c6 s.s1.af (λu h=>hu u (by simp[h])) hM.s1.af s.s1.af 0 (FW 0) (by omega);intro id h;unfold bc at h;have h:id∈ZU b s.s0.af s.s0.af 0\/id∈ZU b s.s1.af s.s1.af 0:=by
  split at h<;>(rcases Bd.1 h with h|h)<;>simp_all [uI]
 rcases h with h|h
 ·obtain⟨u,d,f⟩:=k0 id h;exact⟨u,by simp[d],f⟩
 ·obtain⟨u,d,f⟩:=k1 id h;exact⟨u,by simp[d],f⟩
theorem YbK{l:List Th}{k:Nat}{u v:Th}(hk:l[k]?=some u)(hv:v∈l)(cC:v.id≠u.id):v∈l.eraseIdx k:=by
 obtain⟨i,d,rfl⟩:=FA hv;rw[List.mem_eraseIdx_iff_getElem?];refine⟨i,?_,Cv d⟩;rintro rfl;rw[Cv d]at hk;cases hk;exact cC rfl
theorem Zb8{id:Int}(hn:((s.s0.af++s.s1.af).map Th.id).Nodup){u:Th}(hu:u∈s.s0.af++s.s1.af)(hi:u.id=id)(hh:0<u.harm) :
  bB (Yp s id).1+1=bB s/\(((Yp s id).1.s0.af++(Yp s id).1.s1.af).map Th.id).Nodup/\∀v∈s.s0.af++s.s1.af,v.id≠id->v∈(Yp s id).1.s0.af++(Yp s id).1.s1.af:=by
 have same:∀w∈s.s0.af++s.s1.af,w.id=id->w=u:=by
  intro w f e;obtain⟨i,h1,rfl⟩:=FA f;obtain⟨j,h2,rfl⟩:=FA hu;have:=(List.getElem_inj (h₀:=by simpa using h1) (h₁:=by simpa using h2) hn).1 (show ((s.s0.af++s.s1.af).map Th.id)[i]'(by simpa using h1)=((s.s0.af++s.s1.af).map Th.id)[j]'(by simpa using h2) by simp only[List.getElem_map];rw[e,hi]);subst this;rfl
 unfold Yp;cases r:gk s.s0.af id with
 |some k=>
  obtain⟨w,f,e⟩:=ZO r;have hm:w∈s.s0.af:=Au f;have o:=same w (by simp[hm]) e;subst o;have h1:=TD _ k w f;rw[aE hh]at h1;refine⟨by show eN (s.s0.af.eraseIdx k)+eN s.s1.af+1=eN s.s0.af+eN s.s1.af;omega,?_,λv d p=>?_⟩
  ·exact hn.sublist (((F7 _ _).append (EE _)).map _)
  ·rcases Bd.1 d with d|d
   ·exact DS _ (YbK f d (by rw[e];exact p))
   ·exact DO _ d
 |none=>
  simp only;cases x:gk s.s1.af id with
  |some k=>
   obtain⟨w,f,e⟩:=ZO x;have hm:w∈s.s1.af:=Au f;have o:=same w (by simp[hm]) e;subst o;have h1:=TD _ k w f;rw[aE hh]at h1;refine⟨by show eN s.s0.af+eN (s.s1.af.eraseIdx k)+1=eN s.s0.af+eN s.s1.af;omega,?_,λv d p=>?_⟩
   ·exact hn.sublist (((EE _).append (F7 _ _)).map _)
   ·rcases Bd.1 d with d|d
    ·exact DS _ d
    ·exact DO _ (YbK f d (by rw[e];exact p))
  |none=>
   have n0:=Ub r;have n1:=Ub x;rcases Bd.1 hu with h|h
   ·exact absurd (By.2 ⟨u,h,hi⟩) n0
   ·exact absurd (By.2 ⟨u,h,hi⟩) n1
theorem Ybl:∀(ids:List Int) (s:St),ids.Nodup->((s.s0.af++s.s1.af).map Th.id).Nodup->(∀id∈ids,∃u∈s.s0.af++s.s1.af,u.id=id/\0<u.harm)->bB (Qq ids s).1+ids.length=bB s
 |[],s,_,_,_=>by simp[Qq]
 |id::ids,s,hd,f,h=>by
  rw[EX]at hd;obtain⟨u,i,j,o⟩:=h id (by simp);obtain⟨y,p,r⟩:=Zb8 f i j o;have:=Ybl ids (Yp s id).1 hd.2 p λw d=>by
   obtain⟨v,x,hvi,hvh⟩:=h w (by simp[d]);exact⟨v,r v x (by rintro e;rw[hvi]at e;subst e;exact hd.1 d),hvi,hvh⟩
  rw[Qq,A1];show bB (Qq ids (Yp s id).1).1+_=_;omega
theorem O4{b:Bk}(c6:(bO b).1=0){N C:Nat}(hC:C+14<=1000000):∀(n:Nat) (s:St) (ws:List Tr) (l:List Ev),cu b N C s->bB (quiet b n s ws l).1+(quiet b n s ws l).2.1.length<=bB s+ws.length
 |0,s,ws,l,_=>AO _
 |n+1,s,ws,l,h=>by
  unfold quiet;split
  ·exact AO _
  ·have h1:=O4 c6 hC n _ (ws++gu b s (bc b s)) (l++(Qq (bc b s) s).2) (h.vp hC);have h2:=Ybl (bc b s) s (QY h.may).1 h.may.un.2 (Qdo c6 h.may);have h3:=JD b s (bc b s);rw[AT]at h1;omega
theorem Pg(hM:cc b s):bB s<=14:=by
 have h0:=hM.s0.af;have h1:=hM.s1.af;have:=PQ s.s0.af;have:=PQ s.s1.af;unfold bB;omega
theorem S0(c6:(bO b).1=0){x:Tr}(hx:kX b x):cR b.aj false 1 (bG b x)=true:=by
 obtain⟨c,d,_,e⟩:=JG (b:=b) ⟨hx.1,hx.2.1⟩;have k:=Te c6 _ (AI d);simp only[eQ,b_,AA]at k;obtain⟨_,_,_,_,_,_,_,_,_,_,⟨_,_,hd⟩,_,_,f⟩:=k;unfold bG;rw[e];split
 ·exact f
 ·exact hd
end Go.Ah.Tz
end
