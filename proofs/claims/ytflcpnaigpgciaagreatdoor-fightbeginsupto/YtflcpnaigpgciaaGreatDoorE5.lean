/- Part of the proof that FightBegins holds of the program for arguments that together hold at most 1048576 values and letters; no other condition. -/
import Derived.Test.YtflcpnaigpgciaaGreatDoorE4
import Derived.Test.YtflcpnaigpgciaaGreatDoorRows
import Derived.Test.YtflcpnaigpgciaaGreatDoorCards
import Derived.Test.YtflcpnaigpgciaaGreatDoorTie
import Derived.ProofKit
import Derived.OpenShut
import Derived.Carry
import Derived.SevenTiedAt
import Derived.JoinedCond
import Derived.LaidMore
import Derived.SizedLaws
import Derived.Stop.LaidErr
import Derived.Deep.DeepHandedRow
import Derived.Deep.DeepWitnessRowRef
import Derived.Lib.LaidTab
import Derived.Sort.OwnSortedInts
import Derived.Shelf.Sort.Plain
import Derived.Test.YtflcpnaigpgciaaGreatDoorChecked
import Derived.Shelf.Slices.In.SortNone
set_option linter.all false
section
namespace Go.Ah.Tz
open Go.Proofs.Tryz (prog)
attribute [local irreducible] Ans.rd Ans.pu Ans.wr Ans.dr Ans.gr Ans.gw Ans.gl Ans.gd Ans.opt joinK W
set_option maxHeartbeats 1000000
theorem c254':∀(k:Nat) (x:Cn),SizeOf.sizeOf x≤k→cnFit x=true→PC 254 [.agg (cnC x)] (iv8 (cnL x))
 |0,x,h,_=>by cases x; simp at h
 |k+1,x,hk,hf=>by
  rw[QF];refine Qd hP g254_ok rfl rfl ?_;unfold g254;refine Zf rfl rfl ?_;rw[Qcn];have hl1:=YI hf;have hl2:=ZI hf;rw[bigE] at hl1 hl2;generalize hB:([]++[ABlk.box [iv8 x.op,iv8 x.who,.str x.name,.rsl false false 4 (x.nums.map nmC),.rsl false false 5 (x.kids.map cnC)]]:List ABlk)=base;have hB0:hget base 0=.box [iv8 x.op,iv8 x.who,.str x.name,.rsl false false 4 (x.nums.map nmC),.rsl false false 5 (x.kids.map cnC)]:=by rw[←hB]; rfl
  clear hB;refine Ya rfl (Ya (ld hB0 rfl) (Ya (Xf ..) ?_));refine Yc (λh=>?_) (λh=>?_)
  ·rw[if_pos (by simpa using h)];refine Ya rfl (Ya (ld hB0 rfl) (Ya (Xf ..) ?_));refine Yc (λh=>?_) (λh=>?_)
   ·rw[if_pos (by simpa using h)]
   rw[if_neg (by simpa using h)];refine Ya (Xf ..) ?_;refine Yc (λh=>?_) (λh=>?_)
   ·rw[if_pos (by simpa using h)]
   ·rw[if_neg (by simpa using h)]
  rw[if_neg (by simpa using h)];refine Ya rfl (Ya (ld hB0 rfl) (Ya rfl ?_));refine Yj (ι:=Nat) (λi vs σ=>∃n,vs=[iv i,iv8 n]∧hget σ 0=.box [iv8 x.op,iv8 x.who,.str x.name,.rsl false false 4 (x.nums.map nmC),.rsl false false 5 (x.kids.map cnC)]∧i≤x.nums.length∧nmLs 0 x.nums=nmLs n (x.nums.drop i)) (λi=>x.nums.length-i) 0 ⟨0,rfl,hB0,by omega,by simp⟩ ?_;rintro i vs σ again ⟨n,rfl,hB0,hi,hu⟩ hag;refine Ya rfl ?_;refine Yc (λh=>?_) (λh=>?_)
  ·have h:i<x.nums.length:=by simpa using h
   have hdr:x.nums.drop i=x.nums[i]::x.nums.drop (i+1):=by rw[YLD h]
   rw[hdr,nmLs] at hu;have hm:x.nums[i]∈x.nums:=List.getElem_mem h;have hix:=λ(s:List ABlk)=>Yo s nmC false false 4 x.nums .i64 i h;have hfk:=QQ hf hm;generalize x.nums[i]=y at hu hix hfk;refine Ya (hix _) (Ya (ldr (nmLd _)) ?_);refine Xx (row:=[iv8 y.op,iv y.n,iv8 y.who,.rsl false false 4 (y.kids.map nmC)]) (row':=[iv8 y.op,iv y.n,iv8 y.who,.rsl false false 4 (y.kids.map nmC)]) (by rw[Yx]; rfl) rfl rfl ?_;have hB1:=Zm σ (ABlk.box [iv8 y.op,iv y.n,iv8 y.who,.rsl false false 4 (y.kids.map nmC)]);have hN:Zd true 4 [.bptr σ.length 0] (σ++[ABlk.box [iv8 y.op,iv y.n,iv8 y.who,.rsl false false 4 (y.kids.map nmC)]])=.ok (.agg (nmC y)) [σ.length] []:=ld hB1 (by rw[Yx]; rfl);refine Ya hN ?_;refine Yd (c251 y hfk) rfl g251_ok.plain (nmRo _) ?_;refine Yd (c250 _ _) rfl g250_ok.plain rfl ?_;refine Ya (Yk ..) ?_;rw[Qf (n:=i) (by omega)];exact hag (i+1) _ _ (by omega) ⟨_,rfl,Zn _ hB0 (by simp),by omega,hu⟩
  have h:i=x.nums.length:=by simp at h; omega
  subst h;rw[List.drop_length,nmLs] at hu;rw[hu];clear hag hu hi;refine Ya rfl (Ya (ld hB0 rfl) (Ya rfl ?_));refine Yj (ι:=Nat) (λi vs s=>∃m,vs=[iv i,iv8 m]∧i≤x.kids.length∧cnLs n x.kids=cnLs m (x.kids.drop i)) (λi=>x.kids.length-i) 0 ⟨n,rfl,by omega,by simp⟩ ?_;rintro i vs s again ⟨m,rfl,hi,hu⟩ hag;refine Ya rfl ?_;refine Yc (λh=>?_) (λh=>?_)
  ·have h:i<x.kids.length:=by simpa using h
   have hdr:x.kids.drop i=x.kids[i]::x.kids.drop (i+1):=by rw[YLD h]
   rw[hdr,cnLs] at hu;have hm:x.kids[i]∈x.kids:=List.getElem_mem h;have hix:=λ(s:List ABlk)=>Yo s cnC false false 5 x.kids .i64 i h;have hfk:=XQ hf hm;have hsz:=Xac hm;generalize x.kids[i]=y at hu hix hfk hsz;refine Ya (hix _) (Ya (ldr (cnLd _)) ?_);refine Xx (row:=[iv8 y.op,iv8 y.who,.str y.name,.rsl false false 4 (y.nums.map nmC),.rsl false false 5 (y.kids.map cnC)]) (row':=[iv8 y.op,iv8 y.who,.str y.name,.rsl false false 4 (y.nums.map nmC),.rsl false false 5 (y.kids.map cnC)]) (by rw[QF]; rfl) rfl rfl ?_;have hB1:=Zm s (ABlk.box [iv8 y.op,iv8 y.who,.str y.name,.rsl false false 4 (y.nums.map nmC),.rsl false false 5 (y.kids.map cnC)]);have hN:Zd true 5 [.bptr s.length 0] (s++[ABlk.box [iv8 y.op,iv8 y.who,.str y.name,.rsl false false 4 (y.nums.map nmC),.rsl false false 5 (y.kids.map cnC)]])=.ok (.agg (cnC y)) [s.length] []:=ld hB1 (by rw[QF]; rfl);refine Ya hN ?_;refine Yd (c254' k y (by omega) hfk) rfl g254_ok.plain (cnRo _) ?_;refine Yd (c250 _ _) rfl g250_ok.plain rfl ?_;refine Ya (Yk ..) ?_;rw[Qf (n:=i) (by omega)];exact hag (i+1) _ _ (by omega) ⟨_,rfl,by omega,hu⟩
  ·have h:i=x.kids.length:=by simp at h; omega
   subst h;rw[List.drop_length,cnLs] at hu;rw[hu]; rfl
theorem c254(x:Cn)(hf:cnFit x=true):PC 254 [.agg (cnC x)] (iv8 (cnL x)):=c254' _ x (Nat.le_refl _) hf
end Go.Ah.Tz
end
section
namespace Go.Ah.Tz
open Go.Proofs.Tryz (prog)
attribute [local irreducible] Ans.rd Ans.pu Ans.wr Ans.dr Ans.gr Ans.gw Ans.gl Ans.gd Ans.opt joinK W
theorem efRo(u:Int)(x:Ef):roL [.agg [iv8 u],.agg (efC x)]=true:=by rw[ZG]; rfl
theorem c235(u:Int)(x:Ef)(hf:efFit x=true):PC 235 [.agg [iv8 u],.agg (efC x)] (.bool (decide (joinL u (nmL x.n)=0))):=by
 rw[ZG];refine Qd hP g235_ok rfl rfl ?_;unfold g235;refine Zf rfl rfl (Zf rfl rfl (Yi rfl (Xi rfl rfl (Yi rfl (Xi (ld (v:=.agg (nmC x.n)) rfl (by rw[Yx]; rfl)) rfl ?_)))));refine Qj (c251 _ (Z0 hf)) rfl g251_ok.plain (nmRo _) ?_;refine Qj (c250 _ _) rfl g250_ok.plain rfl ?_;exact Yi (Xf ..) (QN (by kernel_rfl) rfl)
theorem c236(u:Int)(x:Ef):PC 236 [.agg [iv8 u],.agg (efC x)] (.bool (decide (lbN u=0))):=by
 rw[ZG];refine Qd hP g236_ok rfl rfl ?_;unfold g236;refine Zf rfl rfl (Zf rfl rfl (Ya rfl (Ya rfl ?_)));refine Yd (c252 _) rfl g252_ok.plain rfl ?_;exact Ya (Xf ..) rfl
theorem c237(u:Int)(x:Ef)(hf:efFit x=true):PC 237 [.agg [iv8 u],.agg (efC x)] (.bool (XaL (joinL u (nmL x.n)) 1)):=by
 rw[ZG];refine Qd hP g237_ok rfl rfl ?_;unfold g237;refine Zf rfl rfl (Zf rfl rfl (Yi rfl (Xi rfl rfl (Yi rfl (Xi (ld (v:=.agg (nmC x.n)) rfl (by rw[Yx]; rfl)) rfl ?_)))));refine Qj (c251 _ (Z0 hf)) rfl g251_ok.plain (nmRo _) ?_;refine Qj (c250 _ _) rfl g250_ok.plain rfl ?_;refine Qj (c253 _ _) rfl g253_ok.plain rfl ?_;refine QN (by kernel_rfl) ?_;rw[XaL,YaM]
end Go.Ah.Tz
end
section
namespace Go.Ah.Tz
open Go.Proofs.Tryz (prog)
theorem YD{σ:List ABlk}(l:List ABlk){c:Nat}(h:c<σ.length):hget (σ++l) c=hget σ c:=by
 have h1:=XaC h;exact QJ (by rw[List.getElem?_append_left h]; exact h1)
theorem Xk{σ:List ABlk}{b c:Nat}(x:ABlk)(h:c<σ.length)(hc:c≠b):hget (σ.set b x) c=hget σ c:=by
 have h1:=XaC h;exact QJ (by rw[List.getElem?_set_ne (λe=>hc e.symm)]; exact h1)
def Gr(σ0:List ABlk)(n:Nat)(rows:List (List AVal))(k:Nat)(v:AVal)(σ:List ABlk):Prop:=
 σ0.length≤σ.length∧(∀c,c<σ0.length→hget σ c=hget σ0 c)∧((k=0∧v=.nils∧rows=[])∨(0<k∧∃b,σ0.length≤b∧v=.sl b 0 k false∧hget σ b=.rows n rows∧rows.length=k))
theorem Gr.nil(n:Nat)(σ:List ABlk):Gr σ n [] 0 .nils σ:=⟨Nat.le_refl _,λ_ _=>rfl,.inl ⟨rfl,rfl,rfl⟩⟩
theorem Gr.grows{σ0 σ:List ABlk}{n k:Nat}{rows:List (List AVal)}{v:AVal}(h:Gr σ0 n rows k v σ):Grows n rows k v σ:=by
 rcases h.2.2 with h|⟨h1,b,_,h2,h3,h4⟩
 ·exact .inl h
 ·exact .inr ⟨h1,b,h2,h3,h4⟩
theorem Gr.old{σ0 σ:List ABlk}{n k:Nat}{rows:List (List AVal)}{v:AVal}(h:Gr σ0 n rows k v σ){c:Nat}{x:ABlk}(hx:hget σ0 c=x)(hd:x≠.dead):hget σ c=x:=by
 rw[h.2.1 c (Zo hx hd)]; exact hx
theorem Gr.base{σ0 σ:List ABlk}{l:List ABlk}{n k:Nat}{rows:List (List AVal)}{v:AVal}(h:Gr (σ0++l) n rows k v σ):Gr σ0 n rows k v σ:=by
 obtain⟨h1,h2,h3⟩:=h;simp only[List.length_append] at h1 h2 h3;refine⟨by omega,λc hc=>?_,?_⟩
 ·rw[h2 c (by omega),YD l hc]
 ·rcases h3 with h3|⟨q1,b,q2,q3⟩
  ·exact .inl h3
  ·exact .inr ⟨q1,b,by omega,q3⟩
theorem Gr.put{σ0 σ:List ABlk}{n by_ k:Nat}{rows:List (List AVal)}{v:AVal}{z cs:List AVal}{x:AVal}(hg:Gr σ0 n rows k v σ)(hx:fill z [(0,n)] [x]=some cs)(hc:chunk n 1 cs=some [cs])(hr:cs.all AVal.cell=true)(hroom:(2*(k+1)+192)*by_≤2 ^ 48){K:AVal→List ABlk→Prop}
 (hK:∀v' σ',Gr σ0 n (rows++[cs]) (k+1) v' σ'→K v' σ'):VV.wr (Qh n 1 z [(0,n)] [x] σ) σ (λt σ=>VV.wr (Zi n by_ [v,t] σ) σ K):=by
 rw[Q3 _ _ _ _ _ cs hx hc];obtain⟨g1,g2,hg⟩:=hg;rcases hg with ⟨rfl,rfl,rfl⟩|⟨hk,b,hb0,rfl,hb,hl⟩
 ·rw[YaQ _ n by_ σ cs hr (by simpa using hroom)];refine hK _ _ ⟨by simp; omega,λc hc=>?_,.inr ⟨by omega,_,?_,rfl,by have:=Zm (σ++[.rows n [cs]]) (.rows n [cs]); simpa using this,rfl⟩⟩
  ·rw[YD _ (by simp; omega),YD _ (by omega),g2 c hc]
  ·omega
 ·rw[Ybc _ n by_ σ b k false rows cs hb hl hr hroom];refine hK _ _ ⟨by simp; omega,λc hc=>?_,.inr ⟨by omega,_,?_,rfl,?_,by simp[hl]⟩⟩
  ·rw[YD _ (by simp; omega),YD _ (by simp; omega),Xk _ (by omega) (by omega),g2 c hc]
  ·omega
  ·have:=Zm (σ.set b .dead++[.rows n [cs]]) (.rows n (rows++[cs]));simpa using this
inductive Pt where
 |ef (x:Ef)
 |nm (x:Nm)
 |cn (x:Cn)
inductive PtV:AVal→Pt→Prop
 |ef (x:Ef):PtV (.iface 272 (.agg [.rptr (efC x) 0])) (.ef x)
 |nm (row:List AVal) (j:Nat) (x:Nm):NmAt row j x→PtV (.iface 290 (.agg [.rptr row j])) (.nm x)
 |cn (row:List AVal) (j:Nat) (x:Cn):CnAt row j x→PtV (.iface 292 (.agg [.rptr row j])) (.cn x)
def Pt.kids:Pt→List Pt
 |.ef x=>(if cntOp x.op then [.nm x.n] else [])++(if x.op=8 then .cn x.c::(x.thn.map .ef++x.els.map .ef) else [])
 |.nm x=>x.kids.map .nm
 |.cn x=>x.nums.map .nm++x.kids.map .cn
def Pt.fit:Pt→Bool
 |.ef x=>efFit x
 |.nm x=>nmFit x
 |.cn x=>cnFit x
mutual
def nmP:Nm→List Pt
 |.mk op n who kids=>.nm (.mk op n who kids)::nmPs kids
def nmPs:List Nm→List Pt
 |[]=>[]
 |x::l=>nmP x++nmPs l
end
mutual
def cnP:Cn→List Pt
 |.mk op who name nums kids=>.cn (.mk op who name nums kids)::(nmPs nums++cnPs kids)
def cnPs:List Cn→List Pt
 |[]=>[]
 |x::l=>cnP x++cnPs l
end
mutual
def efP:Ef→List Pt
 |.mk op who n name c thn els=>.ef (.mk op who n name c thn els)::((if cntOp op then nmP n else [])++(if op=8 then cnP c++(efPs thn++efPs els) else []))
def efPs:List Ef→List Pt
 |[]=>[]
 |x::l=>efP x++efPs l
end
def flat:Pt→List Pt
 |.ef x=>efP x
 |.nm x=>nmP x
 |.cn x=>cnP x
def flats:List Pt→List Pt
 |[]=>[]
 |p::l=>flat p++flats l
theorem ZV:∀a b,flats (a++b)=flats a++flats b
 |[],b=>rfl
 |p::a,b=>by simp[flats,ZV a b]
theorem QaS:∀l,flats (l.map .nm)=nmPs l
 |[]=>rfl
 |x::l=>by simp[flats,QaS l,flat,nmPs]
theorem Qbt:∀l,flats (l.map .cn)=cnPs l
 |[]=>rfl
 |x::l=>by simp[flats,Qbt l,flat,cnPs]
theorem Yah:∀l,flats (l.map .ef)=efPs l
 |[]=>rfl
 |x::l=>by simp[flats,Yah l,flat,efPs]
theorem ZbX(p:Pt):flat p=p::flats p.kids:=by
 cases p with
 |ef x=>
  obtain⟨op,who,n,name,c,thn,els⟩:=x;have e:Pt.kids (.ef (.mk op who n name c thn els))=(if cntOp op then [.nm n] else [])++(if op=8 then .cn c::(thn.map .ef++els.map .ef) else []):=rfl;rw[e,ZV];simp only[flat,efP]
  congr 2
  ·by_cases h:cntOp op=true<;>simp[h,flats,flat]
  ·by_cases h:op=8<;>simp[h,flats,flat,ZV,Yah]
 |nm x=>cases x; simp[flat,nmP,Pt.kids,Nm.kids,QaS]
 |cn x=>cases x; simp[flat,cnP,Pt.kids,Cn.nums,Cn.kids,ZV,QaS,Qbt]
theorem Xbt(p:Pt):0<(flat p).length:=by rw[ZbX]; simp
theorem QaB:∀ {l:List Pt} {p:Pt},p∈l→(flat p).length≤(flats l).length
 |q::l,p,h=>by
  simp only[flats,List.length_append];rcases List.mem_cons.1 h with rfl|h
  ·omega
  ·have:=QaB h; omega
theorem XaB:∀l:List Pt,l.length≤(flats l).length
 |[]=>by simp
 |p::l=>by
  have:=XaB l;have:=Xbt p;simp[flats]; omega
theorem Qcx{p q:Pt}(h:p.fit=true)(hq:q∈p.kids):q.fit=true:=by
 cases p with
 |ef x=>
  simp only[Pt.kids,List.mem_append] at hq;rcases hq with hq|hq
  ·split at hq
   ·simp at hq; subst hq; exact Z0 h
   ·simp at hq
  ·split at hq
   ·simp only[List.mem_cons,List.mem_append,List.mem_map] at hq;rcases hq with rfl|⟨y,hy,rfl⟩|⟨y,hy,rfl⟩
    ·exact ZX h
    ·exact QK (QG h) hy
    ·exact QK (XG h) hy
   ·simp at hq
 |nm x=>
  simp only[Pt.kids,List.mem_map] at hq;obtain⟨y,hy,rfl⟩:=hq;exact ZS h hy
 |cn x=>
  simp only[Pt.kids,List.mem_append,List.mem_map] at hq;rcases hq with ⟨y,hy,rfl⟩|⟨y,hy,rfl⟩
  ·exact QQ h hy
  ·exact XQ h hy
def runL{S:Type}(step:S→Pt→S×Bool):S→List Pt→S×Bool
 |s,[]=>(s,true)
 |s,p::l=>if (step s p).2=true then runL step (step s p).1 l else ((step s p).1,false)
theorem Z2{S:Type}(step:S→Pt→S×Bool):∀(a:List Pt) (s:S) (b:List Pt),runL step s (a++b)=if (runL step s a).2=true then runL step (runL step s a).1 b else ((runL step s a).1,false)
 |[],s,b=>by simp[runL]
 |p::a,s,b=>by
  simp only[List.cons_append,runL];by_cases h:(step s p).2=true
  ·simp only[if_pos h]; exact Z2 step a _ b
  ·simp[if_neg h]
def Bt(b:Nat)(σ σ':List ABlk):Prop:=σ.length≤σ'.length∧∀c,c<σ.length→c≠b→hget σ' c=hget σ c
theorem Bt.refl(b:Nat)(σ:List ABlk):Bt b σ σ:=⟨Nat.le_refl _,λ_ _ _=>rfl⟩
theorem Bt.trans{b:Nat}{x y z:List ABlk}(h:Bt b x y)(k:Bt b y z):Bt b x z:=⟨Nat.le_trans h.1 k.1,λc hc hb=>by rw[k.2 c (by have:=h.1; omega) hb,h.2 c hc hb]⟩
theorem Bt.old{b:Nat}{σ σ':List ABlk}(h:Bt b σ σ'){c:Nat}{x:ABlk}(hx:hget σ c=x)(hd:x≠.dead)(hc:c≠b):hget σ' c=x:=by
 rw[h.2 c (Zo hx hd) hc]; exact hx
theorem Bt.gr{σ σ':List ABlk}(b:Nat)(h1:σ.length≤σ'.length)(h:∀c,c<σ.length→hget σ' c=hget σ c):Bt b σ σ':=⟨h1,λc hc _=>h c hc⟩
def Clo{S:Type}(clo:AVal)(b:Nat)(enc:S→List AVal)(step:S→Pt→S×Bool):Prop:=
 ∀p v,PtV v p→∀s σ K,hget σ b=.box (enc s)→(∀σ',Bt b σ σ'→hget σ' b=.box (enc (step s p).1)→K (.bool (step s p).2) σ')→VV.call .callv [clo,v] σ K
inductive PtL:List AVal→List Pt→Prop
 |nil:PtL [] []
 |snoc (vs:List AVal) (ps:List Pt) (v:AVal) (p:Pt):PtL vs ps→PtV v p→PtL (vs++[v]) (ps++[p])
theorem PtL.length{vs:List AVal}{ps:List Pt}(h:PtL vs ps):vs.length=ps.length:=by
 induction h with
 |nil=>rfl
 |snoc vs ps v p h hv ih=>simp[ih]
theorem PtL.get{vs:List AVal}{ps:List Pt}(h:PtL vs ps):∀i (h1:i<vs.length) (h2:i<ps.length),PtV vs[i] ps[i]:=by
 induction h with
 |nil=>intro i h; simp at h
 |snoc vs ps v p h hv ih=>
  intro i h1 h2;have hl:=h.length;simp only[List.length_append,List.length_singleton] at h1 h2;by_cases hi:i<vs.length
  ·rw[List.getElem_append_left hi,List.getElem_append_left (by omega)]; exact ih i hi (by omega)
  ·have e1:i=vs.length:=by omega
   subst e1;have:ps[vs.length]?=none:=by rw[List.getElem?_eq_none (by omega)]
   simp[hl,hv]
def one(v:AVal):List AVal:=[v]
end Go.Ah.Tz
end
section
namespace Go.Ah.Tz
open Go.Proofs.Tryz (prog)
attribute [local irreducible] Ans.rd Ans.pu Ans.wr Ans.dr Ans.gr Ans.gw Ans.gl Ans.gd Ans.opt joinK W
set_option maxHeartbeats 2000000
def efPt(x:Ef):List AVal:=[.iface 272 (.agg [.rptr (efC x) 0])]
def nmPt(x:Nm):List AVal:=[.iface 290 (.agg [.rptr (nmC x) 0])]
def cnPt(x:Cn):List AVal:=[.iface 292 (.agg [.rptr (cnC x) 0])]
theorem ZcJ{σ0 σ:List ABlk}{k:Nat}{rows:List (List AVal)}{v:AVal}(l:List Ef)(hl:k+l.length≤1000000000)(hg:Gr σ0 1 rows k v σ){K:List AVal→List ABlk→Prop}
 (hK:∀v' σ' w,Gr σ0 1 (rows++l.map efPt) (k+l.length) v' σ'→K [w,v'] σ') :
  VV.loop (λag v55 σ=>VV.rd (Xh .lss false [(h0 v55),iv l.length] σ) λt72_56=>VV.test t72_56 (
   VV.rd (Xb 14 [efV l,(h0 v55)] σ) λt77_57=>VV.rd (Yf [.nilp] [(0,1)] [t77_57] σ) λt78_58=>VV.rd (Yz 272 [t78_58] σ) λt79_59=>
   VV.wr (Qh 1 1 [.nili] [(0,1)] [t79_59] σ) σ λt80_60 σ=>VV.wr (Zi 1 16 [(h1 v55),t80_60] σ) σ λt81_61 σ=>
   VV.rd (Xh .add false [(h0 v55),(.int .i64 1)] σ) λt82_62=>ag [t82_62,t81_61] σ) (K v55 σ)) [(.int .i64 0),v] σ:=by
 refine Yj (ι:=Nat) (λi vs s=>∃v,vs=[iv i,v]∧i≤l.length∧Gr σ0 1 (rows++(l.take i).map efPt) (k+i) v s) (λi=>l.length-i) 0 ⟨v,rfl,by omega,by simpa using hg⟩ ?_;rintro i vs s again ⟨v,rfl,hi,hg⟩ hag;refine Ya rfl (Yc (λh=>?_) (λh=>?_))
 ·have h:i<l.length:=by simpa using h
  refine Ya (Yo _ efC _ _ _ l _ i h) (Ya rfl (Ya rfl ?_));refine hg.put (cs:=efPt l[i]) rfl rfl rfl (by omega) (λv' σ' hg'=>?_);refine Ya (Yk ..) ?_;rw[Qf (n:=i) (by omega)];refine hag (i+1) _ _ (by omega) ⟨v',rfl,by omega,?_⟩;rw[←XB _ _ _ h,←List.append_assoc]; exact hg'
 ·have h:i=l.length:=by simp at h; omega
  subst h;rw[List.take_length] at hg;exact hK _ _ _ hg
theorem efPtL{vs:List AVal}{ps:List Pt}(h:PtL vs ps):∀l:List Ef,PtL (vs++(l.map efPt).flatten) (ps++l.map .ef):=by
 intro l
 induction l generalizing vs ps with
 |nil=>simpa using h
 |cons x l ih=>
  have:=ih (PtL.snoc _ _ _ _ h (.ef x));simpa[efPt] using this
theorem nmPtL{vs:List AVal}{ps:List Pt}(h:PtL vs ps):∀l:List Nm,PtL (vs++(l.map nmPt).flatten) (ps++l.map .nm):=by
 intro l
 induction l generalizing vs ps with
 |nil=>simpa using h
 |cons x l ih=>
  have:=ih (PtL.snoc _ _ _ _ h (.nm (nmC x) 0 x (nmAt x)));simpa[nmPt] using this
theorem cnPtL{vs:List AVal}{ps:List Pt}(h:PtL vs ps):∀l:List Cn,PtL (vs++(l.map cnPt).flatten) (ps++l.map .cn):=by
 intro l
 induction l generalizing vs ps with
 |nil=>simpa using h
 |cons x l ih=>
  have:=ih (PtL.snoc _ _ _ _ h (.cn (cnC x) 0 x (cnAt x)));simpa[cnPt] using this
theorem Zax{α:Type}{f:α→List AVal}(h:∀x,∃v,f x=[v]):∀l:List α,l.map f=((l.map f).flatten).map one
 |[]=>rfl
 |x::l=>by
  obtain⟨v,hv⟩:=h x;have:=Zax h l;simp only[List.map_cons,List.flatten_cons,hv,List.map_append,List.map_nil,one];rw[←this]; rfl
theorem Qaw(l:List Ef):l.map efPt=((l.map efPt).flatten).map one:=Zax (λ_=>⟨_,rfl⟩) l
theorem Yby(l:List Nm):l.map nmPt=((l.map nmPt).flatten).map one:=Zax (λ_=>⟨_,rfl⟩) l
theorem Qch(l:List Cn):l.map cnPt=((l.map cnPt).flatten).map one:=Zax (λ_=>⟨_,rfl⟩) l
theorem c208{S:Type}{enc:S→List AVal}{step:S→Pt→S×Bool}{clo:AVal}{b:Nat}(hc:Clo clo b enc step):∀(k:Nat) (p:Pt),(flat p).length≤k→p.fit=true→(flat p).length≤500000000→∀v,PtV v p→∀s σ K,hget σ b=.box (enc s) →
  (∀σ',Bt b σ σ'→hget σ' b=.box (enc (runL step s (flat p)).1)→K (.bool (runL step s (flat p)).2) σ')→g208 VV [v,clo] σ K
 |0,p,h,_,_=>by have:=Xbt p; omega
 |k+1,p,hk,hf,hN=>by
  intro v hv s σ K hb hK;rw[ZbX] at hk hN hK;simp only[List.length_cons] at hk hN;have hkl:=XaB p.kids;unfold g208;refine hc p v hv s σ _ hb (λσ1 t1 b1=>?_);simp only[runL] at hK;refine Ya rfl (Yc (λh=>?_) (λh=>?_))
  ·have h:(step s p).2=false:=by simpa using h
   rw[h] at hK;exact hK σ1 t1 b1
  have h:(step s p).2=true:=by simpa using h
  rw[h,if_pos rfl] at hK;generalize (step s p).1=s1 at hK b1;refine Xn λk2 hk2=>?_;have kk:∀v2 σ2 vs,PtL vs p.kids→Gr σ1 1 (vs.map one) vs.length v2 σ2→k2 [v2] σ2:=by
   intro v2 σ2 vs hp hg;rw[hk2]; clear hk2 k2;have hlen:=hp.length;have hb2:=hg.old b1 (by simp);have t2:Bt b σ1 σ2:=⟨hg.1,λc hc _=>hg.2.1 c hc⟩;refine Ya (hg.grows.len _) ?_;refine Yj (ι:=Nat) (λi ws σ3=>∃s',ws=[iv i]∧i≤p.kids.length∧hget σ3 b=.box (enc s')∧Bt b σ2 σ3∧runL step s1 (flats p.kids)=runL step s' (flats (p.kids.drop i))) (λi=>p.kids.length-i) 0 ⟨s1,rfl,by omega,hb2,Bt.refl _ _,by simp⟩ ?_;rintro i ws σ3 again ⟨s',rfl,hi,hb3,t3,hr⟩ hag;refine Ya rfl (Yc (λh=>?_) (λh=>?_))
   ·have h:i<vs.length:=by simpa using h
    have h':i<p.kids.length:=by omega
    have hg3:Grows 1 (vs.map one) vs.length v2 σ3:=by
     rcases hg.2.2 with h|⟨q1,c,q2,q3,q4,q5⟩
     ·exact .inl h
     ·refine .inr ⟨q1,c,q3,?_,q5⟩;have hcb:c≠b:=by
       intro e; subst e;rw[hb2] at q4; cases q4
      exact t3.old q4 (by simp) hcb
    obtain⟨c,e1,hj,e2⟩:=hg3.at .i64 i h;refine Ya e1 (Ya (e2 false 1 vs[i] (by simp[one])) ?_);have hmem:p.kids[i]∈p.kids:=List.getElem_mem h';have hfl:=QaB hmem;have hdr:p.kids.drop i=p.kids[i]::p.kids.drop (i+1):=YLD h';rw[hdr,flats,Z2] at hr;refine ZK hP rfl g208_ok rfl ?_;refine c208 hc k p.kids[i] (by omega) (Qcx hf hmem) (by omega) _ (hp.get i h h') s' σ3 _ hb3 (λσ4 t4 b4=>?_);refine Ya rfl (Yc (λh5=>?_) (λh5=>?_))
    ·have h5:(runL step s' (flat p.kids[i])).2=false:=by simpa using h5
     rw[h5] at hr;have:=hK σ4 ((t1.trans t2).trans (t3.trans t4)) (by rw[hr]; exact b4);rw[hr] at this; exact this
    ·have h5:(runL step s' (flat p.kids[i])).2=true:=by simpa using h5
     rw[h5,if_pos rfl] at hr;refine Ya (Yk ..) ?_;rw[Qf (n:=i) (by omega)];exact hag (i+1) _ _ (by omega) ⟨_,rfl,by omega,b4,t3.trans t4,hr⟩
   ·have h:i=p.kids.length:=by simp at h; omega
    subst h;rw[List.drop_length,flats,runL] at hr;have:=hK σ3 ((t1.trans t2).trans t3) (by rw[hr]; exact hb3);rw[hr] at this; exact this
  clear hk2 hK hb hc;cases hv with
  |ef x=>
   refine Ya rfl (Ya rfl (Ya rfl (Ze ?_)));refine Xx (row:=[.rptr (efC x) 0]) rfl rfl rfl ?_;have hB:=Zm σ1 (ABlk.box [.rptr (efC x) 0]);have hlt:σ1.length<(σ1++[ABlk.box [.rptr (efC x) 0]]).length:=by simp
   have kb:∀v2 σ2 vs,PtL vs (Pt.ef x).kids→Gr (σ1++[ABlk.box [.rptr (efC x) 0]]) 1 (vs.map one) vs.length v2 σ2→k2 [v2] σ2:=λv2 σ2 vs h1 h2=>kk v2 σ2 vs h1 h2.base;clear kk b1 t1;generalize σ1++[ABlk.box [.rptr (efC x) 0]]=τ at hB hlt kb ⊢;generalize σ1.length=c at hB hlt ⊢;refine Ya rfl (Ya (ld hB rfl) (Ya rfl (Ya rfl (Ya (ldr (efLd0 _)) ?_))));refine Yd (c210 _) rfl g210_ok.plain rfl ?_;refine Xn λk14 hk14=>?_;have k1:∀v σ2 vs,PtL vs (if cntOp x.op then [.nm x.n] else [])→Gr τ 1 (vs.map one) vs.length v σ2→k14 [v] σ2:=by
    intro v σ2 vs hp hg;rw[hk14]; clear hk14 k14;have hB2:=hg.old hB (by simp);have hvl:vs.length≤1:=by rw[hp.length]; split<;>simp
    refine Ya rfl (Ya (ld hB2 rfl) (Ya rfl (Ya rfl (Ya (ldr (efLd0 _)) (Ya (Xf ..) ?_)))));refine Yc (λh=>?_) (λh=>?_);rotate_left
    ·have h:¬x.op=8:=by simpa using h
     refine kb _ _ vs ?_ hg;simp only[Pt.kids,if_neg h,List.append_nil]; exact hp
    have h:x.op=8:=by simpa using h
    have hkids:(Pt.ef x).kids=(if cntOp x.op then [.nm x.n] else [])++(.cn x.c::(x.thn.map .ef++x.els.map .ef)):=by simp only[Pt.kids,if_pos h]
    have hlen2:x.thn.length+x.els.length+1≤500000000:=by
     rw[hkids] at hkl;simp only[List.length_append,List.length_cons,List.length_map] at hkl;rw[hkids] at hN;omega
    refine Ya rfl (Ya (ld hB2 rfl) (Ya rfl (Ya rfl (Ya rfl (Ya rfl ?_)))));refine hg.put (cs:=[.iface 292 (.agg [.rptr (efC x) 7])]) rfl rfl rfl (by omega) (λv' σ' hg'=>?_);have hB3:=hg'.old hB (by simp);refine Ya rfl (Ya (ld hB3 rfl) (Ya rfl (Ya rfl (Ya (ldr (Qp _)) ?_))));refine Ya rfl (Ya (ld hB3 rfl) (Ya rfl (Ya rfl (Ya (ldr (Zq _)) ?_))));refine Ya rfl ?_;refine QE 3 (Zl (Ya rfl (Ze (Ya rfl ?_))));refine Ya (v:=iv x.thn.length) (rd:=[]) (by simp[Zh]) ?_;refine ZcJ x.thn (by omega) hg' (λv3 σ3 w hg3=>?_);refine Ya rfl (Zl (Ya rfl (Ze (Ya rfl ?_))));refine Ya (v:=iv x.els.length) (rd:=[]) (by simp[Zh]) ?_;refine ZcJ x.els (by omega) hg3 (λv4 σ4 w hg4=>?_);refine Ya rfl (Zl (Ya rfl (Qi ?_)));refine kb _ _ ((vs++[.iface 292 (.agg [.rptr (efC x) 7])])++(x.thn.map efPt).flatten++(x.els.map efPt).flatten) ?_ ?_
    ·rw[hkids];have:=efPtL (efPtL (PtL.snoc _ _ _ _ hp (.cn (efC x) 7 x.c (cnAt7 x))) x.thn) x.els;simpa using this
    ·have e1:((vs++[AVal.iface 292 (.agg [.rptr (efC x) 7])])++(x.thn.map efPt).flatten++(x.els.map efPt).flatten).map one=List.map one vs++[[AVal.iface 292 (.agg [.rptr (efC x) 7])]]++List.map efPt x.thn++List.map efPt x.els:=by
      rw[List.map_append,List.map_append,←Qaw,←Qaw,List.map_append]; rfl
     have e2:((vs++[AVal.iface 292 (.agg [.rptr (efC x) 7])])++(x.thn.map efPt).flatten++(x.els.map efPt).flatten).length=vs.length+1+x.thn.length+x.els.length:=by
      have l1:=congrArg List.length (Qaw x.thn);have l2:=congrArg List.length (Qaw x.els);simp only[List.length_map] at l1 l2;simp only[List.length_append,List.length_cons,List.length_nil,←l1,←l2]
     rw[e1,e2]; exact hg4
   clear hk14;refine Yc (λh=>?_) (λh=>?_)
   ·refine Ya rfl (Ya (ld hB rfl) (Ya rfl (Ya rfl (Ya rfl (Ya rfl ?_)))));refine(Gr.nil 1 τ).put (cs:=[.iface 290 (.agg [.rptr (efC x) 2])]) rfl rfl rfl (by omega) (λv' σ' hg'=>?_);refine k1 _ _ [.iface 290 (.agg [.rptr (efC x) 2])] ?_ hg';rw[if_pos h];exact PtL.snoc [] [] _ _ .nil (.nm (efC x) 2 x.n (nmAt2 x))
   ·refine k1 _ _ [] ?_ (Gr.nil 1 τ);rw[h]; exact .nil
  |nm row j x hx=>
   refine Ya rfl (Ya rfl (Ya rfl (Qi ?_)));refine Ya rfl (Ya rfl (Ya rfl (Ze ?_)));refine Xx (row:=[.rptr row j]) rfl rfl rfl ?_;have hB:=Zm σ1 (ABlk.box [.rptr row j]);have kb:∀v2 σ2 vs,PtL vs (Pt.nm x).kids→Gr (σ1++[ABlk.box [.rptr row j]]) 1 (vs.map one) vs.length v2 σ2→k2 [v2] σ2:=λv2 σ2 vs h1 h2=>kk v2 σ2 vs h1 h2.base;clear kk b1 t1;generalize σ1++[ABlk.box [.rptr row j]]=τ at hB kb ⊢;generalize σ1.length=c at hB ⊢;have hlen2:x.kids.length≤500000000:=by
    simp only[Pt.kids,List.length_map] at hkl hN; omega
   refine Ya rfl (Ya (ld hB rfl) (Ya rfl (Ya rfl (Ya (ldr hx.h3) ?_))));refine Ya (v:=iv x.kids.length) (rd:=[]) (by simp[Zh]) ?_;refine Yj (ι:=Nat) (λi vs s=>∃v,vs=[iv i,v]∧i≤x.kids.length∧Gr τ 1 ((x.kids.take i).map nmPt) i v s) (λi=>x.kids.length-i) 0 ⟨_,rfl,by omega,by simpa using Gr.nil 1 τ⟩ ?_;rintro i vs s again ⟨v,rfl,hi,hg⟩ hag;refine Ya rfl (Yc (λh=>?_) (λh=>?_))
   ·have h:i<x.kids.length:=by simpa using h
    refine Ya rfl (Ya (ld (hg.old hB (by simp)) rfl) (Ya rfl (Ya rfl (Ya (ldr hx.h3) ?_))));refine Ya (Yo _ nmC _ _ _ x.kids _ i h) (Ya rfl (Ya rfl ?_));refine hg.put (cs:=nmPt x.kids[i]) rfl rfl rfl (by omega) (λv' σ' hg'=>?_);refine Ya (Yk ..) ?_;rw[Qf (n:=i) (by omega)];refine hag (i+1) _ _ (by omega) ⟨v',rfl,by omega,?_⟩;rw[←XB _ _ _ h]; exact hg'
   ·have h:i=x.kids.length:=by simp at h; omega
    subst h;rw[List.take_length] at hg;refine kb _ _ (x.kids.map nmPt).flatten ?_ ?_
    ·have:=nmPtL .nil x.kids;simpa[Pt.kids] using this
    ·have e1:=Yby x.kids;have e2:=congrArg List.length e1;rw[←e1];simp only[List.length_map] at e2;rw[←e2]; exact hg
  |cn row j x hx=>
   refine Ya rfl (Ya rfl (Ya rfl (Qi ?_)));refine Ya rfl (Ya rfl (Ya rfl (Qi ?_)));refine Ya rfl (Ya rfl (Ya rfl (Ze ?_)));refine Xx (row:=[.rptr row j]) rfl rfl rfl ?_;have hB:=Zm σ1 (ABlk.box [.rptr row j]);have kb:∀v2 σ2 vs,PtL vs (Pt.cn x).kids→Gr (σ1++[ABlk.box [.rptr row j]]) 1 (vs.map one) vs.length v2 σ2→k2 [v2] σ2:=λv2 σ2 vs h1 h2=>kk v2 σ2 vs h1 h2.base;clear kk b1 t1;generalize σ1++[ABlk.box [.rptr row j]]=τ at hB kb ⊢;generalize σ1.length=c at hB ⊢;have hlen2:x.nums.length+x.kids.length≤500000000:=by
    simp only[Pt.kids,List.length_map,List.length_append] at hkl hN; omega
   refine Ya rfl (Ya (ld hB rfl) (Ya rfl (Ya rfl (Ya (ldr hx.h3) ?_))));refine Ya (v:=iv x.nums.length) (rd:=[]) (by simp[Zh]) ?_;refine Yj (ι:=Nat) (λi vs s=>∃v,vs=[iv i,v]∧i≤x.nums.length∧Gr τ 1 ((x.nums.take i).map nmPt) i v s) (λi=>x.nums.length-i) 0 ⟨_,rfl,by omega,by simpa using Gr.nil 1 τ⟩ ?_;rintro i vs s again ⟨v,rfl,hi,hg⟩ hag;refine Ya rfl (Yc (λh=>?_) (λh=>?_))
   ·have h:i<x.nums.length:=by simpa using h
    refine Ya rfl (Ya (ld (hg.old hB (by simp)) rfl) (Ya rfl (Ya rfl (Ya (ldr hx.h3) ?_))));refine Ya (Yo _ nmC _ _ _ x.nums _ i h) (Ya rfl (Ya rfl ?_));refine hg.put (cs:=nmPt x.nums[i]) rfl rfl rfl (by omega) (λv' σ' hg'=>?_);refine Ya (Yk ..) ?_;rw[Qf (n:=i) (by omega)];refine hag (i+1) _ _ (by omega) ⟨v',rfl,by omega,?_⟩;rw[←XB _ _ _ h]; exact hg'
   have h:i=x.nums.length:=by simp at h; omega
   subst h;rw[List.take_length] at hg;clear hag;refine Ya rfl (Ya (ld (hg.old hB (by simp)) rfl) (Ya rfl (Ya rfl (Ya (ldr hx.h4) ?_))));refine Ya (v:=iv x.kids.length) (rd:=[]) (by simp[Zh]) ?_;refine Yj (ι:=Nat) (λi vs s=>∃v,vs=[iv i,v]∧i≤x.kids.length∧Gr τ 1 (x.nums.map nmPt++(x.kids.take i).map cnPt) (x.nums.length+i) v s) (λi=>x.kids.length-i) 0 ⟨_,rfl,by omega,by simpa[h1,hdV,tlV] using hg⟩ ?_;clear hg;rintro i vs s again ⟨v,rfl,hi,hg⟩ hag;refine Ya rfl (Yc (λh=>?_) (λh=>?_))
   ·have h:i<x.kids.length:=by simpa using h
    refine Ya rfl (Ya (ld (hg.old hB (by simp)) rfl) (Ya rfl (Ya rfl (Ya (ldr hx.h4) ?_))));refine Ya (Yo _ cnC _ _ _ x.kids _ i h) (Ya rfl (Ya rfl ?_));refine hg.put (cs:=cnPt x.kids[i]) rfl rfl rfl (by omega) (λv' σ' hg'=>?_);refine Ya (Yk ..) ?_;rw[Qf (n:=i) (by omega)];refine hag (i+1) _ _ (by omega) ⟨v',rfl,by omega,?_⟩;rw[←XB _ _ _ h,←List.append_assoc]; exact hg'
   ·have h:i=x.kids.length:=by simp at h; omega
    subst h;rw[List.take_length] at hg;refine kb _ _ ((x.nums.map nmPt).flatten++(x.kids.map cnPt).flatten) ?_ ?_
    ·have:=cnPtL (nmPtL .nil x.nums) x.kids;simpa[Pt.kids] using this
    ·have e1:((x.nums.map nmPt).flatten++(x.kids.map cnPt).flatten).map one=x.nums.map nmPt++x.kids.map cnPt:=by
      rw[List.map_append,←Yby,←Qch]
     have e2:=congrArg List.length e1;simp only[List.length_map,List.length_append] at e2;rw[e1,List.length_append,e2]; exact hg
end Go.Ah.Tz
end
section
namespace Go.Ah.Tz
open Go.Proofs.Tryz (prog)
mutual
theorem QcJ:∀x:Nm,nmW x=min ((nmP x).length:Int) 1073741824
 |.mk op n who kids=>by
  simp only[nmW,nmP,List.length_cons]
  rw[QbZ 1 kids (by omega) (by omega)]; omega
theorem QbZ:∀(n:Int) (l:List Nm),0≤n→n≤1073741824→nmWs n l=min (n+((nmPs l).length:Int)) 1073741824
 |n,[],h1,h2=>by simp only[nmWs,nmPs,List.length_nil]; omega
 |n,x::l,h1,h2=>by
  simp only[nmWs,nmPs,List.length_append]
  rw[QcJ x,QbZ _ l (by omega) (by omega)]; omega
end
mutual
theorem ZcE:∀x:Cn,cnW x=min ((cnP x).length:Int) 1073741824
 |.mk op who name nums kids=>by
  simp only[cnW,cnP,List.length_cons,List.length_append]
  rw[QbZ 1 nums (by omega) (by omega),Xco _ kids (by omega) (by omega)]; omega
theorem Xco:∀(n:Int) (l:List Cn),0≤n→n≤1073741824→cnWs n l=min (n+((cnPs l).length:Int)) 1073741824
 |n,[],h1,h2=>by simp only[cnWs,cnPs,List.length_nil]; omega
 |n,x::l,h1,h2=>by
  simp only[cnWs,cnPs,List.length_append]
  rw[ZcE x,Xco _ l (by omega) (by omega)]; omega
end
mutual
theorem efW_P:∀(n:Int) (x:Ef),0≤n→n≤1073741824→efW n x=min (n+((efP x).length:Int)) 1073741824
 |n,.mk op who nn name c thn els,h1,h2=>by
  simp only[efW,efP,List.length_cons,List.length_append]
  rw[QcJ nn,ZcE c,QaK 0 thn (by omega) (by omega),QaK 0 els (by omega) (by omega)]
  generalize cntOp op=cb
  by_cases h:op=8
  ·simp only[if_pos h]
   cases cb<;>simp only[if_true,if_false,List.length_append,List.length_nil,Bool.false_eq_true]<;>omega
  ·simp only[if_neg h]
   cases cb<;>simp only[if_true,if_false,List.length_nil,Bool.false_eq_true]<;>omega
theorem QaK:∀(n:Int) (l:List Ef),0≤n→n≤1073741824→efsW n l=min (n+((efPs l).length:Int)) 1073741824
 |n,[],h1,h2=>by simp only[efsW,efPs,List.length_nil]; omega
 |n,x::l,h1,h2=>by
  simp only[efsW,efPs,List.length_append]
  rw[efW_P n x h1 h2,QaK _ l (by omega) (by omega)]; omega
end
def cdP(c:Cd):List Pt:=efPs c.played++(efPs c.dead++efPs c.dawn)
theorem cdW_P(c:Cd):cdW c=min ((cdP c).length:Int) 1073741824:=by
 rw[cdW,QaK 0 _ (by omega) (by omega),QaK 0 _ (by omega) (by omega),QaK 0 _ (by omega) (by omega),cdP];simp only[List.length_append]; omega
attribute [local irreducible] Ans.rd Ans.pu Ans.wr Ans.dr Ans.gr Ans.gw Ans.gl Ans.gd Ans.opt joinK W
set_option maxHeartbeats 1000000
theorem XbW(l:List Ef):efPs l=flats (l.map .ef):=(Yah l).symm
theorem ZbZ{S:Type}{enc:S→List AVal}{step:S→Pt→S×Bool}{clo:AVal}{b:Nat}(hc:Clo clo b enc step)(l:List Ef)(hf:lsFit l=true)(hN:(efPs l).length≤500000000){s:S}{σ:List ABlk}(hb:hget σ b=.box (enc s)){R:List ABlk→Prop}{K:List AVal→List ABlk→Prop}
 (hR:∀σ',Bt b σ σ'→hget σ' b=.box (enc (runL step s (efPs l)).1)→(runL step s (efPs l)).2=false→R σ')(hK:∀w σ',Bt b σ σ'→hget σ' b=.box (enc (runL step s (efPs l)).1)→(runL step s (efPs l)).2=true→K w σ') :
  VV.loop (λag15 v16 σ=>VV.rd (Xh .lss false [(h0 v16),iv l.length] σ) λt26_17=>VV.test t26_17 (
   VV.rd (Xb 14 [efV l,(h0 v16)] σ) λt30_18=>VV.rd (Yf [.nilp] [(0,1)] [t30_18] σ) λt31_19=>VV.rd (Yz 272 [t31_19] σ) λt32_20=>
   VV.call (.call 208) [t32_20,clo] σ λt34_21 σ=>VV.rd (Xo .not [t34_21] σ) λt35_22=>VV.test t35_22 (R σ) (
   VV.rd (Xh .add false [(h0 v16),(.int .i64 1)] σ) λt36_23=>ag15 [t36_23] σ)) (K v16 σ)) [(.int .i64 0)] σ:=by
 have hl:=XaB (l.map .ef);rw[Yah,List.length_map] at hl;rw[XbW] at hR hK;refine Yj (ι:=Nat) (λi ws σ3=>∃s',ws=[iv i]∧i≤l.length∧hget σ3 b=.box (enc s')∧Bt b σ σ3∧runL step s (flats (l.map .ef))=runL step s' (flats ((l.drop i).map .ef))) (λi=>l.length-i) 0 ⟨s,rfl,by omega,hb,Bt.refl _ _,by simp⟩ ?_;rintro i ws σ3 again ⟨s',rfl,hi,hb3,t3,hr⟩ hag;refine Ya rfl (Yc (λh=>?_) (λh=>?_))
 ·have h:i<l.length:=by simpa using h
  refine Ya (Yo _ efC _ _ _ l _ i h) (Ya rfl (Ya rfl ?_));have hdr:l.drop i=l[i]::l.drop (i+1):=YLD h;rw[hdr,List.map_cons,flats,Z2] at hr;refine ZK hP rfl g208_ok rfl ?_;have hm:=QaB (l:=l.map .ef) (p:=.ef l[i]) (List.mem_map_of_mem (List.getElem_mem h));rw[Yah] at hm;refine c208 hc _ (.ef l[i]) (Nat.le_refl _) (QK hf (List.getElem_mem h)) (by omega) _ (.ef _) s' σ3 _ hb3 (λσ4 t4 b4=>?_);refine Ya rfl (Yc (λh5=>?_) (λh5=>?_))
  ·have h5:(runL step s' (flat (.ef l[i]))).2=false:=by simpa using h5
   rw[h5] at hr;exact hR σ4 (t3.trans t4) (by rw[hr]; exact b4) (by rw[hr]; rfl)
  ·have h5:(runL step s' (flat (.ef l[i]))).2=true:=by simpa using h5
   rw[h5,if_pos rfl] at hr;refine Ya (Yk ..) ?_;rw[Qf (n:=i) (by omega)];exact hag (i+1) _ _ (by omega) ⟨_,rfl,by omega,b4,t3.trans t4,hr⟩
 ·have h:i=l.length:=by simp at h; omega
  subst h;rw[List.drop_length,List.map_nil,flats,runL] at hr;exact hK _ σ3 t3 (by rw[hr]; exact hb3) (by rw[hr])
theorem c155{S:Type}{enc:S→List AVal}{step:S→Pt→S×Bool}{clo:AVal}{b:Nat}(hc:Clo clo b enc step)(c:Cd)(f1:lsFit c.played=true)(f2:lsFit c.dead=true)(f3:lsFit c.dawn=true)(hN:(cdP c).length≤500000000){s:S}{σ:List ABlk}{cb:Nat}(hcb:hget σ cb=.box (cdC c))(hb:hget σ b=.box (enc s)){K:AVal→List ABlk→Prop}
 (hK:∀σ',Bt b σ σ'→hget σ' b=.box (enc (runL step s (cdP c)).1)→K (.tup []) σ'):g155 VV [.bptr cb 0,clo] σ K:=by
 simp only[cdP,List.length_append] at hN;simp only[cdP,Z2] at hK;unfold g155;refine Ya rfl (Ya rfl (Ya (ld hcb rfl) (Ya rfl (Ya rfl (Ya (ld hcb rfl) (Ya rfl (Ya rfl (Ya (ld hcb rfl) (Ya rfl ?_)))))))));refine QE 4 (Zl (Ya rfl (Ze (Ya rfl ?_))));refine Ya (v:=iv c.played.length) (rd:=[]) (by simp[Zh]) ?_;refine ZbZ hc c.played f1 (by omega) hb (λσ1 t1 b1 h1=>?_) (λw σ1 t1 b1 h1=>?_)
 ·rw[h1] at hK; exact hK σ1 t1 b1
 rw[h1,if_pos rfl] at hK;refine Ya rfl (Zl (Ya rfl (Ze (Ya rfl ?_))));refine Ya (v:=iv c.dead.length) (rd:=[]) (by simp[Zh]) ?_;refine ZbZ hc c.dead f2 (by omega) b1 (λσ2 t2 b2 h2=>?_) (λw σ2 t2 b2 h2=>?_)
 ·rw[h2] at hK; exact hK σ2 (t1.trans t2) b2
 rw[h2,if_pos rfl] at hK;refine Ya rfl (Zl (Ya rfl (Ze (Ya rfl ?_))));refine Ya (v:=iv c.dawn.length) (rd:=[]) (by simp[Zh]) ?_;refine ZbZ hc c.dawn f3 (by omega) b2 (λσ3 t3 b3 h3=>?_) (λw σ3 t3 b3 h3=>?_)
 ·exact hK σ3 ((t1.trans t2).trans t3) b3
 refine Ya rfl (Zl (Ya rfl (Qi ?_)));exact hK σ3 ((t1.trans t2).trans t3) b3
def cntS(n:Int)(_:Pt):Int×Bool:=(IntKind.i64.wrap (n+1),decide (IntKind.i64.wrap (n+1)<1073741824))
theorem Qb2:∀(l:List Pt) (n:Int),0≤n→n+(l.length:Int)<1073741824→runL cntS n l=(n+(l.length:Int),true)
 |[],n,_,_=>by simp[runL]
 |p::l,n,h1,h2=>by
  simp only[List.length_cons] at h2;have hw:IntKind.i64.wrap (n+1)=n+1:=wrapI (by omega) (by omega);simp only[runL,cntS,hw];rw[if_pos (by simp; omega),Qb2 l (n+1) (by omega) (by omega),List.length_cons]
  congr 1; omega
theorem clo156(b:Nat):Clo (.func (.func 156) [] [.bptr b 0]) b (λn:Int=>[iv n]) cntS:=by
 intro p v hv s σ K hb hK;refine ZK hP rfl g156_ok rfl ?_;show g156 VV [v,.bptr b 0] σ K;unfold g156;have hlt:=Zo hb (by simp);refine Ya (ld hb rfl) (Ya (Yk ..) (Zf (stv hb rfl rfl rfl) (Xp _ hlt) ?_));have hb2:hget (σ.set b (.box [iv (IntKind.i64.wrap (s+1))])) b=.box [iv (IntKind.i64.wrap (s+1))]:=Qn _ hlt;refine Ya (ld hb2 rfl) (Ya (XA ..) ?_);exact hK _ ⟨by simp,λc hc hne=>Xk _ hc hne⟩ hb2
theorem c124(c:Cd)(f1:lsFit c.played=true)(f2:lsFit c.dead=true)(f3:lsFit c.dawn=true)(hN:(cdP c).length≤500000000):PC 124 [.agg (cdC c)] (iv (cdW c)):=by
 refine Qd hP g124_ok rfl rfl ?_;unfold g124;refine Zf rfl rfl (Zf rfl rfl (Zf rfl rfl (Ya rfl ?_)));refine ZK hP rfl g155_ok rfl ?_;refine c155 (clo156 1) c f1 f2 f3 hN (s:=0) rfl rfl (λσ' _ hb=>?_);rw[Qb2 _ 0 (by omega) (by omega)] at hb;refine Ya (ld hb rfl) ?_;rw[cdW_P]
 congr 1; omega
end Go.Ah.Tz
end
section
namespace Go.Ah.Tz
open Go.Proofs.Tryz (prog)
attribute [local irreducible] Ans.rd Ans.pu Ans.wr Ans.dr Ans.gr Ans.gw Ans.gl Ans.gd Ans.opt joinK W
set_option maxHeartbeats 1000000
theorem ZbV(σ:List ABlk)(x:Ef):Yl [.agg (efC x)] σ=.ok (.bptr σ.length 0) [] [(σ.length,.box (efC x))]:=by rw[ZG]; rfl
def idxF{α:Type}(f:α→Bool):List α→Int→Int
 |[],_=>-1
 |x::l,n=>if f x=true then n else idxF f l (n+1)
theorem XaT{α:Type}(f:α→Bool):∀(l:List α) (n:Int),0≤n→decide (0≤idxF f l n)=l.any f
 |[],_,_=>rfl
 |x::l,n,h=>by
  by_cases hf:f x=true
  ·have e:idxF f (x::l) n=n:=if_pos hf;rw[e,List.any_cons,hf]; simpa using h
  ·have e:idxF f (x::l) n=idxF f l (n+1):=if_neg hf;have hf':f x=false:=by simpa using hf
   rw[e,XaT f l (n+1) (by omega),List.any_cons,hf']; rfl
theorem Xcm{P:Program}{GL:Globs}{c d:Bool}{K:AVal→Prop}{r1:SRes}{f2 f3 f4:AVal→SRes}{σ:List ABlk}{v1 v2 v3:AVal}{q1 q2 q3 q4:List Nat}(h1:r1=.ok v1 q1 [])(h2:f2 v1=.ok v2 q2 [])(h3:f3 v2=.ok v3 q3 [])(h4:f4 v3=.ok (.bool d) q4 [])(hK:K (.bool (c&&d))) :
  (W P GL).gr (.bool c) true (λk=>(W P GL).rd r1 k) λt1=>(W P GL).gr (.bool c) true (λk=>(W P GL).rd (f2 t1) k) λt2=>(W P GL).gr (.bool c) true (λk=>(W P GL).rd (f3 t2) k) λt3=>(W P GL).gr (.bool c) true (λk=>(W P GL).rd (f4 t3) k) λt4=>(W P GL).rd (Ym [.bool c,t4,.bool false] σ) K:=by
 cases c with
 |true=>exact Xa (Ya h1 (Xa (Ya h2 (Xa (Ya h3 (Xa (Ya h4 (Ya rfl hK))))))))
 |false=>exact Yb rfl (Yb rfl (Yb rfl (Yb rfl (Ya rfl hK))))
theorem c255(l:List Ef)(hl:l.length≤big)(id:FuncId)(fs cs:List AVal)(hp:Ql prog id=true)(f:Ef→Bool)(hc:∀x∈l,PC id (fs++[.agg (efC x)]++cs) (.bool (f x)))(hr:∀x,roL (fs++[.agg (efC x)]++cs)=true) :
  PC 255 [efV l,.func (.func id) fs cs] (iv (idxF f l 0)):=by
 rw[bigE] at hl;refine Qd hP g255_ok rfl rfl ?_;unfold g255;refine Ya (v:=iv l.length) (rd:=[]) (by simp[Zh]) ?_;refine Yj (ι:=Nat) (λi vs s=>vs=[iv i]∧i≤l.length∧idxF f l 0=idxF f (l.drop i) i) (λi=>l.length-i) 0 ⟨rfl,by omega,by simp⟩ ?_;rintro i vs s again ⟨rfl,hi,hr'⟩ hag;refine Ya rfl (Yc (λh=>?_) (λh=>?_))
 ·have h:i<l.length:=by simpa using h
  refine Ya (Yo _ efC _ _ _ l _ i h) (Ya (ldr (efLd _)) ?_);refine Yd (hc _ (List.getElem_mem h)) rfl hp (hr _) ?_;rw[YLD h,idxF] at hr';refine Yc (λh2=>?_) (λh2=>?_)
  ·rw[if_pos h2] at hr'; rw[hr']; rfl
  ·rw[if_neg (by rw[h2]; simp)] at hr';refine Ya (Yk ..) ?_;rw[Qf (n:=i) (by omega)];exact hag (i+1) _ _ (by omega) ⟨rfl,by omega,by rw[hr']; push_cast; rfl⟩
 ·have h:i=l.length:=by simp at h; omega
  subst h;rw[List.drop_length,idxF] at hr';rw[hr']
theorem c239(l:List Ef)(hl:l.length≤big)(id:FuncId)(fs cs:List AVal)(hp:Ql prog id=true)(f:Ef→Bool)(hc:∀x∈l,PC id (fs++[.agg (efC x)]++cs) (.bool (f x)))(hr:∀x,roL (fs++[.agg (efC x)]++cs)=true)(hr2:roL [efV l,.func (.func id) fs cs]=true) :
  PC 239 [efV l,.func (.func id) fs cs] (.bool (l.any f)):=by
 refine Qd hP g239_ok rfl rfl ?_;unfold g239;refine Yd (c255 l hl id fs cs hp f hc hr) rfl g255_ok.plain hr2 ?_;refine Ya (ZaH ..) ?_;rw[XaT f l 0 (by omega)]
def asksR(u:Int):List AVal:=[.func (.func 235) [.agg [iv8 u]] [],.func (.func 235) [.agg [iv8 u]] [],.func (.func 235) [.agg [iv8 u]] [],.func (.func 235) [.agg [iv8 u]] [],.func (.func 236) [.agg [iv8 u]] [],.func (.func 237) [.agg [iv8 u]] [],.func (.func 236) [.agg [iv8 u]] [],.func (.func 236) [.agg [iv8 u]] [],.func (.func 238) [.agg [iv8 u]] []]
theorem c240(u:Int)(x:Ef)(hf:efFit x=true)(h238:x.op=8→PC 238 [.agg [iv8 u],.agg (efC x)] (.bool (efL u x))):PC 240 [.agg (efC x),.rptr [iv8 u] 0,.rptr (asksR u) 0] (.bool (!efL u x)):=by
 have hop:=Qcf hf;refine Qd hP g240_ok rfl rfl ?_;unfold g240;refine Zf (ZbV _ _) rfl (Ya rfl (Ya rfl (Ya rfl (Ya (ld rfl (efLd0 x)) (Ya (ZaH ..) ?_)))));have p235:x.op=0∨x.op=1∨x.op=2∨x.op=3→PC 235 [.agg [iv8 u],.agg (efC x)] (.bool (efL u x)):=by
  intro h;have e:efL u x=decide (joinL u (nmL x.n)=0):=by rw[Qa0,if_neg (by omega),if_neg (by omega),if_pos h]
  rw[e]; exact c235 u x hf
 have p236:¬(x.op=0∨x.op=1∨x.op=2∨x.op=3)→x.op≠5→x.op≠8→PC 236 [.agg [iv8 u],.agg (efC x)] (.bool (efL u x)):=by
  intro h h5 h8;have e:efL u x=decide (lbN u=0):=by rw[Qa0,if_neg h5,if_neg h8,if_neg h,YaM]
  rw[e]; exact c236 u x
 have p237:x.op=5→PC 237 [.agg [iv8 u],.agg (efC x)] (.bool (efL u x)):=by
  intro h;have e:efL u x=XaL (joinL u (nmL x.n)) 1:=by rw[Qa0,if_pos h]
  rw[e]; exact c237 u x hf
 refine Xcm rfl (ld rfl (efLd0 x)) rfl (XA ..) ?_;rw[wrapI (n:=x.op) (by omega) (by omega)];refine Xn λk11 hk11=>?_;have hk:∀id,Ql prog id=true→PC id [.agg [iv8 u],.agg (efC x)] (.bool (efL u x))→k11 [.func (.func id) [.agg [iv8 u]] []] [.box (efC x)]:=by
  intro id hp hc;rw[hk11];refine Ya (ld rfl (efLd x)) ?_;refine Yd hc rfl hp (efRo u x) ?_;exact Ya rfl rfl
 clear hk11;refine Yc (λh=>?_) (λh=>?_)
 ·have h:0≤x.op∧x.op<9:=by simpa using h
  refine Ya rfl (Ya (ld rfl (efLd0 x)) ?_);have hcs:x.op=0∨x.op=1∨x.op=2∨x.op=3∨x.op=4∨x.op=5∨x.op=6∨x.op=7∨x.op=8:=by omega
  rcases hcs with e|e|e|e|e|e|e|e|e
  ·have q:=p235 (by omega); rw[e]; exact Ya rfl (Ya rfl (hk _ g235_ok.plain q))
  ·have q:=p235 (by omega); rw[e]; exact Ya rfl (Ya rfl (hk _ g235_ok.plain q))
  ·have q:=p235 (by omega); rw[e]; exact Ya rfl (Ya rfl (hk _ g235_ok.plain q))
  ·have q:=p235 (by omega); rw[e]; exact Ya rfl (Ya rfl (hk _ g235_ok.plain q))
  ·have q:=p236 (by omega) (by omega) (by omega); rw[e]; exact Ya rfl (Ya rfl (hk _ g236_ok.plain q))
  ·have q:=p237 e; rw[e]; exact Ya rfl (Ya rfl (hk _ g237_ok.plain q))
  ·have q:=p236 (by omega) (by omega) (by omega); rw[e]; exact Ya rfl (Ya rfl (hk _ g236_ok.plain q))
  ·have q:=p236 (by omega) (by omega) (by omega); rw[e]; exact Ya rfl (Ya rfl (hk _ g236_ok.plain q))
  ·have q:=h238 e; rw[e]; exact Ya rfl (Ya rfl (hk _ g238_ok.plain q))
 ·have h:0≤x.op→¬x.op<9:=by simpa using h
  exact hk _ g236_ok.plain (p236 (by omega) (by omega) (by omega))
theorem c238(u:Int)(x:Ef)(hf:efFit x=true)(h1:∀u',PC 222 [.agg [iv8 u'],efV x.thn] (.bool (efsL u' x.thn)))(h2:∀u',PC 222 [.agg [iv8 u'],efV x.els] (.bool (efsL u' x.els))) :
  PC 238 [.agg [iv8 u],.agg (efC x)] (.bool (efsL (joinL u (cnL x.c)) x.thn&&efsL (joinL u (cnL x.c)) x.els)):=by
 refine Qd hP g238_ok rfl rfl ?_;unfold g238;refine Zf rfl rfl (Zf (ZbV _ _) rfl (Yi rfl (Xi rfl rfl (Yi rfl (Xi (ld rfl (efLdC x)) rfl ?_)))));refine Qj (c254 _ (ZX hf)) rfl g254_ok.plain (cnRo _) ?_;refine Qj (c250 _ _) rfl g250_ok.plain rfl ?_;refine Yi rfl (Xi rfl rfl (Xi rfl rfl (QN (by kernel_rfl) ?_)));refine Ya rfl (Ya rfl (Ya (ld rfl (Qp x)) ?_));refine Yd (h1 _) rfl g222_ok.plain rfl ?_;rcases YBE (efsL (joinL u (cnL x.c)) x.thn) with h|h
 ·rw[h];refine Xa (Ya rfl (Xa (Ya rfl (Xa (Ya (ld rfl (Zq x)) (Zb ?_))))));refine Yd (h2 _) rfl g222_ok.plain rfl ?_;exact Ya rfl rfl
 ·rw[h];exact Yb rfl (Yb rfl (Yb rfl (Zc rfl (Ya rfl rfl))))
theorem Qbs(u:Int):∀l,efsL u l=l.all (efL u)
 |[]=>rfl
 |x::l=>by simp[efsL,Qbs u l]
theorem c222':∀(k:Nat) (l:List Ef) (u:Int),SizeOf.sizeOf l≤k→lsFit l=true→PC 222 [.agg [iv8 u],efV l] (.bool (efsL u l))
 |0,l,_,h,_=>by cases l<;>simp at h
 |k+1,l,u,hk,hf=>by
  refine Qd hP g222_ok rfl rfl ?_;unfold g222;refine Zf rfl rfl (Ya rfl (Ya rfl (Ya rfl (Ya rfl (Ya rfl (Ya rfl (Ya rfl (Ya rfl (Ya rfl (Ya rfl (Ya rfl (Ya rfl (Ya rfl (Ya rfl (Ya rfl (Ya rfl (Ya rfl (Ya rfl (Ya rfl (Zf rfl rfl (Zf rfl rfl (Ya rfl ?_))))))))))))))))))))));have hc:∀x∈l,PC 240 ([]++[.agg (efC x)]++[.rptr [iv8 u] 0,.rptr (asksR u) 0]) (.bool (!efL u x)):=by
   intro x hx;have hfx:=QK hf hx;refine c240 u x hfx (λh8=>?_);have e:efL u x=(efsL (joinL u (cnL x.c)) x.thn&&efsL (joinL u (cnL x.c)) x.els):=by rw[Qa0,if_neg (by omega),if_pos h8]
   have hs:=List.sizeOf_lt_of_mem hx;have hs2:=XU x;rw[e];exact c238 u x hfx (λu'=>c222' k x.thn u' (by omega) (QG hfx)) (λu'=>c222' k x.els u' (by omega) (XG hfx))
  refine Yy (c239 l (Zz hf) 240 [] [.rptr [iv8 u] 0,.rptr (asksR u) 0] g240_ok.plain (λx=>!efL u x) hc (λx=>by rw[ZG]; rfl) rfl) rfl g239_ok.plain rfl rfl ?_;refine Ya rfl ?_;rw[Qbs]
  congr 1
  simp only[List.any_eq_not_all_not,Bool.not_not]
theorem c222(l:List Ef)(u:Int)(hf:lsFit l=true):PC 222 [.agg [iv8 u],efV l] (.bool (efsL u l)):=c222' _ l u (Nat.le_refl _) hf
theorem c182(cs:List Cd)(hf:ZQ cs=true):PC 182 [cdV cs] (.agg [iv (cdsL cs).1,iv (cdsL cs).2]):=by
 simp only[ZQ,Bool.and_eq_true,decide_eq_true_eq] at hf;obtain⟨f0,f1⟩:=hf;rw[bigE] at f0;refine Qd hP g182_ok rfl rfl ?_;unfold g182;refine Zf rfl rfl (Ya rfl (Zf rfl rfl (Zf rfl rfl ?_)));refine Ya (v:=iv cs.length) (rd:=[]) (by simp[Zh]) ?_;refine Yj (ι:=Nat) (λi vs σ=>vs=[iv i]∧hget σ 0=.box [iv 0,iv 0]∧hget σ 1=.box [iv8 0]∧0<σ.length∧i≤cs.length∧cdsL cs=cdsL (cs.drop i)) (λi=>cs.length-i) 0 ⟨rfl,rfl,rfl,by simp,by omega,by simp⟩ ?_;rintro i vs σ again ⟨rfl,hz,ho,hz2,hi,hu⟩ hag;refine Ya rfl ?_;refine Yc (λh=>?_) (λh=>?_);rotate_left
 ·have h:i=cs.length:=by simp at h; omega
  subst h;rw[List.drop_length,cdsL] at hu;refine Ya rfl (Zf (stv hz rfl rfl rfl) (Xp _ hz2) (Ys (YG hz2 rfl) ?_));rw[hu]
 have hi:i<cs.length:=by simpa using h
 have hdr:cs.drop i=cs[i]::cs.drop (i+1):=by rw[YLD hi]
 have hix:=λ(s:List ABlk)=>Yo s cdC false false 12 cs .i64 i hi;have hfi:=List.all_eq_true.1 f1 _ (List.getElem_mem hi);generalize cs[i]=c at hdr hix hfi;rw[hdr,cdsL] at hu;simp only[cdFit,Bool.and_eq_true,decide_eq_true_eq] at hfi;obtain⟨g0,g1,g2,g3⟩:=hfi;refine Ya (hix _) (Ya (ldr (cdLd _)) (Xx (row:=cdC c) (row':=cdC c) rfl rfl rfl ?_));have hB0:=Zm σ (ABlk.box (cdC c));have hz':hget (σ++[ABlk.box (cdC c)]) 0=.box [iv 0,iv 0]:=Zn _ hz (by simp);have ho':hget (σ++[ABlk.box (cdC c)]) 1=.box [iv8 0]:=Zn _ ho (by simp);have hz2':0<(σ++[ABlk.box (cdC c)]).length:=by simp
 generalize σ++[ABlk.box (cdC c)]=base at hB0 hz' ho' hz2' ⊢;generalize σ.length=b at hB0 ⊢;clear hz hz2 ho;refine Ya (ld ho' rfl) (Ya rfl (Ya (ld hB0 rfl) ?_));refine Yd (c222 _ 0 g1) rfl g222_ok.plain rfl ?_;refine Ya rfl ?_;apply cutF (cdL c=false)
 ·intro hR;have good:cdL c=true→VV.rd (Xh .add false [iv i,(.int .i64 1)] base) λt10_26=>again [t10_26] base:=by
   intro hc;rw[hc,if_pos rfl] at hu;refine Ya (Yk ..) ?_;rw[Qf (n:=i) (by omega)];exact hag (i+1) _ _ (by omega) ⟨rfl,hz',ho',hz2',by omega,hu⟩
  rcases YBE (!efsL 0 c.played) with a1|a1
  ·rw[a1];repeat first|refine Xa ?_|refine Zb ?_|refine Yb rfl ?_|refine Zc rfl ?_|refine Xc rfl ?_|refine Xd rfl ?_|refine Ya (ld hB0 rfl) ?_|refine Ya rfl ?_
   refine Ze (hR ?_);have a1:efsL 0 c.played=false:=by simpa using a1
   simp[cdL,a1]
  rw[a1];repeat first|refine Xa ?_|refine Zb ?_|refine Ya (ld ho' rfl) ?_|refine Ya (ld hB0 rfl) ?_|refine Ya rfl ?_
  have a1:efsL 0 c.played=true:=by simpa using a1
  refine Yd (c222 _ 0 g2) rfl g222_ok.plain rfl ?_;repeat first|refine Xa ?_|refine Zb ?_|refine Ya (ld ho' rfl) ?_|refine Ya (ld hB0 rfl) ?_|refine Ya rfl ?_
  rcases YBE (!efsL 0 c.dead) with a2|a2
  ·rw[a2];repeat first|refine Xa ?_|refine Zb ?_|refine Yb rfl ?_|refine Zc rfl ?_|refine Xc rfl ?_|refine Xd rfl ?_|refine Ya (ld hB0 rfl) ?_|refine Ya rfl ?_
   refine Ze (hR ?_);have a2:efsL 0 c.dead=false:=by simpa using a2
   simp[cdL,a2]
  rw[a2];repeat first|refine Xa ?_|refine Zb ?_|refine Ya (ld ho' rfl) ?_|refine Ya (ld hB0 rfl) ?_|refine Ya rfl ?_
  have a2:efsL 0 c.dead=true:=by simpa using a2
  refine Yd (c222 _ 0 g3) rfl g222_ok.plain rfl ?_;repeat first|refine Xa ?_|refine Zb ?_|refine Ya (ld hB0 rfl) ?_|refine Ya rfl ?_
  refine Yc (λa3=>hR ?_) (λa3=>good ?_)
  ·have a3:efsL 0 c.dawn=false:=by simpa using a3
   simp[cdL,a3]
  ·have a3:efsL 0 c.dawn=true:=by simpa using a3
   simp[cdL,a1,a2,a3]
 intro hc;rw[hc] at hu
 replace hu:cdsL cs=(140,c.pl):=hu
 refine Ya rfl (Ya (ld hB0 rfl) (Ya rfl (Zf (stv hz' rfl rfl rfl) (Xp _ hz2') (Ys (YG hz2' rfl) ?_))));rw[hu]
theorem c259(l:List Cd)(hl:l.length≤big)(id:FuncId)(fs cs:List AVal)(hp:Ql prog id=true)(f:Cd→Bool)(hc:∀x∈l,PC id (fs++[.agg (cdC x)]++cs) (.bool (f x)))(hr:∀x,roL (fs++[.agg (cdC x)]++cs)=true) :
  PC 259 [cdV l,.func (.func id) fs cs] (iv (idxF f l 0)):=by
 rw[bigE] at hl;refine Qd hP g259_ok rfl rfl ?_;unfold g259;refine Ya (v:=iv l.length) (rd:=[]) (by simp[Zh]) ?_;refine Yj (ι:=Nat) (λi vs s=>vs=[iv i]∧i≤l.length∧idxF f l 0=idxF f (l.drop i) i) (λi=>l.length-i) 0 ⟨rfl,by omega,by simp⟩ ?_;rintro i vs s again ⟨rfl,hi,hr'⟩ hag;refine Ya rfl (Yc (λh=>?_) (λh=>?_))
 ·have h:i<l.length:=by simpa using h
  refine Ya (Yo _ cdC _ _ _ l _ i h) (Ya (ldr (cdLd _)) ?_);refine Yd (hc _ (List.getElem_mem h)) rfl hp (hr _) ?_;rw[YLD h,idxF] at hr';refine Yc (λh2=>?_) (λh2=>?_)
  ·rw[if_pos h2] at hr'; rw[hr']; rfl
  ·rw[if_neg (by rw[h2]; simp)] at hr';refine Ya (Yk ..) ?_;rw[Qf (n:=i) (by omega)];exact hag (i+1) _ _ (by omega) ⟨rfl,by omega,by rw[hr']; push_cast; rfl⟩
 ·have h:i=l.length:=by simp at h; omega
  subst h;rw[List.drop_length,idxF] at hr';rw[hr']
theorem YbX(t:Tx):∀(l:List Cd) (n:Nat),((fndI n l t).2=true∧n≤(fndI n l t).1∧(fndI n l t).1<n+l.length∧idxF (λc=>c.name==t) l (n:Int)=((fndI n l t).1:Int))∨((fndI n l t)=(0,false)∧idxF (λc=>c.name==t) l (n:Int) = -1)
 |[],n=>.inr ⟨rfl,rfl⟩
 |c::l,n=>by
  by_cases h:c.name==t
  ·left;have e1:fndI n (c::l) t=(n,true):=if_pos h;have e2:idxF (λc:Cd=>c.name==t) (c::l) (n:Int)=n:=if_pos h;rw[e1,e2]; simp
  ·have e1:fndI n (c::l) t=fndI (n+1) l t:=if_neg h;have e2:idxF (λc:Cd=>c.name==t) (c::l) (n:Int)=idxF (λc:Cd=>c.name==t) l ((n+1:Nat):Int):=by
    have:=(if_neg h:(if (c.name==t)=true then (n:Int) else idxF (λc:Cd=>c.name==t) l ((n:Int)+1))=_)
    push_cast; exact this
   rw[e1,e2];rcases YbX t l (n+1) with ⟨q1,q2,q3,q4⟩|q
   ·exact .inl ⟨q1,by omega,by simp; omega,q4⟩
   ·exact .inr q
theorem c244(c:Cd)(t:Tx):PC 244 [.agg (cdC c),.rptr [.str t] 0] (.bool (c.name==t)):=by
 refine Qd hP g244_ok rfl rfl ?_;unfold g244;exact Zf rfl rfl (Ya rfl (Ya (ld rfl rfl) (Ya rfl (Ya rfl rfl))))
theorem c243(l:List Cd)(hl:l.length≤big)(t:Tx)(x:ABlk)(K:AVal→List ABlk→Prop)(hK:∀cs σ,cs.all AVal.cell=true→cs.length=12→K (.tup [.agg cs,iv (fndI 0 l t).1,.bool (fndI 0 l t).2]) ([x,.box [.str t]]++σ)) :
  g243 VV [cdV l,.func (.func 244) [] [.bptr 1 0]] [x,.box [.str t]] K:=by
 have hc:=c259 l hl 244 [] [.rptr [.str t] 0] g244_ok.plain (λc=>c.name==t) (λx _=>c244 x t) (λx=>rfl);unfold g243;refine Zf rfl rfl ?_;refine Yy hc rfl g259_ok.plain rfl rfl ?_;clear hc;rcases YbX t l 0 with ⟨q1,q2,q3,q4⟩|⟨q1,q4⟩
 ·rw[Nat.zero_add] at q3;have q4:idxF (λc=>c.name==t) l 0=((fndI 0 l t).1:Int):=q4;rw[q4];rw[q1] at hK;generalize (fndI 0 l t).1=i at q2 q3 hK ⊢;refine Ya (XA ..) ?_;rw[decide_eq_false (by omega)];refine Qi (Ya (Yo _ cdC _ _ _ l _ i q3) (Ya (ldr (cdLd _)) (Zf rfl rfl (Ys rfl ?_))));exact hK (cdC l[i]) _ rfl rfl
 ·have q4:idxF (λc=>c.name==t) l 0 = -1:=q4;rw[q4];rw[q1] at hK;refine Ya rfl ?_;refine Ze (Ya rfl (Zf rfl rfl (Ys rfl ?_)));exact hK [.str [],.bool false,iv 0,iv 0,iv 0,iv 0,iv 0,iv 0,.nils,.nils,.nils,iv 0] _ rfl rfl
theorem Zcv(cs:List AVal)(h:cs.all AVal.cell=true):cellsOf (.agg cs)=some cs:=by simp[cellsOf,h]
theorem YaP{α:Type}:∀(a b:List α),a.length=b.length→splice 0 a b=some a
 |[],[],_=>rfl
 |x::a,y::b,h=>by simp only[splice,YaP a b (by simpa using h)]
theorem c224(b:Bk)(hl:b.cards.length≤big)(t:Tx):PC 224 [bkV b,.str t] (.tup [iv (fndI 0 b.cards t).1,.bool (fndI 0 b.cards t).2]):=by
 refine Qd hP g224_ok rfl rfl ?_;unfold g224;refine Zf rfl rfl (Zf rfl rfl (Ya rfl (Ya rfl (Ya rfl ?_))));refine ZK hP rfl g243_ok rfl (c243 b.cards hl t _ _ (λcs σ h1 h2=>?_));refine Ya rfl (Ya rfl (Ya rfl ?_));refine Xx (row:=cs) (row':=cs) (Zcv cs h1) (by rw[h2]; rfl) (YaP _ _ (by rw[h2]; rfl)) ?_;rfl
theorem Zb8{P:Program}{GL:Globs}{c d:Bool}{K:AVal→Prop}{r1:SRes}{σ:List ABlk}(h1:r1=.ok (.bool d) [] [])(hK:K (.bool (c&&d))) :
  (W P GL).gr (.bool c) true (λk=>(W P GL).rd r1 k) λt1=>(W P GL).rd (Ym [.bool c,t1,.bool false] σ) K:=by
 cases c with
 |true=>exact Xa (Ya h1 (Ya rfl hK))
 |false=>exact Yb rfl (Ya rfl hK)
theorem Xb8{P:Program}{GL:Globs}{c d:Bool}{K:AVal→Prop}{r1 r2:SRes}{f3:AVal→AVal→SRes}{f4:AVal→SRes}{σ:List ABlk}{v1 v2 v3:AVal}{q1 q2 q3 q4:List Nat}(h1:r1=.ok v1 q1 [])(h2:r2=.ok v2 q2 [])(h3:f3 v1 v2=.ok v3 q3 [])(h4:f4 v3=.ok (.bool d) q4 [])(hK:K (.bool (c&&d))) :
  (W P GL).gr (.bool c) true (λk=>(W P GL).rd r1 k) λt1=>(W P GL).gr (.bool c) true (λk=>(W P GL).rd r2 k) λt2=>(W P GL).gr (.bool c) true (λk=>(W P GL).rd (f3 t1 t2) k) λt3=>(W P GL).gr (.bool c) true (λk=>(W P GL).rd (f4 t3) k) λt4=>(W P GL).rd (Ym [.bool c,t4,.bool false] σ) K:=by
 cases c with
 |true=>exact Xa (Ya h1 (Xa (Ya h2 (Xa (Ya h3 (Xa (Ya h4 (Ya rfl hK))))))))
 |false=>exact Yb rfl (Yb rfl (Yb rfl (Yb rfl (Ya rfl hK))))
theorem Qb8{P:Program}{GL:Globs}{c d:Bool}{K:AVal→Prop}{r1 r3:SRes}{f2 f4:AVal→SRes}{f5:AVal→AVal→SRes}{σ:List ABlk}{v1 v2 v3 v4:AVal}{q1 q2 q3 q4 q5:List Nat}(h1:r1=.ok v1 q1 [])(h2:f2 v1=.ok v2 q2 [])(h3:r3=.ok v3 q3 [])(h4:f4 v3=.ok v4 q4 [])(h5:f5 v2 v4=.ok (.bool d) q5 [])(hK:K (.bool (c&&d))) :
  (W P GL).gr (.bool c) true (λk=>(W P GL).rd r1 k) λt1=>(W P GL).gr (.bool c) true (λk=>(W P GL).rd (f2 t1) k) λt2=>(W P GL).gr (.bool c) true (λk=>(W P GL).rd r3 k) λt3=>(W P GL).gr (.bool c) true (λk=>(W P GL).rd (f4 t3) k) λt4=>(W P GL).gr (.bool c) true (λk=>(W P GL).rd (f5 t2 t4) k) λt5=>(W P GL).rd (Ym [.bool c,t5,.bool false] σ) K:=by
 cases c with
 |true=>exact Xa (Ya h1 (Xa (Ya h2 (Xa (Ya h3 (Xa (Ya h4 (Xa (Ya h5 (Ya rfl hK))))))))))
 |false=>exact Yb rfl (Yb rfl (Yb rfl (Yb rfl (Yb rfl (Ya rfl hK)))))
theorem Zb9{P:Program}{GL:Globs}{c d:Bool}{K:AVal→Prop}{r1 r2:SRes}{f3:AVal→SRes}{f4:AVal→AVal→SRes}{f5:AVal→SRes}{σ:List ABlk}{v1 v2 v3 v4:AVal}{q1 q2 q3 q4 q5:List Nat}(h1:r1=.ok v1 q1 [])(h2:r2=.ok v2 q2 [])(h3:f3 v2=.ok v3 q3 [])(h4:f4 v1 v3=.ok v4 q4 [])(h5:f5 v4=.ok (.bool d) q5 [])(hK:K (.bool (c&&d))) :
  (W P GL).gr (.bool c) true (λk=>(W P GL).rd r1 k) λt1=>(W P GL).gr (.bool c) true (λk=>(W P GL).rd r2 k) λt2=>(W P GL).gr (.bool c) true (λk=>(W P GL).rd (f3 t2) k) λt3=>(W P GL).gr (.bool c) true (λk=>(W P GL).rd (f4 t1 t3) k) λt4=>(W P GL).gr (.bool c) true (λk=>(W P GL).rd (f5 t4) k) λt5=>(W P GL).rd (Ym [.bool c,t5,.bool false] σ) K:=by
 cases c with
 |true=>exact Xa (Ya h1 (Xa (Ya h2 (Xa (Ya h3 (Xa (Ya h4 (Xa (Ya h5 (Ya rfl hK))))))))))
 |false=>exact Yb rfl (Yb rfl (Yb rfl (Yb rfl (Yb rfl (Ya rfl hK)))))
theorem Yb8{P:Program}{GL:Globs}{c d:Bool}{K:List ABlk→AVal→Prop}{r1:SRes}{f2:AVal→SRes}{f3:AVal→(AVal→List ABlk→Prop)→Prop}{g:List ABlk→List ABlk}{σ:List ABlk}{v1 v2:AVal}{q1 q2:List Nat}(h1:r1=.ok v1 q1 [])(h2:f2 v1=.ok v2 q2 [])(h3:∀k:AVal→List ABlk→Prop,k (.bool d) σ→f3 v2 k)(hK:K σ (.bool (c&&d))) :
  (W P GL).gr (.bool c) true (λk=>(W P GL).rd r1 k) λt1=>(W P GL).gr (.bool c) true (λk=>(W P GL).rd (f2 t1) k) λt2=>(W P GL).gw (.bool c) true (λk=>f3 t2 k) σ λt3 σ'=>(W P GL).rd (Ym [.bool c,t3,.bool false] (g σ')) (K σ'):=by
 cases c with
 |true=>exact Xa (Ya h1 (Xa (Ya h2 (Zb (h3 _ (Ya rfl hK))))))
 |false=>exact Yb rfl (Yb rfl (Zc rfl (Ya rfl hK)))
def Old(σ σ':List ABlk):Prop:=σ.length≤σ'.length∧∀c,c<σ.length→hget σ' c=hget σ c
theorem Old.trans{a b c:List ABlk}(h:Old a b)(k:Old b c):Old a c:=⟨Nat.le_trans h.1 k.1,λi hi=>by rw[k.2 i (by have:=h.1; omega),h.2 i hi]⟩
theorem Old.app(σ l:List ABlk):Old σ (σ++l):=⟨by simp,λ_ h=>YD l h⟩
theorem Old.get{σ σ':List ABlk}(h:Old σ σ'){c:Nat}{x:ABlk}(hx:hget σ c=x)(hd:x≠.dead):hget σ' c=x:=by
 rw[h.2 c (Zo hx hd)]; exact hx
theorem Bt.past{σ σ':List ABlk}{x:ABlk}(h:Bt σ.length (σ++[x]) σ'):Old σ σ':=by
 obtain⟨h1,h2⟩:=h;simp only[List.length_append,List.length_singleton] at h1 h2;exact⟨by omega,λc hc=>by rw[h2 c (by omega) (by omega),YD _ hc]⟩
def SeenT(m:List (Tx×Bool))(l:List Tx):Prop:=∀t,(tlook t m).getD false=l.any λd=>d==t
theorem SeenT.nil:SeenT [] []:=λt=>by simp[tlook]
theorem SeenT.put{m:List (Tx×Bool)}{l:List Tx}(h:SeenT m l)(c:Tx):SeenT (tput c true m) (l++[c]):=by
 intro t;rw[ZP,List.any_append,←h t];by_cases h2:t==c
 ·have e:t=c:=by simpa using h2
  simp[e]
 ·have h3:(c==t)=false:=by
   rw[Bool.eq_false_iff]; intro h; apply h2; simp at h; simp[h]
  rw[if_neg h2]; simp[h3]
theorem Qb0{α:Type}(l:List α)(f:α→Bool):(!l.any f)=l.all λx=>!f x:=by
 induction l with
 |nil=>rfl
 |cons x l ih=>simp[←ih]
theorem Qcp(b:Bk)(hc:b.cards.length≤big)(l:List Tx)(hl:l.length≤big)(ok:Bool){σ:List ABlk}(h0':hget σ 0=.box [cdV b.cards,foV b.formats]){K:List AVal→List ABlk→Prop}
 (hK:∀w σ',Old σ σ'→K [w,.bool (ok&&nmsGo b.cards [] l)] σ') :
  VV.loop (λag56 v57 τ=>VV.rd (Xh .lss false [(h0 v57),iv l.length] τ) λt76_58=>VV.test t76_58 (
   VV.rd (Xb 1 [txV l,(h0 v57)] τ) λt77_59=>VV.rd (Zd false 1 [t77_59] τ) λt78_60=>VV.rd (Zd true 2 [.bptr 0 0] τ) λt80_61=>
   VV.call (.call 224) [t80_61,t78_60] τ λt82_62 τ=>VV.rd (Qc 0 [t82_62] τ) λt83_63=>VV.rd (Qc 1 [t82_62] τ) λt84_64=>
   VV.gr (h1 v57) true (λk=>VV.rd (Yh [t84_64] τ) k) λt87_65=>VV.rd (Ym [(h1 v57),t87_65,(.bool false)] τ) λt88_66=>
   VV.gr t88_66 true (λk=>VV.rd (Yh [.map σ.length] τ) k) λt90_67=>VV.gr t88_66 true (λk=>VV.rd (Yh [t78_60] τ) k) λt91_68=>
   VV.gr t88_66 true (λk=>VV.rd (Zr true false (.bool false) [t90_67,t91_68] τ) k) λt92_69=>VV.gr t88_66 true (λk=>VV.rd (Xo .not [t92_69] τ) k) λt93_70=>
   VV.rd (Ym [t88_66,t93_70,(.bool false)] τ) λt94_71=>VV.wr (Xy true [.map σ.length,t78_60,(.bool true)] τ) τ λ_ τ=>
   VV.rd (Xh .add false [(h0 v57),(.int .i64 1)] τ) λt97_72=>ag56 [t97_72,t94_71] τ) (K v57 τ)) [(.int .i64 0),.bool ok] (σ ++ [.map []]):=by
 rw[bigE] at hl;have hnew:hget (σ++[.map []]) σ.length=.map (mpE []):=Zm _ _;have hlen:σ.length<(σ++[ABlk.map []]).length:=by simp
 refine Yj (ι:=Nat) (λi vs s=>∃ok' m,vs=[iv i,.bool ok']∧i≤l.length∧hget s σ.length=.map (mpE m)∧SeenT m (l.take i)∧Bt σ.length (σ++[.map []]) s∧(ok&&nmsGo b.cards [] l)=(ok'&&nmsGo b.cards (l.take i) (l.drop i))) (λi=>l.length-i) 0 ⟨ok,[],rfl,by omega,hnew,by simpa using SeenT.nil,Bt.refl _ _,by simp⟩ ?_;rintro i vs s again ⟨ok',m,rfl,hi,hm,hse,hbt,hr⟩ hag;have h0'':hget s 0=.box [cdV b.cards,foV b.formats]:=hbt.past.get h0' (by simp);refine Ya rfl (Yc (λh=>?_) (λh=>?_))
 ·have h:i<l.length:=by simpa using h
  refine Ya (Yo _ txC _ _ _ l _ i h) (Ya (ldr (txLd _)) (Ya (ld h0'' rfl) ?_));refine Yd (c224 b hc _) rfl g224_ok.plain rfl ?_;refine Ya rfl (Ya rfl (Zb8 rfl ?_));refine Xb8 rfl rfl (ZaS hm _) rfl ?_;refine Zf (Xa0 hm _ _) (Xp _ (Zo hm (by simp))) (Ya (Yk ..) ?_);rw[Qf (n:=i) (by omega)];have hml:=Zo hm (by simp);refine hag (i+1) _ _ (by omega) ⟨_,_,rfl,by omega,Qn _ hml,by rw[Xv _ _ h]; exact hse.put _,hbt.trans ⟨by simp,λc hc hne=>Xk _ hc hne⟩,?_⟩;rw[hr,YLD h,nmsGo,Xv _ _ h,hse,Qb0];simp only[Bool.and_assoc]
 ·have h:i=l.length:=by simp at h; omega
  subst h;rw[List.drop_length,nmsGo,Bool.and_true] at hr;have:=hK (iv (l.length:Int)) s hbt.past;rw[hr] at this; exact this
def SeenF(m:List (Tx×Bool))(l:List Fo):Prop:=∀t,(tlook t m).getD false=l.any λd=>d.name==t
theorem SeenF.put{m:List (Tx×Bool)}{l:List Fo}(h:SeenF m l)(c:Fo):SeenF (tput c.name true m) (l++[c]):=by
 intro t;rw[ZP,List.any_append,←h t];by_cases h2:t==c.name
 ·have e:t=c.name:=by simpa using h2
  simp[e]
 ·have h3:(c.name==t)=false:=by
   rw[Bool.eq_false_iff]; intro h; apply h2; simp at h; simp[h]
  rw[if_neg h2]; simp[h3]
theorem c184(b:Bk)(hf:bkFit b=true):PC 184 [bkV b] (.agg [iv (fmtGo b [] b.formats).1,iv (fmtGo b [] b.formats).2]):=by
 simp only[bkFit,ZQ,Bool.and_eq_true,decide_eq_true_eq] at hf;obtain⟨⟨fc,_⟩,fl,fa⟩:=hf;have fl':=fl;rw[bigE] at fl';refine Qd hP g184_ok rfl rfl ?_;unfold g184;refine Zf rfl rfl (Zf rfl rfl (Zf rfl rfl (Ya rfl (Ya rfl ?_))));refine Ya (v:=iv b.formats.length) (rd:=[]) (by simp[Zh]) ?_;refine Yj (ι:=Nat) (λi vs σ=>∃m,vs=[iv i]∧i≤b.formats.length∧hget σ 0=.box [cdV b.cards,foV b.formats]∧hget σ 1=.box [iv 0,iv 0]∧hget σ 2=.map (mpE m)∧SeenF m (b.formats.take i)∧fmtGo b [] b.formats=fmtGo b (b.formats.take i) (b.formats.drop i)) (λi=>b.formats.length-i) 0 ⟨[],rfl,by omega,rfl,rfl,rfl,λt=>by simp[tlook],by simp⟩ ?_;rintro i vs σ again ⟨m,rfl,hi,hb0,hb1,hb2,hse,hr⟩ hag;refine Ya rfl (Yc (λh=>?_) (λh=>?_));rotate_left
 ·have h:i=b.formats.length:=by simp at h; omega
  subst h;rw[List.drop_length,fmtGo] at hr;refine Ya rfl (Zf (stv hb1 rfl rfl rfl) (Xp _ (Zo hb1 (by simp))) (Ys (YG (Zo hb1 (by simp)) rfl) ?_));rw[hr]
 have h:i<b.formats.length:=by simpa using h
 have hix:=λ(s:List ABlk)=>Yo s foC false false 7 b.formats .i64 i h;have hfo:=List.all_eq_true.1 fa _ (List.getElem_mem h);have htk:=Xv _ _ h;rw[YLD h,fmtGo] at hr;generalize b.formats[i]=f at hix hfo htk hr;simp only[foFit,Bool.and_eq_true,decide_eq_true_eq] at hfo;obtain⟨fo1,fo2,fo3⟩:=hfo;refine Ya (hix _) (Ya (ldr (foLd f)) (Xx (row:=foC f) (row':=foC f) rfl rfl rfl ?_));have hB:=Zm σ (ABlk.box (foC f));have hb0':hget (σ++[ABlk.box (foC f)]) 0=.box [cdV b.cards,foV b.formats]:=Zn _ hb0 (by simp);have hb1':hget (σ++[ABlk.box (foC f)]) 1=.box [iv 0,iv 0]:=Zn _ hb1 (by simp);have hb2':hget (σ++[ABlk.box (foC f)]) 2=.map (mpE m):=Zn _ hb2 (by simp);generalize σ++[ABlk.box (foC f)]=τ at hB hb0' hb1' hb2' ⊢;generalize σ.length=c at hB ⊢;clear hb0 hb1 hb2;refine Ya (XA ..) ?_;refine Yb8 (g:=λs=>s) (σ:=τ) (d:=nameOk f.name) rfl (ld hB rfl) (λk hk=>Yd (c223 _ fo1) rfl g223_ok.plain rfl hk) ?_;refine Zb9 rfl rfl (ld hB rfl) (ZaS hb2' _) rfl ?_;refine Q9 rfl (ld hB rfl) (ZaH ..) ?_;refine Qb8 rfl (ld hB rfl) rfl (ld hB rfl) (XbV ..) ?_;refine Q9 rfl (ld hB rfl) (XbV ..) ?_;refine Q9 rfl (ld hB rfl) (ZaH ..) ?_;refine Q9 rfl (ld hB rfl) (XbV ..) ?_;refine Ya rfl (Ya (ld hB rfl) (Ya rfl (Ya (ld hB rfl) (Ya rfl ?_))));refine QE 3 (Zl (Ya rfl (Ze (Ya rfl (Zf rfl (YM _ _) ?_)))));refine Ya (v:=iv f.banned.length) (rd:=[]) (by simp[Zh]) ?_;refine Qcp b fc f.banned fo2 _ hb0' (λw τ2 o2=>?_);refine Ya rfl (Zl (Ya rfl (Ze (Ya rfl (Zf rfl (YM _ _) ?_)))));refine Ya (v:=iv f.single.length) (rd:=[]) (by simp[Zh]) ?_;refine Qcp b fc f.single fo3 _ (o2.get hb0' (by simp)) (λw τ3 o3=>?_);have o:=o2.trans o3;refine Ya rfl (Zl (Ya rfl (Qi ?_)));have hok:((((((((((decide ((i:Int)<240)&&nameOk f.name) && !(tlook f.name m).getD false)&&decide (0≤f.least))&&decide (f.least≤f.most))&&decide (f.most≤60))&&decide (0≤f.copies))&&decide (f.copies≤999))&&nmsGo b.cards [] f.banned)&&nmsGo b.cards [] f.single))=fmtOk b (b.formats.take i) f:=by
  have hti:(b.formats.take i).length=i:=by rw[List.length_take]; omega
  have e:decide ((i:Int)<240)=decide (i<240):=by congr 1; simp; omega
  rw[fmtOk,hti,hse,e];generalize (List.take i b.formats).any (λg=>g.name==f.name)=x1;generalize decide (i<240)=x2;generalize nameOk f.name=x3;cases x1<;>cases x2<;>cases x3<;>simp[Bool.and_assoc]
 have hb1'':=o.get hb1' (by simp);have hb2'':=o.get hb2' (by simp);have hB'':=o.get hB (by simp);have hb0'':=o.get hb0' (by simp);refine Ya (v:=.bool (!fmtOk b (b.formats.take i) f)) (rd:=[]) (by rw[←hok]; rfl) ?_;refine Yc (λh2=>?_) (λh2=>?_)
 ·have h2:fmtOk b (b.formats.take i) f=false:=by simpa using h2
  rw[h2,if_neg (by simp)] at hr;refine Ya rfl (Ya (ld hB'' rfl) (Ya rfl (Zf (stv hb1'' rfl rfl rfl) (Xp _ (Zo hb1'' (by simp))) (Ys (YG (Zo hb1'' (by simp)) rfl) ?_))));rw[hr]
 ·have h2:fmtOk b (b.formats.take i) f=true:=by simpa using h2
  rw[h2,if_pos rfl] at hr;refine Ya rfl (Ya (ld hB'' rfl) (Zf (Xa0 hb2'' _ _) (Xp _ (Zo hb2'' (by simp))) (Ya (Yk ..) ?_)));rw[Qf (n:=i) (by omega)];refine hag (i+1) _ _ (by omega) ⟨_,rfl,by omega,?_,?_,Qn _ (Zo hb2'' (by simp)),by rw[htk]; exact hse.put f,by rw[htk]; exact hr⟩
  ·exact Qo hb0'' (by simp) (by omega)
  ·exact Qo hb1'' (by simp) (by omega)
def QM(l:List Cd):Prop:=∀c∈l,(cdP c).length≤500000000
theorem c180'(cs:List Cd)(hf:ZQ cs=true)(hs:QM cs):PC 180 [cdV cs] (.agg [iv (cdsChk cs).1,iv (cdsChk cs).2]):=by
 refine c180 cs hf (λm hm c hc=>?_);have hfc:cdFit c=true:=by
  simp only[ZQ,Bool.and_eq_true] at hf;exact List.all_eq_true.1 hf.2 c hc
 have hfc':=hfc;simp only[cdFit,Bool.and_eq_true,decide_eq_true_eq] at hfc';obtain⟨q0,q1,q2,q3⟩:=hfc';exact c221 m cs hm c hfc (c223 _ q0) (c124 c q1 q2 q3 (hs c hc))
theorem c143(b:Bk)(hf:bkFit b=true)(hs:QM b.cards):PC 143 [bkV b] (.agg [iv (bkR b).1,iv (bkR b).2]):=by
 have hf':=hf;simp only[bkFit,Bool.and_eq_true] at hf';have hcf:=hf'.1;have p179:PC 179 [.rptr [cdV b.cards,foV b.formats] 0] (.agg [iv (cdsChk b.cards).1,iv (cdsChk b.cards).2]):=by
  refine Qd hP g179_ok rfl rfl ?_;unfold g179;refine Zf rfl rfl (Ya rfl (Ya rfl ?_));refine Yd (c180' _ hcf hs) rfl g180_ok.plain rfl ?_;exact Zf rfl rfl (Ys rfl rfl)
 have p181:PC 181 [.rptr [cdV b.cards,foV b.formats] 0] (.agg [iv (cdsL b.cards).1,iv (cdsL b.cards).2]):=by
  refine Qd hP g181_ok rfl rfl ?_;unfold g181;refine Zf rfl rfl (Ya rfl (Ya rfl ?_));refine Yd (c182 _ hcf) rfl g182_ok.plain rfl ?_;exact Zf rfl rfl (Ys rfl rfl)
 have p183:PC 183 [.rptr [cdV b.cards,foV b.formats] 0] (.agg [iv (fmtGo b [] b.formats).1,iv (fmtGo b [] b.formats).2]):=by
  refine Qd hP g183_ok rfl rfl ?_;unfold g183;refine Zf rfl rfl (Ya rfl ?_);refine Yd (c184 b hf) rfl g184_ok.plain rfl ?_;exact Zf rfl rfl (Ys rfl rfl)
 refine Qd hP g143_ok rfl rfl ?_;unfold g143;refine Zf rfl rfl (Zf rfl rfl (Ya rfl (Ya rfl (Ya rfl (Ya rfl ?_)))));refine QE 4 (Zl (Ya rfl (Ze (Ya rfl ?_))));refine Yy p179 rfl g179_ok.plain rfl rfl (Zf rfl rfl (Zf rfl rfl (Ya rfl (Ya rfl (Ya (Yaa ..) (Yc (λh=>?_) (λh=>Ya rfl ?_)))))))
 ·refine Ya rfl (Zf rfl rfl (Ys rfl ?_));rw[bkR,if_pos (by simpa using h)]
 refine Zl (Ya rfl (Ze (Ya rfl ?_)));refine Yy p181 rfl g181_ok.plain rfl rfl (Zf rfl rfl (Zf rfl rfl (Ya rfl (Ya rfl (Ya (Yaa ..) (Yc (λh2=>?_) (λh2=>Ya rfl ?_)))))))
 ·refine Ya rfl (Zf rfl rfl (Ys rfl ?_));rw[bkR,if_neg (by simpa using h),if_pos (by simpa using h2)]
 refine Zl (Ya rfl (Ze (Ya rfl ?_)));refine Yy p183 rfl g183_ok.plain rfl rfl (Zf rfl rfl (Zf rfl rfl (Ya rfl (Ya rfl (Ya (Yaa ..) (Yc (λh3=>?_) (λh3=>Ya rfl ?_)))))))
 ·refine Ya rfl (Zf rfl rfl (Ys rfl ?_));rw[bkR,if_neg (by simpa using h),if_neg (by simpa using h2)]
 refine Zl (Ya rfl (Qi (Ya rfl (Zf rfl rfl (Ys rfl ?_)))));rw[bkR,if_neg (by simpa using h),if_neg (by simpa using h2)];have h3:(fmtGo b [] b.formats).1=0:=by simpa using h3
 have key:∀(l pre:List Fo),(fmtGo b pre l).1=0→(fmtGo b pre l).2=0:=by
  intro l
  induction l with
  |nil=>intro pre _; rfl
  |cons f l ih=>
   intro pre;rw[fmtGo];split
   ·exact ih _
   ·intro h; simp at h
 rw[h3,key _ _ h3]
end Go.Ah.Tz
end
section
namespace Go.Ah.Tz
open Go.Proofs.Tryz (prog)
theorem NCall.case1{P:Program}{GL:Globs}{f:FuncId}{e:Bool}{sz:Nat}{v:AVal}{bs:List ABlk}(h1:NCall P GL f [.nils] v bs)(h2:NCall P GL f [.rsl e true sz []] v bs):NCall P GL f [.rsl e false sz []] v bs:=by
 intro w M vs hM hg hx
 match vs,hx with
 |[u],⟨hu,_⟩=>
  have hu':Den M noOwn (.rsl e false sz []) u:=hu;cases hu' with
  |rsl _ _ _ _ _ a cap blk off f q1 q2 q3 q4 q5 q6 q7 q8=>
   cases a with
   |none=>
    have:=q4 rfl;subst this;exact h1 w M _ hM hg ⟨.nils _,trivial⟩
   |some p=>exact h2 w M _ hM hg ⟨.rsl _ e true sz [] (some p) cap blk off f q1 (λ_=>rfl) q3 q4 q5 q6 q7 q8,trivial⟩
attribute [local irreducible] Ans.rd Ans.pu Ans.wr Ans.dr Ans.gr Ans.gw Ans.gl Ans.gd Ans.opt joinK W
theorem c96(l:List Int)(hl:l.length≤1000000000):NCall prog GL0 96 [rowV l] (.sl 0 0 l.length false) [.rows 1 (l.map cel)]:=by
 cases l with
 |nil=>
  refine NCall.case1 ?_ ?_
  ·refine Qv hP g96_ok rfl ?_;unfold g96;exact Ya rfl (Ze (Tidy.ghost 1 (.inl rfl)))
  ·refine Qv hP g96_ok rfl ?_;unfold g96;exact Ya rfl (Qi (Ya rfl (Zf rfl rfl (Tidy.refl _ _))))
 |cons x l=>
  refine Qv hP g96_ok rfl ?_;unfold g96;refine Ya rfl (Qi (Ya rfl ?_));refine Zf (v:=.sl 0 0 (x :: l).length false) (rd:=[]) (up:=[(0,.rows 1 ((x :: l).map cel))]) ?_ rfl (Tidy.refl _ _);show (match ZB 1 [] (rowV (x :: l)) with
   |some (ys,rd)=>bif Yu ys&&Nat.ble ((2*(([]:List (List AVal)).length+ys.length)+192)*8) (2 ^ 48) then SRes.ok (.sl 0 0 (([]:List (List AVal)).length+ys.length) false) rd ([]++[(0,ABlk.rows 1 ([]++ys))]) else SRes.stop
   | none=>.stop)=_
  have h1:ZB 1 [] (rowV (x::l))=some ((x::l).map cel,[]):=rfl;have h2:∀q:List Int,Yu (q.map cel)=true:=by
   intro q; induction q with
   |nil=>rfl
   |cons y q ih=>simp only[List.map_cons,Yu,ih,Bool.and_true]; rfl
  have h3:Nat.ble ((2*(([]:List (List AVal)).length+((x::l).map cel).length)+192)*8) (2 ^ 48)=true:=Nat.ble_eq_true_of_le (by simp only[List.length_map,List.length_nil]; omega);simp only[h1,h2,h3,Bool.and_self,cond_true];simp
theorem w96{l:List Int}(hl:l.length≤1000000000){σ:List ABlk}{K:AVal→List ABlk→Prop}(hK:K (.sl σ.length 0 l.length false) (σ++[.rows 1 (l.map cel)])):VV.call (.call 96) [rowV l] σ K:=by
 refine Yaf (c96 l hl) rfl g96_ok.plain rfl ?_;simp only[Xt,List.map_cons,List.map_nil,YN,AVal.ren,Qx,Nat.zero_add];exact hK
theorem d96{l:List Int}(hl:l.length≤1000000000){σ:List ABlk}{K:AVal→List Nat×List Nat→List ABlk→Prop}(hK:K (.sl σ.length 0 l.length false) ([],[σ.length]) (σ++[.rows 1 (l.map cel)])):VV.dcall (.call 96) [rowV l] σ K:=by
 refine Qaf (c96 l hl) rfl g96_ok.plain rfl ?_;simp only[Xt,List.map_cons,List.map_nil,YN,AVal.ren,Qx,Nat.zero_add,Y0];exact hK
theorem c112(l:List Th)(hl:l.length≤1000000000):NCall prog GL0 112 [thV l] (.sl 0 0 l.length false) [.rows 4 (l.map thC)]:=by
 cases l with
 |nil=>
  refine NCall.case1 ?_ ?_
  ·refine Qv hP g112_ok rfl ?_;unfold g112;exact Ya rfl (Ze (Tidy.ghost 4 (.inl rfl)))
  ·refine Qv hP g112_ok rfl ?_;unfold g112;exact Ya rfl (Qi (Ya rfl (Zf rfl rfl (Tidy.refl _ _))))
 |cons x l=>
  refine Qv hP g112_ok rfl ?_;unfold g112;refine Ya rfl (Qi (Ya rfl ?_));refine Zf (v:=.sl 0 0 (x :: l).length false) (rd:=[]) (up:=[(0,.rows 4 ((x :: l).map thC))]) ?_ rfl (Tidy.refl _ _);show (match ZB 4 [] (thV (x :: l)) with
   |some (ys,rd)=>bif Yu ys&&Nat.ble ((2*(([]:List (List AVal)).length+ys.length)+192)*32) (2 ^ 48) then SRes.ok (.sl 0 0 (([]:List (List AVal)).length+ys.length) false) rd ([]++[(0,ABlk.rows 4 ([]++ys))]) else SRes.stop
   | none=>.stop)=_
  have h1:ZB 4 [] (thV (x::l))=some ((x::l).map thC,[]):=rfl;have h2:∀q:List Th,Yu (q.map thC)=true:=by
   intro q; induction q with
   |nil=>rfl
   |cons y q ih=>simp only[List.map_cons,Yu,ih,Bool.and_true]; rfl
  have h3:Nat.ble ((2*(([]:List (List AVal)).length+((x::l).map thC).length)+192)*32) (2 ^ 48)=true:=Nat.ble_eq_true_of_le (by simp only[List.length_map,List.length_nil]; omega);simp only[h1,h2,h3,Bool.and_self,cond_true];simp
theorem d112{l:List Th}(hl:l.length≤1000000000){σ:List ABlk}{K:AVal→List Nat×List Nat→List ABlk→Prop}(hK:K (.sl σ.length 0 l.length false) ([],[σ.length]) (σ++[.rows 4 (l.map thC)])):VV.dcall (.call 112) [thV l] σ K:=by
 refine Qaf (c112 l hl) rfl g112_ok.plain rfl ?_;simp only[Xt,List.map_cons,List.map_nil,XaE,AVal.ren,Qx,Nat.zero_add,Y0];exact hK
theorem c59(s:St)(hs:StLe 1000000000 s):NCall prog GL0 59 [stV s] (.agg (stO s 0)) (stB s):=by
 refine Qv hP g59_ok rfl ?_;unfold g59;have w1:IntKind.i64.wrap (0+1)=1:=by decide
 have w2:IntKind.i64.wrap (1+1)=2:=by decide
 repeat first|refine Ya rfl ?_|refine Zf rfl rfl ?_|refine Yi rfl ?_|refine Xi rfl rfl ?_
 refine w96 hs.attack ?_;simp only[List.length_cons,List.length_nil,List.nil_append,List.cons_append,Nat.zero_add,Nat.reduceAdd];repeat first|refine Ya rfl ?_|refine Zf rfl rfl ?_|refine Yi rfl ?_|refine Xi rfl rfl ?_
 refine QE 3 (Zl ?_);refine Ya rfl (Ze ?_);repeat first|refine Ya rfl ?_|refine Zf rfl rfl ?_|refine Yi rfl ?_|refine Xi rfl rfl ?_
 refine d96 hs.s0.deck ?_;simp only[List.length_cons,List.length_nil,List.nil_append,List.cons_append,Nat.zero_add,Nat.reduceAdd];repeat first|refine Ya rfl ?_|refine Zf rfl rfl ?_|refine Yi rfl ?_|refine Xi rfl rfl ?_
 refine d96 hs.s0.hand ?_;simp only[List.length_cons,List.length_nil,List.nil_append,List.cons_append,Nat.zero_add,Nat.reduceAdd];repeat first|refine Ya rfl ?_|refine Zf rfl rfl ?_|refine Yi rfl ?_|refine Xi rfl rfl ?_
 refine d96 hs.s0.grave ?_;simp only[List.length_cons,List.length_nil,List.nil_append,List.cons_append,Nat.zero_add,Nat.reduceAdd];repeat first|refine Ya rfl ?_|refine Zf rfl rfl ?_|refine Yi rfl ?_|refine Xi rfl rfl ?_
 refine d96 hs.s0.told ?_;simp only[List.length_cons,List.length_nil,List.nil_append,List.cons_append,Nat.zero_add,Nat.reduceAdd];repeat first|refine Ya rfl ?_|refine Zf rfl rfl ?_|refine Yi rfl ?_|refine Xi rfl rfl ?_
 refine d112 hs.s0.units ?_;simp only[List.length_cons,List.length_nil,List.nil_append,List.cons_append,Nat.zero_add,Nat.reduceAdd];repeat first|refine Ya rfl ?_|refine Zf rfl rfl ?_|refine Yi rfl ?_|refine Xi rfl rfl ?_
 refine QN (by kernel_rfl) (Ya rfl ?_);rw[w1];refine Zl ?_;refine Ya rfl (Ze ?_);repeat first|refine Ya rfl ?_|refine Zf rfl rfl ?_|refine Yi rfl ?_|refine Xi rfl rfl ?_
 refine d96 hs.s1.deck ?_;simp only[List.length_cons,List.length_nil,List.nil_append,List.cons_append,Nat.zero_add,Nat.reduceAdd];repeat first|refine Ya rfl ?_|refine Zf rfl rfl ?_|refine Yi rfl ?_|refine Xi rfl rfl ?_
 refine d96 hs.s1.hand ?_;simp only[List.length_cons,List.length_nil,List.nil_append,List.cons_append,Nat.zero_add,Nat.reduceAdd];repeat first|refine Ya rfl ?_|refine Zf rfl rfl ?_|refine Yi rfl ?_|refine Xi rfl rfl ?_
 refine d96 hs.s1.grave ?_;simp only[List.length_cons,List.length_nil,List.nil_append,List.cons_append,Nat.zero_add,Nat.reduceAdd];repeat first|refine Ya rfl ?_|refine Zf rfl rfl ?_|refine Yi rfl ?_|refine Xi rfl rfl ?_
 refine d96 hs.s1.told ?_;simp only[List.length_cons,List.length_nil,List.nil_append,List.cons_append,Nat.zero_add,Nat.reduceAdd];repeat first|refine Ya rfl ?_|refine Zf rfl rfl ?_|refine Yi rfl ?_|refine Xi rfl rfl ?_
 refine d112 hs.s1.units ?_;simp only[List.length_cons,List.length_nil,List.nil_append,List.cons_append,Nat.zero_add,Nat.reduceAdd];repeat first|refine Ya rfl ?_|refine Zf rfl rfl ?_|refine Yi rfl ?_|refine Xi rfl rfl ?_
 refine QN (by kernel_rfl) (Ya rfl ?_);rw[w2];refine Zl ?_;refine Ya rfl (Qi ?_);repeat first|refine Ya rfl ?_|refine Zf rfl rfl ?_|refine Yi rfl ?_|refine Xi rfl rfl ?_
 refine Ys rfl ?_;refine Tidy.gc [2,3,4,5,7,6,8,9,10,12,11] (by decide) (by simp) ?_ rfl;simp only[gcH,List.map_cons,List.map_nil,hget,YN,XaE]
end Go.Ah.Tz
end
section
namespace Go.Ah.Tz
open Go.Proofs.Tryz (prog)
def ilook{α:Type}(t:Int):List (Int×α)→Option α
 |[]=>none
 |p::l=>if t==p.1 then some p.2 else ilook t l
def mpG{α:Type}(f:α→AVal)(l:List (Int×α)):List (AVal×AVal):=l.map λp=>(iv p.1,f p.2)
theorem YaY{α:Type}(f:α→AVal)(t:Int):∀l:List (Int×α),alook (iv t) (mpG f l)=some ((ilook t l).map f)
 |[]=>rfl
 |p::l=>by
  simp only[mpG,List.map_cons,alook,keyEq,ilook,ikEq,cond_true];cases h:t==p.1 with
  |true=>rfl
  |false=>exact YaY f t l
theorem Ybq{α:Type}(f:α→AVal)(t:Int)(v:α):∀l:List (Int×α),ilook t l=none→aput (iv t) (f v) (mpG f l)=some (mpG f (l++[(t,v)]))
 |[],_=>rfl
 |p::l,h=>by
  rw[ilook] at h;split at h
  ·cases h
  ·rename_i h2;have h2:(t==p.1)=false:=by simpa using h2
   have:=Ybq f t v l h;simp only[mpG] at this;simp only[mpG,List.map_cons,List.cons_append,aput,keyEq,ikEq,cond_true,h2,this]
theorem Xao{α:Type}(t:Int):∀ (a b:List (Int × α)),ilook t (a ++ b)=(match ilook t a with
 |some v=>some v
 | none=>ilook t b)
 |[],b=>rfl
 |p::a,b=>by
  simp only[List.cons_append,ilook];split
  ·rfl
  ·exact Xao t a b
theorem Qak{α:Type}(t:Int):∀l:List (Int×α),(ilook t l).isSome=(l.map (·.1)).contains t
 |[]=>rfl
 |p::l=>by
  simp only[ilook,List.map_cons,List.contains_cons];cases h:t==p.1 with
  |true=>simp
  |false=>simp only[Bool.false_eq_true,if_false,Bool.false_or]; exact Qak t l
theorem Ybf{α:Type}(f:α→AVal)(z:AVal)(ok:Bool){σ:List ABlk}{b:Nat}{l:List (Int×α)}(h:hget σ b=.map (mpG f l))(t:Int):Zr false ok z [.map b,iv t] σ=.ok (lookV ok z ((ilook t l).map f)) [b] []:=by
 simp only[Zr,Q0,mapOf,h,YaY,cond_true]
theorem Ycp{α:Type}(f:α→AVal){σ:List ABlk}{b:Nat}{l:List (Int×α)}(h:hget σ b=.map (mpG f l))(t:Int)(v:α)(hn:ilook t l=none):Xy false [.map b,iv t,f v] σ=.ok .junk [] [(b,.map (mpG f (l++[(t,v)])))]:=by
 simp only[Xy,Q0,h,Ybq f t v l hn,cond_true]
structure SdAt (row:List AVal) (j:Nat) (x:Sd):Prop where
 h0:partA false (j+0) 1 row=some (iv x.life)
 h1:partA false (j+1) 1 row=some (iv x.mana)
 h2:partA false (j+2) 1 row=some (iv x.most)
 h3:partA false (j+3) 1 row=some (rowV x.deck)
 h4:partA false (j+4) 1 row=some (rowV x.hand)
 h5:partA false (j+5) 1 row=some (rowV x.grave)
 h6:partA false (j+6) 1 row=some (thV x.units)
 h7:partA false (j+7) 1 row=some (rowV x.told)
theorem sdAt0(s:St):SdAt (stC s) 7 s.s0:=⟨rfl,rfl,rfl,rfl,rfl,rfl,rfl,rfl⟩
theorem sdAt1(s:St):SdAt (stC s) 15 s.s1:=⟨rfl,rfl,rfl,rfl,rfl,rfl,rfl,rfl⟩
attribute [local irreducible] Ans.rd Ans.pu Ans.wr Ans.dr Ans.gr Ans.gw Ans.gl Ans.gd Ans.opt joinK W
set_option maxHeartbeats 2000000
theorem c120(l:List Int)(hl:l.length≤big)(id:FuncId)(fs cs:List AVal)(hp:Ql prog id=true)(f:Int→Bool)(hc:∀x∈l,PC id (fs++[iv x]++cs) (.bool (f x)))(hr:∀x,roL (fs++[iv x]++cs)=true) :
  PC 120 [rowV l,.func (.func id) fs cs] (iv (idxF f l 0)):=by
 rw[bigE] at hl;refine Qd hP g120_ok rfl rfl ?_;unfold g120;refine Ya (v:=iv l.length) (rd:=[]) (by simp[Zh]) ?_;refine Yj (ι:=Nat) (λi vs s=>vs=[iv i]∧i≤l.length∧idxF f l 0=idxF f (l.drop i) i) (λi=>l.length-i) 0 ⟨rfl,by omega,by simp⟩ ?_;rintro i vs s again ⟨rfl,hi,hr'⟩ hag;refine Ya rfl (Yc (λh=>?_) (λh=>?_))
 ·have h:i<l.length:=by simpa using h
  refine Ya (Yo _ cel _ _ _ l _ i h) (Ya (ldr rfl) ?_);refine Yd (hc _ (List.getElem_mem h)) rfl hp (hr _) ?_;rw[YLD h,idxF] at hr';refine Yc (λh2=>?_) (λh2=>?_)
  ·rw[if_pos h2] at hr'; rw[hr']; rfl
  ·rw[if_neg (by rw[h2]; simp)] at hr';refine Ya (Yk ..) ?_;rw[Qf (n:=i) (by omega)];exact hag (i+1) _ _ (by omega) ⟨rfl,by omega,by rw[hr']; push_cast; rfl⟩
 ·have h:i=l.length:=by simp at h; omega
  subst h;rw[List.drop_length,idxF] at hr';rw[hr']
theorem c185(l:List Int)(hl:l.length≤big)(id:FuncId)(fs cs:List AVal)(hp:Ql prog id=true)(f:Int→Bool)(hc:∀x∈l,PC id (fs++[iv x]++cs) (.bool (f x)))(hr:∀x,roL (fs++[iv x]++cs)=true)(hr2:roL [rowV l,.func (.func id) fs cs]=true) :
  PC 185 [rowV l,.func (.func id) fs cs] (.bool (l.any f)):=by
 refine Qd hP g185_ok rfl rfl ?_;unfold g185;refine Yd (c120 l hl id fs cs hp f hc hr) rfl g120_ok.plain hr2 ?_;refine Ya (ZaH ..) ?_;rw[XaT f l 0 (by omega)]
theorem c186(b:Bk)(x:Int):PC 186 [iv x,.rptr [.rptr [cdV b.cards,foV b.formats] 0] 0] (.bool (decide (x<0)||decide ((b.cards.length:Int)≤x))):=by
 refine Qd hP g186_ok rfl rfl ?_;unfold g186;refine Ya (XA ..) ?_;refine Xcs (λ_=>rfl) (λ_=>ldr rfl) (λ_=>rfl) (λ_=>rfl) (λ_=>ldr rfl) (v6:=iv b.cards.length) (q6:=[]) (λ_=>by simp[Zh]) (λ_=>ZaH ..) rfl
theorem QbB(n:Nat)(l:List Int)(most:Int):(!(decide ((l.length:Int)>most)||l.any λx=>decide (x<0)||decide ((n:Int)≤x)))=Xq n l most:=by
 rw[Xq,Bool.not_or,Qb0]
 congr 1
 ·rw[Bool.eq_iff_iff]; simp
 ·congr 1; funext x
  rw[Bool.eq_iff_iff]; simp
end Go.Ah.Tz
end
section
namespace Go.Ah.Tz
open Go.Proofs.Tryz (prog)
theorem Xcg(f:Int→AVal)(z:AVal)(o:Option Int):lookV true z (o.map f)=.tup [(o.map f).getD z,.bool o.isSome]:=by cases o<;>rfl
theorem ZbO{σ:List ABlk}{b:Nat}{row:List AVal}(h:hget σ b=.box [.rptr row 0])(l:List Int)(id:FuncId):Zt σ 1000 [rowV l,.func (.func id) [] [.bptr b 0]]=some ([rowV l,.func (.func id) [] [.rptr [.rptr row 0] 0]],[b]):=by
 show Zt σ (997+1+1+1) _=_;simp[Zt,h,AVal.ro]
attribute [local irreducible] Ans.rd Ans.pu Ans.wr Ans.dr Ans.gr Ans.gw Ans.gl Ans.gd Ans.opt joinK W
set_option maxHeartbeats 4000000
@[reducible] def bkC(b:Bk):List AVal:=[cdV b.cards,foV b.formats]
theorem Xbw(b:Bk)(l:List Int)(hl:l.length≤big)(most:Int){σ:List ABlk}{b4:Nat}(hb:hget σ b4=.box [.rptr (bkC b) 0]){R K:List ABlk→Prop}(hR:Xq b.cards.length l most=false→∀σ',Old σ σ'→R σ')(hK:Xq b.cards.length l most=true→∀σ',Old σ σ'→K σ') :
  VV.wr (Ye [.nils,(.int .i64 0)] [] σ) σ λt11_62 σ=>VV.wr (Qb 2 [t11_62,.agg [rowV l,iv most]] σ) σ λ_ σ=>
  VV.rd (Za 0 [t11_62] σ) λt88_63=>VV.rd (Zd false 1 [t88_63] σ) λt89_64=>VV.rd (Xe [t89_64] σ) λt90_65=>
  VV.rd (Za 1 [t11_62] σ) λt91_66=>VV.rd (Zd false 1 [t91_66] σ) λt92_67=>VV.rd (Xh .gtr false [t90_65,t92_67] σ) λt93_68=>
  VV.gr t93_68 false (λk=>VV.rd (Za 0 [t11_62] σ) k) λt95_69=>VV.gr t93_68 false (λk=>VV.rd (Zd false 1 [t95_69] σ) k) λt96_70=>
  VV.gr t93_68 false (λk=>VV.rd (Yp (.func 186) 0 [.bptr b4 0] σ) k) λt97_71=>VV.gw t93_68 false (λk=>VV.call (.call 185) [t96_70,t97_71] σ k) σ λt98_72 σ=>
  VV.rd (Ym [t93_68,(.bool true),t98_72] σ) λt99_73=>VV.test t99_73 (R σ) (K σ):=by
 refine Xx (row:=[rowV l,iv most]) rfl rfl rfl ?_;have hB:=Zm σ (ABlk.box [rowV l,iv most]);have hb':hget (σ++[ABlk.box [rowV l,iv most]]) b4=.box [.rptr (bkC b) 0]:=Zn _ hb (by simp);have ho:=Old.app σ [ABlk.box [rowV l,iv most]];generalize σ++[ABlk.box [rowV l,iv most]]=τ at hB hb' ho ⊢;generalize σ.length=c at hB ⊢;refine Ya rfl (Ya (ld hB rfl) (Ya (v:=iv l.length) (rd:=[]) (by simp[Zh]) (Ya rfl (Ya (ld hB rfl) (Ya (Y4 ..) ?_)))));refine Qb9 (d:=l.any λx=>decide (x<0)||decide ((b.cards.length:Int)≤x)) (λ_=>rfl) (λ_=>ld hB rfl) (λ_=>rfl) (λ_ k hk=>?_) ?_
 ·exact Yy (c185 l hl 186 [] [.rptr [.rptr (bkC b) 0] 0] g186_ok.plain (λx=>decide (x<0)||decide ((b.cards.length:Int)≤x)) (λx _=>c186 b x) (λx=>rfl) rfl) rfl g185_ok.plain (ZbO hb' l 186) rfl hk
 have he:=QbB b.cards.length l most;refine Yc (λh=>hR ?_ _ ho) (λh=>hK ?_ _ ho)
 ·rw[←he,h]; rfl
 ·rw[←he,h]; rfl
theorem QcB(b:Bk)(next:Int)(u:Th)(met:Bool) :
  (!((((((((met||decide (u.card<0))||decide ((b.cards.length:Int)≤u.card)) || !((b.cards[u.card.toNat]?).getD default).unit)||decide (u.harm<0))||decide (1000000<u.harm))||decide (u.id<1))||decide (next≤u.id))))=(Zw b next u && !met):=by
 rw[Zw];cases met with
 |true=>simp
 |false=>
  by_cases h1:u.card<0
  ·have:¬0≤u.card:=by omega
   simp[h1,this]
  by_cases h2:(b.cards.length:Int)≤u.card
  ·have:¬u.card<b.cards.length:=by omega
   simp[h2,this]
  have e1:0≤u.card:=by omega
  have e2:u.card<b.cards.length:=by omega
  have e3:u.card.toNat<b.cards.length:=by omega
  simp only[h1,h2,e1,e2,decide_true,decide_false,Bool.or_false,Bool.true_and,Bool.not_false,Bool.and_true,Bool.false_or];rw[List.getElem?_eq_getElem e3];simp only[Option.map_some,Option.getD_some];generalize b.cards[u.card.toNat].unit=q;rw[Bool.eq_iff_iff];cases q<;>simp<;>omega
theorem c144(b:Bk)(s:St)(side:Int)(j:Nat)(x:Sd)(hx:SdAt (stC s) j x)(hj:∀σ,Xg 2 8 [.rptr (stC s) (0+7),iv side] σ=.ok (.rptr (stC s) j) [] [])(hs:SdLe 1000000000 x)(ids:List (Int×Int)){m:Nat}{σ:List ABlk}(hm:hget σ m=.map (mpG iv ids)){K:AVal→List ABlk→Prop}
 (hF:(Xm b.cards.length x&&Xr b s.next (ids.map (·.1)) x.units)=false→∀σ',K (.bool false) σ')
 (hT:(Xm b.cards.length x&&Xr b s.next (ids.map (·.1)) x.units)=true→∀σ',Bt m σ σ'→hget σ' m=.map (mpG iv (ids++x.units.map λu=>(u.id,side)))→K (.bool true) σ') :
  g144 VV [.rptr (bkC b) 0,.rptr (stC s) 0,iv side,.map m] σ K:=by
 unfold g144;refine Zf rfl (YM _ _) ?_;have hB:=Zm σ (ABlk.box [.rptr (bkC b) 0]);have hm':hget (σ++[ABlk.box [.rptr (bkC b) 0]]) m=.map (mpG iv ids):=Zn _ hm (by simp);have ho:=Old.app σ [ABlk.box [.rptr (bkC b) 0]];have hml:=Zo hm (by simp);have hne:m≠σ.length:=by omega
 generalize σ++[ABlk.box [.rptr (bkC b) 0]]=τ at hB hm' ho ⊢;generalize σ.length=c at hB hne ⊢;refine Ya rfl (Ya rfl (Ya (hj _) (Ya rfl (Ya rfl (Ya (ldr hx.h0) ?_)))));refine Yd (c57 _) rfl g57_ok.plain rfl (Ya rfl ?_);refine Yb9 (λ_=>rfl) (λ_=>rfl) (λ_=>rfl) (λ_=>ldr hx.h1) (λ_=>XA ..) ?_;refine Zca (λ_=>rfl) (λ_=>rfl) (λ_=>rfl) (λ_=>ldr hx.h1) (λ_ k hk=>Yd (c57 _) rfl g57_ok.plain rfl hk) (λ_=>rfl) ?_;refine Yb9 (λ_=>rfl) (λ_=>rfl) (λ_=>rfl) (λ_=>ldr hx.h2) (λ_=>XA ..) ?_;refine Yb9 (λ_=>rfl) (λ_=>rfl) (λ_=>rfl) (λ_=>ldr hx.h2) (λ_=>Y4 ..) ?_;refine Ycs (λ_=>rfl) (λ_=>rfl) (λ_=>rfl) (λ_=>ldr hx.h6) (v5:=iv x.units.length) (q5:=[]) (λ_=>by simp[Zh]) (λ_=>Y4 ..) ?_;refine Yc (λh=>hF ?_ _) (λh=>?_)
 ·have:Xm b.cards.length x=false:=by
   rw[Bool.eq_false_iff]; intro hh;simp only[Xm,Bool.and_eq_true,decide_eq_true_eq] at hh;obtain⟨p1,p2,p3,p4,p5,_,_,_,_,p6⟩:=hh;simp only[p1,p3,Bool.not_true,Bool.false_or,Bool.or_false,Bool.or_eq_true,decide_eq_true_eq] at h;omega
  rw[this]; rfl
 simp only[Bool.or_eq_false_iff,Bool.not_eq_false',decide_eq_false_iff_not] at h;obtain⟨⟨⟨⟨⟨p1,p2⟩,p3⟩,p4⟩,p5⟩,p6⟩:=h;have hh:Xm b.cards.length x=(Xq b.cards.length x.deck 60&&(Xq b.cards.length x.hand 10&&(Xq b.cards.length x.grave 1000000&&Xq b.cards.length x.told 1000000))):=by
  have q2:decide (0≤x.mana)=true:=by simp; omega
  have q4:decide (0≤x.most)=true:=by simp; omega
  have q5:decide (x.most≤10)=true:=by simp; omega
  have q6:decide (x.units.length≤7)=true:=by simp; omega
  rw[Xm,p1,p3,q2,q4,q5,q6]; simp
 rw[hh] at hF hT;clear hh p1 p2 p3 p4 p5 p6;refine Ya rfl (Ya rfl (Ya (ldr hx.h3) (Ya rfl (Ya rfl (Ya rfl (Ya (ldr hx.h4) (Ya rfl (Ya rfl (Ya rfl (Ya (ldr hx.h5) (Ya rfl (Ya rfl (Ya rfl (Ya (ldr hx.h7) (Ya rfl (Ya rfl ?_))))))))))))))));have d1:=hs.deck;have d2:=hs.hand;have d3:=hs.grave;have d4:=hs.told;have d5:=hs.units;refine QE 5 (Zl (Ya rfl (Ze (Ya rfl ?_))));refine Xbw b x.deck (by rw[bigE]; omega) 60 hB (λh _ _=>hF (by rw[h]; rfl) _) (λa1 σ1 o1=>Ya rfl (Zl (Ya rfl (Ze (Ya rfl ?_)))));refine Xbw b x.hand (by rw[bigE]; omega) 10 (o1.get hB (by simp)) (λh _ _=>hF (by rw[a1,h]; rfl) _) (λa2 σ2 o2=>Ya rfl (Zl (Ya rfl (Ze (Ya rfl ?_)))))
 replace o2:=o1.trans o2
 refine Xbw b x.grave (by rw[bigE]; omega) 1000000 (o2.get hB (by simp)) (λh _ _=>hF (by rw[a1,a2,h]; rfl) _) (λa3 σ3 o3=>Ya rfl (Zl (Ya rfl (Ze (Ya rfl ?_)))))
 replace o3:=o2.trans o3
 refine Xbw b x.told (by rw[bigE]; omega) 1000000 (o3.get hB (by simp)) (λh _ _=>hF (by rw[a1,a2,a3,h]; rfl) _) (λa4 σ4 o4=>Ya rfl (Zl (Ya rfl (Qi ?_))))
 replace o4:=o3.trans o4
 rw[a1,a2,a3,a4] at hF hT;simp only[Bool.and_self,Bool.true_and] at hF hT;have hB4:=o4.get hB (by simp);have hm4:=o4.get hm' (by simp);have oo:=ho.trans o4;clear o1 o2 o3 o4 ho hB hm' hm;refine Ya rfl (Ya rfl (Ya (ldr hx.h6) (Ya (v:=iv x.units.length) (rd:=[]) (by simp[Zh]) ?_)));refine Yj (ι:=Nat) (λi vs τ=>vs=[iv i]∧i≤x.units.length∧hget τ c=.box [.rptr (bkC b) 0]∧hget τ m=.map (mpG iv (ids++(x.units.take i).map λu=>(u.id,side)))∧Bt m σ τ∧Xr b s.next (ids.map (·.1)) x.units=Xr b s.next ((ids++(x.units.take i).map λu=>(u.id,side)).map (·.1)) (x.units.drop i)) (λi=>x.units.length-i) 0
  ⟨rfl,by omega,hB4,by simpa using hm4,⟨oo.1,λc hc _=>oo.2 c hc⟩,by simp⟩ ?_
 clear hB4 hm4 oo;rintro i vs τ1 again ⟨rfl,hi,hB,hm,hbt,hr⟩ hag;refine Ya rfl (Yc (λh=>?_) (λh=>?_));rotate_left
 ·have h:i=x.units.length:=by simp at h; omega
  subst h;rw[List.drop_length,Xr] at hr;rw[List.take_length] at hm;exact hT hr _ hbt hm
 have h:i<x.units.length:=by simpa using h
 have hix:=λ(s:List ABlk)=>Yo s thC false false 4 x.units .i64 i h;have htk:=Xv _ _ h;rw[YLD h,Xr] at hr;generalize x.units[i]=u at hix htk hr;generalize hq:ids++(x.units.take i).map (λu=>(u.id,side))=cur at hm hr;have hcur:ids++(x.units.take (i+1)).map (λu=>(u.id,side))=cur++[(u.id,side)]:=by rw[htk,List.map_append,←List.append_assoc,hq]; rfl
 refine Ya (hix _) (Ya (ldr rfl) (Xx (row:=thC u) (row':=thC u) rfl rfl rfl ?_));have hU:=Zm τ1 (ABlk.box (thC u));have hB':hget (τ1++[ABlk.box (thC u)]) c=.box [.rptr (bkC b) 0]:=Zn _ hB (by simp);have hm':hget (τ1++[ABlk.box (thC u)]) m=.map (mpG iv cur):=Zn _ hm (by simp);have hml':=Zo hm' (by simp);have hbt':Bt m σ (τ1++[ABlk.box (thC u)]):=hbt.trans (Bt.gr m (Old.app _ _).1 (Old.app _ _).2);generalize τ1++[ABlk.box (thC u)]=τ2 at hU hB' hm' hml' hbt' ⊢;generalize τ1.length=d at hU ⊢;refine Ya rfl (Ya (ld hU rfl) (Ya (Ybf iv _ _ hm' _) ?_));rw[Xcg];refine Ya rfl (Ya rfl ?_);refine Zaj (λ_=>rfl) (λ_=>ld hU rfl) (λ_=>XA ..) ?_;refine QcK (λ_=>rfl) (λ_=>ld hU rfl) (λ_=>ld hB' rfl) (λ_=>rfl) (λ_=>rfl) (λ_=>ldr rfl) (v7:=iv b.cards.length) (q7:=[]) (λ_=>by simp[Zh]) (λ_=>ZaH ..) ?_;refine Ycz (d:=!((b.cards[u.card.toNat]?).getD default).unit) (λ_=>ld hB' rfl) (λ_=>rfl) (λ_=>rfl) (λ_=>ldr rfl) (λ_=>rfl) (λ_=>ld hU rfl) (v7:=.rptr (cdC ((b.cards[u.card.toNat]?).getD default)) 0) (q7:=[]) (λhc=>?_) (λ_=>rfl) (λ_=>ldr (cdLd1 _)) (λ_=>rfl) ?_
 ·simp only[Bool.or_eq_false_iff,decide_eq_false_iff_not] at hc;have e3:u.card.toNat<b.cards.length:=by omega
  rw[List.getElem?_eq_getElem e3];exact Ycv _ cdC _ _ _ b.cards _ u.card (by omega) e3
 refine Zaj (λ_=>rfl) (λ_=>ld hU rfl) (λ_=>XA ..) ?_;refine Zaj (λ_=>rfl) (λ_=>ld hU rfl) (λ_=>Y4 ..) ?_;refine Zaj (λ_=>rfl) (λ_=>ld hU rfl) (λ_=>XA ..) ?_;refine Xcs (λ_=>rfl) (λ_=>ld hU rfl) (λ_=>rfl) (λ_=>rfl) (λ_=>rfl) (v6:=iv s.next) (q6:=[]) (λ_=>ldr rfl) (λ_=>ZaH ..) ?_;have hue:=QcB b s.next u (ilook u.id cur).isSome;have hk:=Qak u.id cur;refine Yc (λh2=>hF ?_ _) (λh2=>?_)
 ·rw[h2] at hue;rw[hr,←hk];have hue:(Zw b s.next u && !(ilook u.id cur).isSome)=false:=hue.symm;cases h5:Zw b s.next u with
  |false=>rfl
  |true=>
   rw[h5] at hue;have:(ilook u.id cur).isSome=true:=by simpa using hue
   rw[this]; rfl
 ·rw[h2] at hue;have hue:(Zw b s.next u && !(ilook u.id cur).isSome)=true:=hue.symm;simp only[Bool.and_eq_true,Bool.not_eq_true'] at hue;have hnone:ilook u.id cur=none:=by
   have:=hue.2;cases h5:ilook u.id cur with
   |none=>rfl
   |some v=>rw[h5] at this; cases this
  rw[hue.1,←hk,hue.2,Bool.not_false,Bool.true_and,Bool.true_and] at hr;refine Ya rfl (Ya (ld hU rfl) (Zf (Ycp iv hm' _ side hnone) (Xp _ hml') (Ya (Yk ..) ?_)));rw[Qf (n:=i) (by omega)];refine hag (i+1) _ _ (by omega) ⟨rfl,by omega,Qo hB' (by simp) (λe=>hne e),?_,hbt'.trans ⟨by simp,λc hc hne=>Xk _ hc hne⟩,?_⟩
  ·rw[hcur]; exact Qn _ hml'
  ·rw[hcur,hr,List.map_append]; rfl
end Go.Ah.Tz
end
section
namespace Go.Ah.Tz
open Go.Proofs.Tryz (prog)
theorem XaU(k:Int)(a:Int):∀l:List Th,ilook a (l.map λu=>(u.id,k))=(fnd l a).map λ_=>k
 |[]=>rfl
 |u::l=>by
  have:=XaU k a l;simp only[List.map_cons,ilook,fnd,List.findIdx?_cons];by_cases h:u.id=a
  ·have h2:(a==u.id)=true:=by simp[h]
   simp[h]
  ·have h2:(a==u.id)=false:=by simp; exact λe=>h e.symm
   simp only[h2,Bool.false_eq_true,if_false,decide_eq_false h,this,fnd,Option.map_map];rfl
theorem XbY(s:St)(a:Int):ilook a (s.s0.units.map (λu=>(u.id,(0:Int)))++s.s1.units.map (λu=>(u.id,(1:Int))))=if (unitR s a).2.2=true then some (unitR s a).1 else none:=by
 rw[Xao,XaU,XaU,unitR];cases fnd s.s0.units a with
 |some k=>rfl
 |none=>cases fnd s.s1.units a<;>rfl
attribute [local irreducible] Ans.rd Ans.pu Ans.wr Ans.dr Ans.gr Ans.gw Ans.gl Ans.gd Ans.opt joinK W
set_option maxHeartbeats 4000000
theorem bkLd(b:Bk):partA true 0 2 (bkC b)=some (bkV b):=rfl
theorem Qt{e:Int}{b:Bk}{s:St}{bare:Bool}(h:mayR e b s bare=true):e=0∧1≤s.turn∧s.turn≤4096∧0≤s.mover∧s.mover≤1∧0≤s.phase∧s.phase≤2∧0≤s.result∧s.result≤3∧((s.result==0)==(s.phase != 2))=true∧1≤s.next∧s.next≤1000000∧s.attack.length≤7:=by
 simp only[mayR,Bool.and_eq_true,decide_eq_true_eq] at h;obtain⟨h1,h2,h3,h4,h5,h6,h7,h8,h9,h10,h11,h12,h13,h14⟩:=h;refine⟨h1,h2,h3,h4,h5,h6,h7,h8,h9,h10,h11,h12,?_⟩;by_cases hp:s.phase≠1
 ·rw[if_pos hp] at h14; simp at h14; simp[h14]
 ·rw[if_neg hp] at h14; simp at h14; exact h14.2.2.1
theorem YbY(o:Option Int):lookV true (iv 0) (o.map iv)=.tup [iv (o.getD 0),.bool o.isSome]:=by cases o<;>rfl
theorem ZbY(o:Option Bool):lookV false (.bool false) (o.map AVal.bool)=.bool (o.getD false):=by cases o<;>rfl
theorem Ybw(t:Int):∀l:List Int,(ilook t (l.map λa=>(a,true))).getD false=l.contains t
 |[]=>rfl
 |a::l=>by
  simp only[List.map_cons,ilook,List.contains_cons];cases h:t==a with
  |true=>rfl
  |false=>simp only[Bool.false_eq_true,if_false,Bool.false_or]; exact Ybw t l
theorem c111(b:Bk)(hf:bkFit b=true)(hsm:QM b.cards)(s:St)(hs:StLe 1000000000 s)(bare:Bool):PC 111 [.rptr (bkC b) 0,.rptr (stC s) 0,.bool bare] (.bool (mayR (bkR b).1 b s bare)):=by
 have h143:=c143 b hf hsm;generalize (bkR b).1=e at h143 ⊢;generalize (bkR b).2=ep at h143;have hat:=hs.attack;refine Qd hP g111_ok rfl rfl ?_;unfold g111;refine Ya rfl (Ya rfl (Ya (ldr rfl) (Ya (XA ..) ?_)));refine Xn λk4 hk4=>?_;have kbad:(mayR e b s bare=true→False)→k4 [.bool true] []:=by
  intro h; rw[hk4]; refine Ze ?_;rw[Bool.eq_false_iff.2 (λhm=>h hm)]
 apply cutF (R:=k4 [.bool false] []) (1≤s.turn∧s.turn≤4096∧0≤s.mover∧s.mover≤1∧0≤s.phase∧s.phase≤2∧0≤s.result∧s.result≤3∧((s.result==0)==(s.phase != 2))=true∧1≤s.next∧s.next≤1000000∧s.attack.length≤7∧e=0)
 ·intro hR;clear hk4;refine Yc (λh=>by rw[h]; exact kbad (λhm=>by have:=Qt hm; simp at h; omega)) (λb1=>Ya rfl (Ya rfl (Ya (ldr rfl) (Ya (Y4 ..) ?_))));refine Yc (λh=>by rw[h]; exact kbad (λhm=>by have:=Qt hm; simp at h; omega)) (λb2=>Ya rfl (Ya rfl (Ya (ldr rfl) (Ya (XA ..) ?_))));refine Yc (λh=>by rw[h]; exact kbad (λhm=>by have:=Qt hm; simp at h; omega)) (λb3=>Ya rfl (Ya rfl (Ya (ldr rfl) (Ya (Y4 ..) ?_))));refine Yc (λh=>by rw[h]; exact kbad (λhm=>by have:=Qt hm; simp at h; omega)) (λb4=>Ya rfl (Ya rfl (Ya (ldr rfl) (Ya (XA ..) ?_))));refine Yc (λh=>by rw[h]; exact kbad (λhm=>by have:=Qt hm; simp at h; omega)) (λb5=>Ya rfl (Ya rfl (Ya (ldr rfl) (Ya (Y4 ..) ?_))));refine Yc (λh=>by rw[h]; exact kbad (λhm=>by have:=Qt hm; simp at h; omega)) (λb6=>Ya rfl (Ya rfl (Ya (ldr rfl) (Ya (XA ..) ?_))));refine Yc (λh=>by rw[h]; exact kbad (λhm=>by have:=Qt hm; simp at h; omega)) (λb7=>Ya rfl (Ya rfl (Ya (ldr rfl) (Ya (Y4 ..) ?_))));refine Yc (λh=>by rw[h]; exact kbad (λhm=>by have:=Qt hm; simp at h; omega)) (λb8=>Ya rfl (Ya rfl (Ya (ldr rfl) (Ya (Xf ..) (Ya rfl (Ya rfl (Ya (ldr rfl) (Ya (Yaa ..) (Ya (XcG ..) ?_)))))))));have hx:(!(decide (s.result=0)==decide (s.phase≠2))) = !((s.result==0)==(s.phase != 2)):=by
   congr 1
   have e1:decide (s.result=0)=(s.result==0):=by rw[Bool.eq_iff_iff]; simp
   have e2:decide (s.phase≠2)=(s.phase != 2):=by rw[Bool.eq_iff_iff]; simp
   rw[e1,e2]
  rw[hx];refine Yc (λh=>by rw[h]; exact kbad (λhm=>by have:=(Qt hm).2.2.2.2.2.2.2.2.2.1; rw[this] at h; cases h)) (λb9=>Ya rfl (Ya rfl (Ya (ldr rfl) (Ya (XA ..) ?_))));refine Yc (λh=>by rw[h]; exact kbad (λhm=>by have:=Qt hm; simp at h; omega)) (λb10=>Ya rfl (Ya rfl (Ya (ldr rfl) (Ya (Y4 ..) ?_))));refine Yc (λh=>by rw[h]; exact kbad (λhm=>by have:=Qt hm; simp at h; omega)) (λb11=>Ya rfl (Ya rfl (Ya (ldr rfl) (Ya (v:=iv s.attack.length) (rd:=[]) (by simp[Zh]) (Ya (Y4 ..) ?_)))));refine Yc (λh=>by rw[h]; exact kbad (λhm=>by have:=Qt hm; simp at h; omega)) (λb12=>Ya rfl (Ya (ldr (bkLd b)) ?_));refine Yd h143 rfl g143_ok.plain rfl (Ya rfl (Ya (Yaa ..) ?_));by_cases he:e=0
  ·rw[show decide (e≠0)=false by simp[he]];simp at b1 b2 b3 b4 b5 b6 b7 b8 b10 b11 b12;exact hR ⟨by omega,by omega,by omega,by omega,by omega,by omega,by omega,by omega,by simpa using b9,by omega,by omega,by omega,he⟩
  ·rw[show decide (e≠0)=true by simp[he]];exact kbad (λhm=>he (Qt hm).1)
 rintro⟨p1,p2,p3,p4,p5,p6,p7,p8,p9,p10,p11,p12,p13⟩;rw[hk4]; clear hk4 kbad k4;have hmay:mayR e b s bare=(Zu b s&&(if s.phase≠1 then decide (s.attack.length=0) else !(decide (s.attack.length=0) && !bare)&&(s.struck&&attOk s [] s.attack))):=by
  rw[mayR,decide_eq_true p13,decide_eq_true p1,decide_eq_true p2,decide_eq_true p3,decide_eq_true p4,decide_eq_true p5,decide_eq_true p6,decide_eq_true p7,decide_eq_true p8,p9,decide_eq_true p10,decide_eq_true p11,decide_eq_true p12];rfl
 rw[hmay]; clear hmay h143 p1 p2 p3 p4 p5 p6 p7 p8 p9 p10 p11 p13;have w1:IntKind.i64.wrap (0+1)=1:=by decide
 have w2:IntKind.i64.wrap (1+1)=2:=by decide
 refine Qi (Zf rfl rfl (QE 3 (Zl (Ya rfl (Ze ?_)))));refine ZK hP rfl g144_ok rfl (c144 b s 0 7 s.s0 (sdAt0 s) (λ_=>rfl) hs.s0 [] (by rfl) (λh σ1=>?_) (λh σ1 t1 m1=>?_))
 ·refine Ya rfl (Ze ?_);have h:(Xm b.cards.length s.s0&&Xr b s.next [] s.s0.units)=false:=h;have:Zu b s=false:=by
   rw[Zu,←Bool.and_assoc,h]; rfl
  rw[this]; rfl
 refine Ya rfl (Qi (Ya rfl ?_));rw[w1];refine Zl (Ya rfl (Ze ?_));refine ZK hP rfl g144_ok rfl (c144 b s 1 15 s.s1 (sdAt1 s) (λ_=>rfl) hs.s1 _ m1 (λh2 σ2=>?_) (λh2 σ2 t2 m2=>?_))
 ·refine Ya rfl (Ze ?_);have e0:(([]++s.s0.units.map λu=>(u.id,(0:Int))):List (Int×Int)).map (·.1)=s.s0.units.map Th.id:=by simp[Function.comp_def]
  rw[e0] at h2;have:Zu b s=false:=by
   rw[Zu,h2]; simp
  rw[this]; rfl
 have hso:Zu b s=true:=by
  have e0:(([]++s.s0.units.map λu=>(u.id,(0:Int))):List (Int×Int)).map (·.1)=s.s0.units.map Th.id:=by simp[Function.comp_def]
  rw[e0] at h2;have h:(Xm b.cards.length s.s0&&Xr b s.next [] s.s0.units)=true:=h;rw[Zu,←Bool.and_assoc,h,h2]; rfl
 rw[hso,Bool.true_and];clear hso h h2 m1 t1 t2;refine Ya rfl (Qi (Ya rfl ?_));rw[w2];refine Zl (Ya rfl (Qi (Ya rfl (Ya rfl (Ya (ldr rfl) (Ya (Yaa ..) ?_))))));refine Yc (λhp=>?_) (λhp=>?_)
 ·have hp:s.phase≠1:=by simpa using hp
  rw[if_pos hp];refine Ya rfl (Ya rfl (Ya (ldr rfl) (Ya (v:=iv s.attack.length) (rd:=[]) (by simp[Zh]) (Ya (Xf ..) ?_))))
  congr 1
  rw[Bool.eq_iff_iff]; simp
 have hp:¬s.phase≠1:=by simpa using hp
 rw[if_neg hp];refine Zf rfl (YM _ _) (Ya rfl (Ya rfl (Ya (ldr rfl) (Ya (v:=iv s.attack.length) (rd:=[]) (by simp[Zh]) ?_))));have hnew:hget (σ2++[ABlk.map []]) σ2.length=.map (mpG AVal.bool (([]:List Int).map λa=>(a,true))):=Zm _ _;have hold:=Zn [ABlk.map []] m2 (by simp);have hne:σ2.length≠0:=by have:=Zo m2 (by simp); omega
 generalize σ2++[ABlk.map []]=τ at hnew hold ⊢;generalize σ2.length=mb at hnew hne ⊢;refine Yj (ι:=Nat) (λi vs τ=>vs=[iv i]∧i≤s.attack.length∧hget τ 0=.map (mpG iv (([]++s.s0.units.map λu=>(u.id,(0:Int)))++s.s1.units.map λu=>(u.id,(1:Int))))∧hget τ mb=.map (mpG AVal.bool ((s.attack.take i).map λa=>(a,true)))∧attOk s [] s.attack=attOk s (s.attack.take i) (s.attack.drop i)) (λi=>s.attack.length-i) 0
  ⟨rfl,by omega,hold,by simpa using hnew,by simp⟩ ?_
 clear hnew hold m2;rintro i vs τ1 again ⟨rfl,hi,hm0,hmb,hr⟩ hag;refine Ya rfl (Yc (λh=>?_) (λh=>?_));rotate_left
 ·have h:i=s.attack.length:=by simp at h; omega
  subst h;rw[List.drop_length,attOk] at hr;rw[hr,Bool.and_true];refine Ya rfl (Ya rfl (Ya (ldr rfl) ?_));cases hst:s.struck with
  |false=>
   refine Yb rfl (Yb rfl (Xc rfl (Xc rfl (Xc rfl (Xc rfl (Xc rfl (Xc rfl (Yb rfl (Ya rfl ?_)))))))));simp
  |true=>
   refine Xa (Ya rfl (Xa (Ya rfl ?_)));cases bare with
   |true=>
    refine Yb rfl (Yb rfl (Yb rfl (Yb rfl (Yb rfl (Yb rfl (Xa (Ya rfl (Ya rfl ?_))))))));simp
   |false=>
    refine Xa (Ya rfl (Xa (Ya rfl (Xa (Ya rfl (Xa (Ya (ldr rfl) (Xa (Ya (v:=iv s.attack.length) (rd:=[]) (by simp[Zh]) (Xa (Ya (Y4 ..) (Xa (Ya rfl (Ya rfl ?_))))))))))))));show AVal.bool _=_
    congr 1
    rw[Bool.eq_iff_iff];simp[List.length_pos_iff]
 have h:i<s.attack.length:=by simpa using h
 have htk:=Xv _ _ h;rw[YLD h,attOk] at hr;refine Ya (Yo _ cel _ _ _ s.attack _ i h) (Ya (ldr rfl) (Ya (Ybf iv _ _ hm0 _) ?_));rw[YbY,List.nil_append,XbY];generalize s.attack[i]=a at htk hr ⊢;generalize ho:(if (unitR s a).2.2=true then some (unitR s a).1 else none)=o;have ho1:o.isSome=(unitR s a).2.2:=by rw[←ho]; cases (unitR s a).2.2<;>rfl
 have ho2:(unitR s a).2.2=true→o.getD 0=(unitR s a).1:=by intro q; rw[←ho,if_pos q]; rfl
 refine Ya rfl (Ya rfl (Ya rfl ?_));refine Ycs (λ_=>rfl) (λ_=>rfl) (λ_=>rfl) (λ_=>rfl) (λ_=>ldr rfl) (λ_=>Yaa ..) ?_;refine Zaj (d:=(ilook a ((s.attack.take i).map λa=>(a,true))).getD false) (λ_=>rfl) (λ_=>rfl) (λ_=>by rw[Ybf AVal.bool _ _ hmb,ZbY]) ?_;have hmet:=Ybw a (s.attack.take i);refine Yc (λh2=>?_) (λh2=>?_)
 ·have:attOk s [] s.attack=false:=by
   rw[hr,Bool.eq_false_iff]; intro q;simp only[Bool.and_eq_true,decide_eq_true_eq,Bool.not_eq_true'] at q;obtain⟨⟨q1,q2⟩,q3,q4⟩:=q;rw[ho1,ho2 q1,q1,q2,hmet,q3] at h2;simp at h2
  rw[this]; simp
 ·simp only[Bool.or_eq_false_iff,Bool.not_eq_false',decide_eq_false_iff_not,Decidable.not_not] at h2;obtain⟨⟨q1,q2⟩,q3⟩:=h2;rw[ho1] at q1;rw[ho2 q1] at q2;have hnone:ilook a ((s.attack.take i).map λa=>(a,true))=none:=by
   have:=Qak a ((s.attack.take i).map λa=>(a,true));simp only[List.map_map,Function.comp_def,List.map_id'] at this;rw[←hmet,q3] at this;cases h5:ilook a ((s.attack.take i).map λa=>(a,true)) with
   |none=>rfl
   |some v=>rw[h5] at this; cases this
  rw[hmet] at q3;rw[q1,q2,q3] at hr;have hml:=Zo hmb (by simp);refine Zf (Ycp AVal.bool hmb a true hnone) (Xp _ hml) (Ya (Yk ..) ?_);rw[Qf (n:=i) (by omega)];refine hag (i+1) _ _ (by omega) ⟨rfl,by omega,Qo hm0 (by simp) (λe=>hne e),?_,?_⟩
  ·rw[htk,List.map_append]; exact Qn _ hml
  ·rw[htk,hr]; simp
end Go.Ah.Tz
end
section
namespace Go.Ah.Tz
open Go.Proofs.Tryz (prog)
def RI(σ:List ABlk)(rd:List Nat)(v:AVal)(l:List Int):Prop:=Bor (hp σ) rd v (rowV l)
def RT(σ:List ABlk)(rd:List Nat)(v:AVal)(l:List Th):Prop:=Bor (hp σ) rd v (thV l)
theorem XcD:∀ {l:List Int},∀r∈l.map cel,roL r=true:=by
 intro l r hr;obtain⟨x,_,rfl⟩:=List.mem_map.1 hr; rfl
theorem th_ro:∀ {l:List Th},∀r∈l.map thC,roL r=true:=by
 intro l r hr;obtain⟨x,_,rfl⟩:=List.mem_map.1 hr; rfl
theorem RI.own{σ:List ABlk}{rd:List Nat}{b:Nat}{ex:Bool}{l:List Int}{n:Nat}(hb:hget σ b=.rows 1 (l.map cel))(hin:b∈rd)(hn:n=l.length):RI σ rd (.sl b 0 n ex) l:=
 Bor.own hb hin (by simp[hn]) (XaA _ _ (by simp[hn])) XcD
theorem RI.nils{σ:List ABlk}{rd:List Nat}:RI σ rd .nils []:=Bor.weak (Bor.ro rfl) (λM u d=>d.nils_rsl 1)
theorem RT.nils{σ:List ABlk}{rd:List Nat}:RT σ rd .nils []:=Bor.weak (Bor.ro rfl) (λM u d=>d.nils_rsl 4)
theorem RT.own{σ:List ABlk}{rd:List Nat}{b:Nat}{ex:Bool}{l:List Th}{n:Nat}(hb:hget σ b=.rows 4 (l.map thC))(hin:b∈rd)(hn:n=l.length):RT σ rd (.sl b 0 n ex) l:=
 Bor.own hb hin (by simp[hn]) (XaA _ _ (by simp[hn])) th_ro
@[reducible] def stQ(s:St)(a d0 h0 g0 u0 t0 d1 h1 g1 u1 t1:AVal):List AVal:=[iv s.turn,iv s.mover,iv8 s.phase,.bool s.struck,iv8 s.result,a,iv s.next,
 iv s.s0.life,iv s.s0.mana,iv s.s0.most,d0,h0,g0,u0,t0,iv s.s1.life,iv s.s1.mana,iv s.s1.most,d1,h1,g1,u1,t1]
def SB(σ:List ABlk)(rd:List Nat)(cs:List AVal)(s:St):Prop:=BorL (hp σ) rd cs (stC s)
theorem SB.mk{σ:List ABlk}{rd:List Nat}{s:St}{a d0 h0 g0 u0 t0 d1 h1 g1 u1 t1:AVal}(x1:RI σ rd a s.attack)(x2:RI σ rd d0 s.s0.deck)(x3:RI σ rd h0 s.s0.hand)(x4:RI σ rd g0 s.s0.grave)(x5:RT σ rd u0 s.s0.units)(x6:RI σ rd t0 s.s0.told)
 (y2:RI σ rd d1 s.s1.deck)(y3:RI σ rd h1 s.s1.hand)(y4:RI σ rd g1 s.s1.grave)(y5:RT σ rd u1 s.s1.units)(y6:RI σ rd t1 s.s1.told):SB σ rd (stQ s a d0 h0 g0 u0 t0 d1 h1 g1 u1 t1) s:=
 .cons (Bor.ro rfl) <| .cons (Bor.ro rfl) <| .cons (Bor.ro rfl) <| .cons (Bor.ro rfl) <| .cons (Bor.ro rfl) <| .cons x1 <| .cons (Bor.ro rfl) <| .cons (Bor.ro rfl) <| .cons (Bor.ro rfl) <| .cons (Bor.ro rfl) <| .cons x2 <| .cons x3 <| .cons x4 <| .cons x5 <| .cons x6 <|
 .cons (Bor.ro rfl) <| .cons (Bor.ro rfl) <| .cons (Bor.ro rfl) <| .cons y2 <| .cons y3 <| .cons y4 <| .cons y5 <| .cons y6 .nil
theorem SB.ro{σ:List ABlk}{rd:List Nat}(s:St):SB σ rd (stC s) s:=BorL.ro rfl
theorem SB.agg{σ:List ABlk}{rd:List Nat}{cs:List AVal}{s:St}(h:SB σ rd cs s):Bor (hp σ) rd (.agg cs) (stV s):=Bor.agg h
def zSd:Sd:=⟨0,0,0,[],[],[],[],[]⟩
def zSt:St:=⟨0,0,0,false,0,[],0,zSd,zSd⟩
theorem SB.zero{σ:List ABlk}{rd:List Nat}:SB σ rd (stQ zSt .nils .nils .nils .nils .nils .nils .nils .nils .nils .nils .nils) zSt:=SB.mk .nils .nils .nils .nils .nils .nils .nils .nils .nils .nils .nils
structure Ev where
 kind:Int
 side:Int
 card:Int
 id:Int
 other:Int
 n:Int
 cards:List Int
 deriving DecidableEq,Inhabited
theorem Zb7(s:St)(n:Nat):(AVal.agg (stO s 0)).ren (Qx n)=.agg (stO s n):=by
 simp[AVal.ren,renL,Qx,Nat.add_comm]; omega
theorem Qb6(s:St)(n:Nat):Xt n (stB s)=stB s:=by
 simp only[Xt,stB,sdB,List.map_cons,List.map_append,List.map_nil,YN,XaE]
theorem Qbx:∀l:List Int,QV (l.map cel)=true
 |[]=>rfl
 |x::l=>by simp only[List.map_cons,QV,Qbx l,Bool.and_true]; rfl
theorem Xb0:∀l:List Th,QV (l.map thC)=true
 |[]=>rfl
 |x::l=>by simp only[List.map_cons,QV,Xb0 l,Bool.and_true]; rfl
theorem Xcl(s:St):Xap (stB s)=true:=by
 simp only[stB,sdB,List.cons_append,List.nil_append,Xap,ABlk.nosh,Qbx,Xb0,Bool.and_self]
theorem w59{s:St}(hs:StLe 1000000000 s){σ:List ABlk}{rd:List Nat}{cs:List AVal}(h:SB σ rd cs s){K:AVal→List ABlk→Prop}(hK:K (.agg (stO s σ.length)) (σ++stB s)):VV.call (.call 59) [.agg cs] σ K:=by
 refine QbL (c59 s hs) rfl g59_ok.plain (.cons (SB.agg h) .nil) rfl (Xcl s) ?_;rw[Zb7,Qb6]; exact hK
theorem SdLe.mono{n m:Nat}{s:Sd}(h:SdLe n s)(k:n≤m):SdLe m s:=⟨Nat.le_trans h.1 k,Nat.le_trans h.2 k,Nat.le_trans h.3 k,Nat.le_trans h.4 k,Nat.le_trans h.5 k⟩
theorem StLe.mono{n m:Nat}{s:St}(h:StLe n s)(k:n≤m):StLe m s:=⟨Nat.le_trans h.1 k,h.2.mono k,h.3.mono k⟩
theorem SB.copy{σ:List ABlk}{rd:List Nat}{s:St}{n:Nat}(key:∀i x,(stB s)[i]?=some x→hget σ (n+i)=x)(hin:∀i,i<11→n+i∈rd):SB σ rd (stO s n) s:=
 SB.mk (RI.own (key 0 _ rfl) (hin 0 (by decide)) rfl) (RI.own (key 1 _ rfl) (hin 1 (by decide)) rfl) (RI.own (key 2 _ rfl) (hin 2 (by decide)) rfl) (RI.own (key 3 _ rfl) (hin 3 (by decide)) rfl) (RT.own (key 4 _ rfl) (hin 4 (by decide)) rfl) (RI.own (key 5 _ rfl) (hin 5 (by decide)) rfl)
  (RI.own (key 6 _ rfl) (hin 6 (by decide)) rfl) (RI.own (key 7 _ rfl) (hin 7 (by decide)) rfl) (RI.own (key 8 _ rfl) (hin 8 (by decide)) rfl) (RT.own (key 9 _ rfl) (hin 9 (by decide)) rfl) (RI.own (key 10 _ rfl) (hin 10 (by decide)) rfl)
theorem ZaA{agg:Bool}{σ:List ABlk}{b j n:Nat}{row:List AVal}{v:AVal}(hb:hget σ b=.box row)(hv:partA agg j n row=some v):cellV agg n (.bptr b j) σ=some v:=by
 simp only[cellV,hb,hv]
def St.side(s:St)(k:Int):Sd:=if k=0 then s.s0 else s.s1
def St.put(s:St)(k:Int)(d:Sd):St:=if k=0 then { s with s0:=d } else { s with s1:=d }
@[reducible] def zStC:List AVal:=stQ zSt .nils .nils .nils .nils .nils .nils .nils .nils .nils .nils .nils
end Go.Ah.Tz
end
section
namespace Go.Ah.Tz
open Go.Proofs.Tryz (prog)
attribute [local irreducible] Ans.rd Ans.pu Ans.wr Ans.dr Ans.gr Ans.gw Ans.gl Ans.gd Ans.opt joinK W
set_option maxHeartbeats 4000000
theorem c118(l:List Th)(hl:l.length≤1000000000)(id:FuncId)(fs cs:List AVal)(hp:Ql prog id=true)(f:Th→Bool)(hc:∀x∈l,PC id (fs++[.agg (thC x)]++cs) (.bool (f x)))(hr:∀x,roL (fs++[.agg (thC x)]++cs)=true) :
  PC 118 [thV l,.func (.func id) fs cs] (iv (idxF f l 0)):=by
 refine Qd hP g118_ok rfl rfl ?_;unfold g118;refine Ya (v:=iv l.length) (rd:=[]) (by simp[Zh]) ?_;refine Yj (ι:=Nat) (λi vs s=>vs=[iv i]∧i≤l.length∧idxF f l 0=idxF f (l.drop i) i) (λi=>l.length-i) 0 ⟨rfl,by omega,by simp⟩ ?_;rintro i vs s again ⟨rfl,hi,hr'⟩ hag;refine Ya rfl (Yc (λh=>?_) (λh=>?_))
 ·have h:i<l.length:=by simpa using h
  refine Ya (Yo _ thC _ _ _ l _ i h) (Ya (ldr rfl) ?_);refine Yd (hc _ (List.getElem_mem h)) rfl hp (hr _) ?_;rw[YLD h,idxF] at hr';refine Yc (λh2=>?_) (λh2=>?_)
  ·rw[if_pos h2] at hr'; rw[hr']; rfl
  ·rw[if_neg (by rw[h2]; simp)] at hr';refine Ya (Yk ..) ?_;rw[Qf (n:=i) (by omega)];exact hag (i+1) _ _ (by omega) ⟨rfl,by omega,by rw[hr']; push_cast; rfl⟩
 ·have h:i=l.length:=by simp at h; omega
  subst h;rw[List.drop_length,idxF] at hr';rw[hr']
theorem c119(u:Th)(id:Int):PC 119 [.agg (thC u),.rptr [iv id] 0] (.bool (decide (u.id=id))):=by
 refine Qd hP g119_ok rfl rfl ?_;unfold g119;exact Zf rfl rfl (Ya rfl (Ya (ld rfl rfl) (Ya rfl (Ya (Xf ..) rfl))))
theorem Qbv(id:Int):∀(l:List Th) (n:Int),idxF (λu:Th=>decide (u.id=id)) l n=match fnd l id with
  |some k=>n+k
  |none=>-1
 |[],n=>rfl
 |u::l,n=>by
  have ih:=Qbv id l (n+1);simp only[idxF,fnd,List.findIdx?_cons] at ih ⊢;by_cases h:u.id=id
  ·simp[h]
  ·simp only[decide_eq_false h,Bool.false_eq_true,if_false,ih];cases List.findIdx? (λu=>decide (u.id=id)) l with
   |none=>rfl
   |some k=>show n+1+(k:Int)=n+((k+1:Nat):Int); omega
theorem c71(s:St)(hs:StLe 1000000000 s)(id:Int):PC 71 [stV s,iv id] (unitV s id):=by
 have h0:=c118 s.s0.units hs.s0.units 119 [] [.rptr [iv id] 0] g119_ok.plain (λu=>decide (u.id=id)) (λx _=>c119 x id) (λx=>rfl);have h1:=c118 s.s1.units hs.s1.units 119 [] [.rptr [iv id] 0] g119_ok.plain (λu=>decide (u.id=id)) (λx _=>c119 x id) (λx=>rfl);have w1:IntKind.i64.wrap (0+1)=1:=by decide
 have w2:IntKind.i64.wrap (1+1)=2:=by decide
 rw[Qbv] at h0 h1;refine Qd hP g71_ok rfl rfl ?_;unfold g71;refine Zf rfl rfl (Zf rfl rfl ?_);refine QE 3 (Zl ?_);refine Ya rfl (Ze (Ya rfl (Ya rfl (Ya rfl (Ya rfl (Ya rfl ?_))))));refine Yy h0 rfl g118_ok.plain rfl rfl ?_;simp only[unitV,unitR];cases q0:fnd s.s0.units id with
 |some k=>
  simp only[q0];refine Ya (ZaH ..) ?_;rw[decide_eq_true (by omega)];exact Ze (by simp)
 |none=>
  simp only[q0];refine Ya rfl (Qi (Ya rfl ?_));rw[w1];refine Zl ?_;refine Ya rfl (Ze (Ya rfl (Ya rfl (Ya rfl (Ya rfl (Ya rfl ?_))))));refine Yy h1 rfl g118_ok.plain rfl rfl ?_;cases q1:fnd s.s1.units id with
  |some k=>
   simp only[q1];refine Ya (ZaH ..) ?_;rw[decide_eq_true (by omega)];exact Ze (by simp)
  |none=>
   simp only[q1];refine Ya rfl (Qi (Ya rfl ?_));rw[w2];refine Zl ?_;exact Ya rfl (Qi (by simp))
end Go.Ah.Tz
end
section
namespace Go.Ah.Tz
open Go.Proofs.Tryz (prog)
theorem Zbu{l:List Th}{id:Int}{k:Nat}(h:fnd l id=some k):∃u,l[k]?=some u∧u.id=id:=by
 obtain⟨hk,h2,_⟩:=List.findIdx?_eq_some_iff_getElem.1 h;exact⟨l[k],by simp[hk],by simpa using h2⟩
theorem Zbx{e:Int}{b:Bk}{s:St}(h:mayR e b s false=true):mayR e b s true=true:=by
 simp only[mayR,Bool.and_eq_true] at h ⊢;obtain⟨h1,h2,h3,h4,h5,h6,h7,h8,h9,h10,h11,h12,h13,h14⟩:=h;refine⟨h1,h2,h3,h4,h5,h6,h7,h8,h9,h10,h11,h12,h13,?_⟩;by_cases hp:s.phase≠1
 ·rw[if_pos hp] at h14 ⊢; exact h14
 ·rw[if_neg hp] at h14 ⊢;simp only[Bool.and_eq_true] at h14 ⊢;exact⟨by simp,h14.2⟩
theorem w19{s:St}(hs:StLe 1000000000 s){σ:List ABlk}{K:AVal→List ABlk→Prop}(hK:K (.agg (stO s σ.length)) (σ++stB s)):VV.call (.call 19) [stV s] σ K:=by
 refine Yaf (c19 s hs) rfl g19_ok.plain rfl ?_;rw[Zb7,Qb6]; exact hK
theorem Zcz{s:St}(hs:StLe 1000000000 s){σ:List ABlk}{K:AVal→AVal→List ABlk→Prop}(hK:∀τ n,σ.length=n→τ.length=n+12→(∀c y,hget σ c=.box y→hget τ c=.box y)→hget τ (n+11)=.box (stO s n)→(∀i x,(stB s)[i]?=some x→hget τ (n+i)=x)→K (.bptr (n+11) 0) .junk τ) :
  VV.call (.call 19) [stV s] σ λv σ=>VV.wr (Ye zStC [] σ) σ λt σ=>VV.wr (Qb 23 [t,v] σ) σ (K t):=by
 refine w19 hs ?_;have hl:(σ++stB s).length=σ.length+11:=by simp[stB,sdB]
 refine Xx (row:=stO s σ.length) (row':=stO s σ.length) rfl rfl rfl ?_;have h11:=Zm (σ++stB s) (.box (stO s σ.length));rw[hl] at h11 ⊢;refine hK _ _ rfl (by simp[stB,sdB]) (λc y h=>Zn _ (Zn _ h (by simp)) (by simp)) h11 (λi x hx=>?_);have hi:i<11:=(YLG hx).1;exact QJ (by rw[List.getElem?_append_left (by omega),List.getElem?_append_right (by omega)]; simpa using hx)
theorem c20s(a:St)(ha:StLe 1000000000 a):PC 20 [stV a,stV a] (.bool true):=by
 have:=c20 a a ha
 rwa [decide_eq_true rfl] at this
theorem ldp{σ:List ABlk}{b i j n sz:Nat}{agg:Bool}{rs:List (List AVal)}{row:List AVal}{v:AVal}(hb:hget σ b=.rows sz rs)(hi:rs[i]?=some row)(hv:partA agg j n row=some v):Zd agg n [.ptr b i j] σ=.ok v [b] []:=by
 show (match hget σ b with
   |.rows _ rs=>match nth rs i with
    |some row=>match partA agg j n row with
     |some v=>SRes.ok v [b] []
     |none=>.stop
    |none=>.stop
   | _=>.stop)=_
 rw[hb];simp only[ZW,hi,hv]
theorem Gr.more{σ0 σ:List ABlk}{n k:Nat}{rows:List (List AVal)}{v:AVal}(h:Gr σ0 n rows k v σ)(l:List ABlk):Gr σ0 n rows k v (σ++l):=by
 obtain⟨h1,h2,h3⟩:=h;refine⟨by simp; omega,λc hc=>by rw[YD l (by omega),h2 c hc],?_⟩;rcases h3 with h3|⟨q1,b,q2,q3,q4,q5⟩
 ·exact .inl h3
 ·exact .inr ⟨q1,b,q2,q3,Zn l q4 (by simp),q5⟩
end Go.Ah.Tz
end
section
namespace Go.Ah.Tz
open Go.Proofs.Tryz (prog)
attribute [local irreducible] Ans.rd Ans.pu Ans.wr Ans.dr Ans.gr Ans.gw Ans.gl Ans.gd Ans.opt joinK W
set_option maxHeartbeats 4000000
theorem Xcr{σ:List ABlk}{sz b n i:Nat}{ex:Bool}{rs:List (List AVal)}(hb:hget σ b=.rows sz rs)(hi:i≤n):∃v rd,QT sz [.sl b 0 n ex,iv i] σ=.ok v rd []∧((i<n∧v=.sl b i (n-i) ex∧rd=[b])∨(i=n∧v=.rsl false false sz []∧rd=[])):=by
 by_cases h:i<n
 ·refine⟨.sl b i (n - i) ex,[b],?_,.inl ⟨h,rfl,rfl⟩⟩;show (match hget σ b with
   |.rows s _=>bif Nat.beq s sz then (bif Nat.blt i n then SRes.ok (.sl b (0+i) (n-i) ex) [b] [] else bif Nat.beq i n then .ok (.rsl false false sz []) [] [] else .stop) else .stop
   | _=>.stop)=_
  rw[hb];have:Nat.blt i n=true:=Nat.ble_eq_true_of_le h;simp only[Nat.beq_refl,cond_true,this,Nat.zero_add]
 ·have e:i=n:=by omega
  subst e;refine⟨.rsl false false sz [],[],?_,.inr ⟨rfl,rfl,rfl⟩⟩;show (match hget σ b with
   |.rows s _=>bif Nat.beq s sz then (bif Nat.blt i i then SRes.ok (.sl b (0+i) (i-i) ex) [b] [] else bif Nat.beq i i then .ok (.rsl false false sz []) [] [] else .stop) else .stop
   | _=>.stop)=_
  rw[hb];have:Nat.blt i i=false:=by
   cases e:Nat.blt i i with
   |false=>rfl
   |true=>have:=YNL e; omega
  simp only[Nat.beq_refl,cond_true,this,cond_false]
theorem Xcf{σ:List ABlk}{b m:Nat}{L:List Int}(hb:hget σ b=.rows 1 (L.map cel))(hm:m<L.length)(x:Int):Qb 1 [.ptr b m 0,iv x] σ=.ok .junk [] [(b,.rows 1 ((L.set m x).map cel))]:=by
 have hl:m<(L.map cel).length:=by simpa using hm
 have h1:nth (L.map cel) m=some (cel L[m]):=by rw[ZW,List.getElem?_map,List.getElem?_eq_getElem hm]; rfl
 have h2:Xz m [iv x] (L.map cel)=some ((L.set m x).map cel):=by
  rw[Qai hl,List.map_set]; rfl
 show (match hget σ b with
   |.rows sz rs=>match nth rs m with
    |some row=>match cellsOf (iv x) with
     | some cs=>bif Nat.beq cs.length 1 then (match splice 0 cs row with
      |some row'=>match Xz m row' rs with
       |some rs'=>SRes.ok .junk [] [(b,.rows sz rs')]
       |none=>.stop
      | none=>.stop) else .stop
     |none=>.stop
    |none=>.stop
   | _=>.stop)=_
 rw[hb];simp only[h1];show (match Xz m [iv x] (L.map cel) with
  |some rs'=>SRes.ok .junk [] [(b,.rows 1 rs')]
  | none=>.stop)=_
 rw[h2]
end Go.Ah.Tz
end
section
namespace Go.Ah.Tz
open Go.Proofs.Tryz (prog)
abbrev QcD(x:St)(g0 g1:Nat):List AVal:=[iv x.turn,iv x.mover,iv8 x.phase,.bool x.struck,iv8 x.result,.sl 3 0 x.attack.length false,iv x.next,iv x.s0.life,iv x.s0.mana,iv x.s0.most,.sl 4 0 x.s0.deck.length false,.sl 5 0 x.s0.hand.length false,.sl g0 0 x.s0.grave.length false,.sl 7 0 x.s0.units.length false,.sl 8 0 x.s0.told.length false,iv x.s1.life,iv x.s1.mana,iv x.s1.most,.sl 9 0 x.s1.deck.length false,.sl 10 0 x.s1.hand.length false,.sl g1 0 x.s1.grave.length false,.sl 12 0 x.s1.units.length false,.sl 13 0 x.s1.told.length false]
def evN(e:Ev):List AVal:=[iv8 e.kind,iv e.side,iv e.card,iv e.id,iv e.other,iv e.n,.nils]
structure BMem (b:Bk) (s x:St) (g0 g1:Nat) (τ:List ABlk):Prop where
 k0:hget τ 0=.box (bkC b)
 k1:hget τ 1=.box (stC s)
 k2:hget τ 2=.box zStC
 mv:hget τ 14=.box (.bptr 0 0::QcD x g0 g1)
 at_:∃r,hget τ 3=.rows 1 ((x.attack++r).map cel)
 r4:hget τ 4=.rows 1 (x.s0.deck.map cel)
 r5:hget τ 5=.rows 1 (x.s0.hand.map cel)
 gr0:hget τ g0=.rows 1 (x.s0.grave.map cel)
 r7:∃r,hget τ 7=.rows 4 ((x.s0.units++r).map thC)
 r8:hget τ 8=.rows 1 (x.s0.told.map cel)
 r9:hget τ 9=.rows 1 (x.s1.deck.map cel)
 r10:hget τ 10=.rows 1 (x.s1.hand.map cel)
 gr1:hget τ g1=.rows 1 (x.s1.grave.map cel)
 r12:∃r,hget τ 12=.rows 4 ((x.s1.units++r).map thC)
 r13:hget τ 13=.rows 1 (x.s1.told.map cel)
 n0:g0=6∨15≤g0
 n1:g1=11∨15≤g1
 ne:g0≠g1
end Go.Ah.Tz
end
section
namespace Go.Ah.Tz
structure SideP (b:Bk) (x:Sd):Prop where
 life:wIn x.life=true
 mana:0≤x.mana∧wIn x.mana=true
 most:0≤x.most∧x.most≤10
 deck:Xq b.cards.length x.deck 60=true
 hand:Xq b.cards.length x.hand 10=true
 grave:Xq b.cards.length x.grave 1000000=true
 told:Xq b.cards.length x.told 1000000=true
 units:x.units.length≤7
theorem Yb6{b:Bk}{x:Sd}:Xm b.cards.length x=true↔SideP b x:=by
 simp only[Xm,Bool.and_eq_true,decide_eq_true_eq];constructor
 ·rintro⟨h1,h2,h3,h4,h5,h6,h7,h8,h9,h10⟩;exact⟨h1,⟨h2,h3⟩,⟨h4,h5⟩,h6,h7,h8,h9,by omega⟩
 ·rintro⟨h1,⟨h2,h3⟩,⟨h4,h5⟩,h6,h7,h8,h9,h10⟩;exact⟨h1,h2,h3,h4,h5,h6,h7,h8,h9,by omega⟩
theorem Qae{b:Bk}{next:Int}:∀ {l:List Th} {ids:List Int},Xr b next ids l=true↔(∀u∈l,Zw b next u=true)∧(l.map Th.id).Nodup∧∀u∈l,u.id∉ids
 |[],ids=>by simp[Xr]
 |u::l,ids=>by
  simp only[Xr,Bool.and_eq_true,Qae (l:=l),Bool.not_eq_true',List.map_cons,List.nodup_cons,List.mem_cons,forall_eq_or_imp,List.mem_append,not_or];have hc:ids.contains u.id=false↔u.id∉ids:=by simp
  rw[hc];constructor
  ·rintro⟨h1,h2,h3,h4,h5⟩;refine⟨⟨h1,h3⟩,⟨?_,h4⟩,h2,λv hv=>(h5 v hv).1⟩;intro hm;obtain⟨v,hv,e⟩:=List.mem_map.1 hm;exact(h5 v hv).2.1 e
  ·rintro⟨⟨h1,h3⟩,⟨h6,h4⟩,h2,h5⟩;exact⟨h1,h2,h3,h4,λv hv=>⟨h5 v hv,λe=>h6 (List.mem_map.2 ⟨v,hv,e⟩),by simp⟩⟩
def UnP(b:Bk)(s:St):Prop:=(∀u∈s.s0.units++s.s1.units,Zw b s.next u=true)∧((s.s0.units++s.s1.units).map Th.id).Nodup
theorem Zcc{b:Bk}{s:St}:(Xr b s.next [] s.s0.units=true∧Xr b s.next (s.s0.units.map Th.id) s.s1.units=true)↔UnP b s:=by
 rw[Qae,Qae,UnP,List.map_append,List.nodup_append];constructor
 ·rintro⟨⟨h1,h2,_⟩,h3,h4,h5⟩;refine⟨λu hu=>?_,h2,h4,λa ha c hc e=>?_⟩
  ·rcases List.mem_append.1 hu with hu|hu
   ·exact h1 u hu
   ·exact h3 u hu
  ·subst e;obtain⟨v,hv,rfl⟩:=List.mem_map.1 hc;exact h5 v hv ha
 ·rintro⟨h1,h2,h3,h4⟩;refine⟨⟨λu hu=>h1 u (List.mem_append_left _ hu),h2,by simp⟩,λu hu=>h1 u (List.mem_append_right _ hu),h3,λu hu hm=>h4 _ hm _ (List.mem_map.2 ⟨u,hu,rfl⟩) rfl⟩
theorem Zaz{s:St}:∀ {l prev:List Int},attOk s prev l=true↔(∀a∈l,(unitR s a).2.2=true∧(unitR s a).1=s.mover)∧l.Nodup∧∀a∈l,a∉prev
 |[],prev=>by simp[attOk]
 |a::l,prev=>by
  simp only[attOk,Bool.and_eq_true,Zaz (l:=l),decide_eq_true_eq,Bool.not_eq_true',List.nodup_cons,List.mem_cons,forall_eq_or_imp,List.mem_append,not_or];have hc:prev.contains a=false↔a∉prev:=by simp
  rw[hc];constructor
  ·rintro⟨h1,h2,h3,h4,h5⟩;exact⟨⟨h1,h3⟩,⟨λhm=>(h5 a hm).2.1 rfl,h4⟩,h2,λc hc=>(h5 c hc).1⟩
  ·rintro⟨⟨h1,h3⟩,⟨h6,h4⟩,h2,h5⟩;exact⟨h1,h2,h3,h4,λc hc=>⟨h5 c hc,λe=>h6 (e▸hc),by simp⟩⟩
def AtP(s:St):Prop:=(s.phase≠1→s.attack=[])∧(s.phase=1→s.struck=true∧s.attack.length≤7∧s.attack.Nodup∧∀a∈s.attack,(unitR s a).2.2=true∧(unitR s a).1=s.mover)
def HdP(s:St):Prop:=1≤s.turn∧s.turn≤4096∧0≤s.mover∧s.mover≤1∧0≤s.phase∧s.phase≤2∧0≤s.result∧s.result≤3∧((s.result==0)==(s.phase != 2))=true∧1≤s.next∧s.next≤1000000
structure MayP (b:Bk) (s:St):Prop where
 hd:HdP s
 s0:SideP b s.s0
 s1:SideP b s.s1
 un:UnP b s
 at_:AtP s
theorem YbZ{e:Int}{b:Bk}{s:St}:mayR e b s true=true↔e=0∧MayP b s:=by
 simp only[mayR,Zu,Bool.and_eq_true,decide_eq_true_eq,Yb6];constructor
 ·rintro⟨h1,h2,h3,h4,h5,h6,h7,h8,h9,h10,h11,h12,⟨k1,k2,k3,k4⟩,h14⟩;refine⟨h1,⟨h2,h3,h4,h5,h6,h7,h8,h9,h10,h11,h12⟩,k1,k3,Zcc.1 ⟨k2,k4⟩,?_,?_⟩
  ·intro hp;rw[if_pos hp] at h14;exact List.length_eq_zero_iff.1 (of_decide_eq_true h14)
  ·intro hp;rw[if_neg (by simpa using hp)] at h14;simp only[Bool.and_eq_true,decide_eq_true_eq] at h14;obtain⟨_,q1,q2,q3⟩:=h14;obtain⟨r1,r2,_⟩:=Zaz.1 q3;exact⟨q1,by omega,r2,r1⟩
 ·rintro⟨h1,⟨h2,h3,h4,h5,h6,h7,h8,h9,h10,h11,h12⟩,k1,k3,hu,ha1,ha2⟩;obtain⟨k2,k4⟩:=Zcc.2 hu;refine⟨h1,h2,h3,h4,h5,h6,h7,h8,h9,h10,h11,h12,⟨k1,k2,k3,k4⟩,?_⟩;by_cases hp:s.phase≠1
  ·rw[if_pos hp,ha1 hp]; rfl
  ·rw[if_neg hp];obtain⟨q1,q2,q3,q4⟩:=ha2 (by simpa using hp);simp only[Bool.and_eq_true,decide_eq_true_eq];exact⟨by simp,q1,by omega,Zaz.2 ⟨q4,q3,by simp⟩⟩
end Go.Ah.Tz
end
section
namespace Go.Ah.Tz
open Go.Proofs.Tryz (prog)
structure Kp (b:Bk) (s:St) (τ:List ABlk) (n:Nat):Prop where
 len:τ.length=n
 lo:15≤n
 h0:hget τ 0=.box (bkC b)
 h1:hget τ 1=.box (stC s)
 hc:hget τ 14=.box (stO s 3)
 kk:∀i x,(stB s)[i]?=some x→hget τ (3+i)=x
end Go.Ah.Tz
end
section
namespace Go.Ah.Tz
open Go.Proofs.Tryz (prog)
open Go.Proofs.YtflcpnaigpgciaaGreatDoor.Rows (uptoBulk uptoBulkAll)
variable {H:Type}
theorem XM(b:List UInt8):uptoBulk (DataW.lit (H:=H) (.string b))=b.length+1:=by simp only[uptoBulk]
theorem YJ(ds:List (DataW H)):uptoBulk (.agg ds)=uptoBulkAll ds+1:=by simp only[uptoBulk]
theorem Qct(es sp:List (DataW H)):uptoBulk (.slice es sp)=uptoBulkAll es+uptoBulkAll sp+1:=by simp only[uptoBulk]
theorem Zx(d:DataW H)(ds:List (DataW H)):uptoBulkAll (d::ds)=uptoBulk d+uptoBulkAll ds:=by simp only[uptoBulkAll]
theorem Yce(d:DataW H):1≤uptoBulk d:=by
 cases d with
 |lit l=>cases l<;>simp[uptoBulk]
 |_=>simp[uptoBulk]
def Xs(P:Program)(t:TypeId):Option (List TypeId):=match P.underlying t with
 |some (.struct fs)=>some (fs.toList.map (·.type))
 |_=>none
theorem YH{P:Program}{fuel:Nat}{t:TypeId}{xs:List AVal}{d:DataW H}{ts:List TypeId}(h:Typed P fuel t xs d)(hs:Xs P t=some ts):∃f parts ds,fuel=f+1∧xs=parts.flatten∧d=.agg ds∧Tri (Typed P f) ts parts ds:=by
 cases fuel with
 |zero=>exact h.elim
 |succ f=>
  unfold Typed at h;unfold Xs at hs;split at hs
  ·rename_i fs e;rw[e] at h;cases hs;obtain⟨parts,ds,h1,h2,h3⟩:=h;exact⟨f,parts,ds,rfl,h1,h2,h3⟩
  ·cases hs
theorem Xu{P:Program}{fuel:Nat}{t:TypeId}{xs:List AVal}{d:DataW H}{k:IntKind}(h:Typed P fuel t xs d)(hu:P.underlying t=some (.int k)):∃n,xs=[.int k n]∧(Lit.int k n).wf=true∧d=.lit (.int k n):=by
 cases fuel with
 |zero=>exact h.elim
 |succ f=>unfold Typed at h; rw[hu] at h; exact h
theorem Zbp{P:Program}{fuel:Nat}{t:TypeId}{xs:List AVal}{d:DataW H}(h:Typed P fuel t xs d)(hu:P.underlying t=some .bool):∃b,xs=[.bool b]∧d=.lit (.bool b):=by
 cases fuel with
 |zero=>exact h.elim
 |succ f=>unfold Typed at h; rw[hu] at h; exact h
theorem Qba{P:Program}{fuel:Nat}{t:TypeId}{xs:List AVal}{d:DataW H}(h:Typed P fuel t xs d)(hu:P.underlying t=some .string):∃s,xs=[.str s]∧d=.lit (.string s):=by
 cases fuel with
 |zero=>exact h.elim
 |succ f=>unfold Typed at h; rw[hu] at h; exact h
theorem Xcb{P:Program}{fuel:Nat}{e:TypeId}{X:Type}(toC:X→List AVal)(m:X→Nat)(Q:X→Prop){B:Nat}(hx:∀xs (d:DataW H),Typed P fuel e xs d→uptoBulk d≤B→∃x,xs=toC x∧Q x∧m x≤uptoBulk d) :
  ∀ {rows:List (List AVal)} {es:List (DataW H)},Two (Typed P fuel e) rows es→uptoBulkAll es≤B→∃l:List X,rows=l.map toC∧(∀x∈l,Q x)∧(l.map m).sum≤uptoBulkAll es∧l.length≤uptoBulkAll es
 |[],[],_,_=>⟨[],rfl,by simp,by simp,by simp⟩
 |r::rows,d::es,h,hb=>by
  rw[Zx] at hb;obtain⟨x,e1,q1,m1⟩:=hx r d h.1 (by omega);obtain⟨l,e2,q2,s2,l2⟩:=Xcb toC m Q hx h.2 (by omega);refine⟨x::l,by rw[e1,e2]; rfl,λy hy=>?_,?_,?_⟩
  ·rcases List.mem_cons.1 hy with rfl|hy
   ·exact q1
   ·exact q2 y hy
  ·rw[List.map_cons,List.sum_cons,Zx]; omega
  ·have:=Yce d;rw[List.length_cons,Zx]; omega
 |[],_::_,h,_=>h.elim
 |_::_,[],h,_=>h.elim
theorem XD{P:Program}{fuel:Nat}{t e:TypeId}{n:Nat}{xs:List AVal}{d:DataW H}{X:Type}(toC:X→List AVal)(m:X→Nat)(Q:X→Prop){B:Nat}(h:Typed P fuel t xs d)(hu:P.underlying t=some (.slice e))(hn:P.cellsOf e=n)
 (hx:∀f,f<fuel→∀xs (d:DataW H),Typed P f e xs d→uptoBulk d≤B→∃x,xs=toC x∧Q x∧m x≤uptoBulk d)(hb:uptoBulk d≤B) :
  ∃l:List X,xs=[.rsl false false n (l.map toC)]∧(∀x∈l,Q x)∧(l.map m).sum≤uptoBulk d∧l.length≤uptoBulk d:=by
 cases fuel with
 |zero=>exact h.elim
 |succ f=>
  unfold Typed at h;rw[hu] at h;subst hn;obtain⟨rows,rfl,⟨rfl,rfl⟩|⟨es,sp,rfl,h2⟩⟩:=h
  ·exact⟨[],rfl,by simp,by simp,by simp⟩
  ·rw[Qct] at hb ⊢;obtain⟨l,rfl,q,s,k⟩:=Xcb toC m Q (hx f (by omega)) h2 (by omega);exact⟨l,rfl,q,by omega,by omega⟩
theorem YcB{P:Program}{fuel:Nat}{t e:TypeId}{xs:List AVal}{d:DataW H}(h:Typed P fuel t xs d)(hu:P.underlying t=some (.array 2 e)):∃f p q a b,fuel=f+1∧xs=p++q∧d=.agg [a,b]∧Typed P f e p a∧Typed P f e q b:=by
 cases fuel with
 |zero=>exact h.elim
 |succ f=>
  unfold Typed at h;rw[hu] at h;obtain⟨parts,ds,rfl,rfl,hl,h2⟩:=h
  match parts,hl,h2 with
  |[p,q],_,h2=>
   obtain⟨a,ds,rfl,ha,h2⟩:=h2.cons;obtain⟨b,ds,rfl,hb,h2⟩:=h2.cons
   match ds,h2 with
   |[],_=>exact⟨f,p,q,a,b,rfl,by simp,rfl,ha,hb⟩
theorem wf8{n:Int}(h:(Lit.int .i8 n).wf=true):i8B n=true:=by
 have h1:IntKind.i8.min = -128:=by decide
 have h2:IntKind.i8.max=127:=by decide
 simp only[Lit.wf,h1,h2] at h;exact h
theorem wf64{n:Int}(h:(Lit.int .i64 n).wf=true):i64B n=true:=by
 have h1:IntKind.i64.min = -9223372036854775808:=by decide
 have h2:IntKind.i64.max=9223372036854775807:=by decide
 simp only[Lit.wf,h1,h2] at h;exact h
theorem Ya5{l:List Nm}(h:∀x∈l,nmFit x=true):XaD l=true:=by
 induction l with
 |nil=>rfl
 |cons x l ih=>simp only[XaD,Bool.and_eq_true]; exact⟨h x (List.mem_cons_self ..),ih λy hy=>h y (List.mem_cons_of_mem _ hy)⟩
theorem QbQ{l:List Cn}(h:∀x∈l,cnFit x=true):QaJ l=true:=by
 induction l with
 |nil=>rfl
 |cons x l ih=>simp only[QaJ,Bool.and_eq_true]; exact⟨h x (List.mem_cons_self ..),ih λy hy=>h y (List.mem_cons_of_mem _ hy)⟩
theorem QaA{l:List Ef}(h:∀x∈l,efFit x=true):Qan l=true:=by
 induction l with
 |nil=>rfl
 |cons x l ih=>simp only[Qan,Bool.and_eq_true]; exact⟨h x (List.mem_cons_self ..),ih λy hy=>h y (List.mem_cons_of_mem _ hy)⟩
theorem ZaV:∀l:List Nm,(nmPs l).length=(l.map λx=>(nmP x).length).sum
 |[]=>rfl
 |x::l=>by simp only[nmPs,List.length_append,List.map_cons,List.sum_cons,ZaV l]
theorem Zbr:∀l:List Cn,(cnPs l).length=(l.map λx=>(cnP x).length).sum
 |[]=>rfl
 |x::l=>by simp only[cnPs,List.length_append,List.map_cons,List.sum_cons,Zbr l]
theorem Yav:∀l:List Ef,(efPs l).length=(l.map λx=>(efP x).length).sum
 |[]=>rfl
 |x::l=>by simp only[efPs,List.length_append,List.map_cons,List.sum_cons,Yav l]
theorem bigLe{n k:Nat}(h:n≤k)(hk:k≤1048576):decide (n≤big)=true:=decide_eq_true (Nat.le_trans h (Nat.le_trans hk (by decide)))
abbrev Xca:TypeId:=26
abbrev ZJ:TypeId:=3
abbrev Xa9:TypeId:=4
abbrev YaX:TypeId:=9
abbrev YcC:TypeId:=64
abbrev Zcn:TypeId:=62
abbrev ZcC:TypeId:=137
abbrev Qcz:TypeId:=135
abbrev XcL:TypeId:=192
abbrev Qa9:TypeId:=80
abbrev YcL:TypeId:=82
abbrev Xcz:TypeId:=22
abbrev QcL:TypeId:=96
abbrev ZcA:TypeId:=23
abbrev Ycn:TypeId:=94
abbrev Yca:TypeId:=25
abbrev YcM:TypeId:=51
abbrev XcA:TypeId:=28
abbrev XL:TypeId:=27
abbrev QcO:TypeId:=30
abbrev YcA:TypeId:=31
abbrev Qca:TypeId:=33
theorem Qcs:prog.underlying Xca=some (.int .i8):=by kernel_rfl
theorem ZT:prog.underlying ZJ=some (.int .i64):=by kernel_rfl
theorem Zbb:prog.underlying Xa9=some .bool:=by kernel_rfl
theorem Qcb:prog.underlying YaX=some .string:=by kernel_rfl
theorem YcN:prog.underlying Zcn=some (.slice YcC):=by kernel_rfl
theorem u_cns:prog.underlying Qcz=some (.slice ZcC):=by kernel_rfl
theorem XcB:prog.underlying Qa9=some (.slice XcL):=by kernel_rfl
theorem u_cds:prog.underlying Xcz=some (.slice YcL):=by kernel_rfl
theorem u_fos:prog.underlying ZcA=some (.slice QcL):=by kernel_rfl
theorem XcN:prog.underlying Ycn=some (.slice YaX):=by kernel_rfl
theorem u_ths:prog.underlying XcA=some (.slice YcM):=by kernel_rfl
theorem Zct:prog.underlying XL=some (.slice ZJ):=by kernel_rfl
theorem u_sds:prog.underlying YcA=some (.array 2 QcO):=by kernel_rfl
theorem n_nm:prog.cellsOf YcC=4:=by kernel_rfl
theorem n_cn:prog.cellsOf ZcC=5:=by kernel_rfl
theorem n_ef:prog.cellsOf XcL=14:=by kernel_rfl
theorem n_cd:prog.cellsOf YcL=12:=by kernel_rfl
theorem n_fo:prog.cellsOf QcL=7:=by kernel_rfl
theorem XcJ:prog.cellsOf YaX=1:=by kernel_rfl
theorem n_th:prog.cellsOf YcM=4:=by kernel_rfl
theorem n_int:prog.cellsOf ZJ=1:=by kernel_rfl
theorem s_nm:Xs prog YcC=some [Xca,ZJ,Xca,Zcn]:=by kernel_rfl
theorem s_cn:Xs prog ZcC=some [Xca,Xca,YaX,Zcn,Qcz]:=by kernel_rfl
theorem s_ef:Xs prog XcL=some [Xca,Xca,YcC,YaX,ZcC,Qa9,Qa9]:=by kernel_rfl
theorem s_cd:Xs prog YcL=some [YaX,Xa9,ZJ,ZJ,ZJ,ZJ,ZJ,ZJ,Qa9,Qa9,Qa9,ZJ]:=by kernel_rfl
theorem s_fo:Xs prog QcL=some [YaX,ZJ,ZJ,ZJ,Ycn,Ycn,ZJ]:=by kernel_rfl
theorem s_bk:Xs prog Yca=some [Xcz,ZcA]:=by kernel_rfl
theorem s_th:Xs prog YcM=some [ZJ,ZJ,ZJ,Xa9]:=by kernel_rfl
theorem s_sd:Xs prog QcO=some [ZJ,ZJ,ZJ,XL,XL,XL,XcA,XL]:=by kernel_rfl
theorem s_st:Xs prog Qca=some [ZJ,ZJ,Xca,Xa9,Xca,XL,ZJ,YcA]:=by kernel_rfl
theorem XcM(fuel:Nat):∀xs (d:DataW H),Typed prog fuel YcC xs d→uptoBulk d≤1048576→∃x,xs=nmC x∧nmFit x=true∧(nmP x).length≤uptoBulk d:=by
 induction fuel using Nat.strongRecOn with
 |_ fuel ih=>
 intro xs d h hb;obtain⟨f,parts,ds,rfl,rfl,rfl,r⟩:=YH h s_nm;obtain⟨p0,parts,d0,ds,rfl,rfl,h0,r⟩:=r.cons;obtain⟨p1,parts,d1,ds,rfl,rfl,h1,r⟩:=r.cons;obtain⟨p2,parts,d2,ds,rfl,rfl,h2,r⟩:=r.cons;obtain⟨p3,parts,d3,ds,rfl,rfl,h3,r⟩:=r.cons;obtain⟨rfl,rfl⟩:=r.nil;obtain⟨v0,rfl,w0,rfl⟩:=Xu h0 Qcs;obtain⟨v1,rfl,w1,rfl⟩:=Xu h1 ZT;obtain⟨v2,rfl,w2,rfl⟩:=Xu h2 Qcs;simp only[YJ,Zx,XM] at hb ⊢;obtain⟨l,rfl,q,s,k⟩:=XD nmC (λx=>(nmP x).length) (λx=>nmFit x=true) h3 YcN n_nm (λf' hf=>ih f' (by omega)) (show uptoBulk d3≤1048576 by omega);refine⟨.mk v0 v1 v2 l,by rw[Yx]; rfl,?_,?_⟩
 ·simp only[nmFit,bigLe k (show uptoBulk d3≤1048576 by omega),Ya5 q,wf8 w0,wf64 w1,Bool.and_self]
 ·simp only[nmP,List.length_cons,ZaV]; omega
theorem ty_cn(fuel:Nat):∀xs (d:DataW H),Typed prog fuel ZcC xs d→uptoBulk d≤1048576→∃x,xs=cnC x∧cnFit x=true∧(cnP x).length≤uptoBulk d:=by
 induction fuel using Nat.strongRecOn with
 |_ fuel ih=>
 intro xs d h hb;obtain⟨f,parts,ds,rfl,rfl,rfl,r⟩:=YH h s_cn;obtain⟨p0,parts,d0,ds,rfl,rfl,h0,r⟩:=r.cons;obtain⟨p1,parts,d1,ds,rfl,rfl,h1,r⟩:=r.cons;obtain⟨p2,parts,d2,ds,rfl,rfl,h2,r⟩:=r.cons;obtain⟨p3,parts,d3,ds,rfl,rfl,h3,r⟩:=r.cons;obtain⟨p4,parts,d4,ds,rfl,rfl,h4,r⟩:=r.cons;obtain⟨rfl,rfl⟩:=r.nil;obtain⟨v0,rfl,w0,rfl⟩:=Xu h0 Qcs;obtain⟨v1,rfl,w1,rfl⟩:=Xu h1 Qcs;obtain⟨v2,rfl,rfl⟩:=Qba h2 Qcb;simp only[YJ,Zx,XM] at hb ⊢;obtain⟨l,rfl,q,s,k⟩:=XD nmC (λx=>(nmP x).length) (λx=>nmFit x=true) h3 YcN n_nm (λf' _=>XcM f') (show uptoBulk d3≤1048576 by omega);obtain⟨l2,rfl,q2,s2,k2⟩:=XD cnC (λx=>(cnP x).length) (λx=>cnFit x=true) h4 u_cns n_cn (λf' hf=>ih f' (by omega)) (show uptoBulk d4≤1048576 by omega);refine⟨.mk v0 v1 v2 l l2,by rw[QF]; rfl,?_,?_⟩
 ·simp only[cnFit,bigLe k (show uptoBulk d3≤1048576 by omega),Ya5 q,bigLe k2 (show uptoBulk d4≤1048576 by omega),QbQ q2,wf8 w0,Bool.and_self]
 ·simp only[cnP,List.length_cons,List.length_append,ZaV,Zbr]; omega
theorem ty_ef(fuel:Nat):∀xs (d:DataW H),Typed prog fuel XcL xs d→uptoBulk d≤1048576→∃x,xs=efC x∧efFit x=true∧(efP x).length≤uptoBulk d:=by
 induction fuel using Nat.strongRecOn with
 |_ fuel ih=>
 intro xs d h hb;obtain⟨f,parts,ds,rfl,rfl,rfl,r⟩:=YH h s_ef;obtain⟨p0,parts,d0,ds,rfl,rfl,h0,r⟩:=r.cons;obtain⟨p1,parts,d1,ds,rfl,rfl,h1,r⟩:=r.cons;obtain⟨p2,parts,d2,ds,rfl,rfl,h2,r⟩:=r.cons;obtain⟨p3,parts,d3,ds,rfl,rfl,h3,r⟩:=r.cons;obtain⟨p4,parts,d4,ds,rfl,rfl,h4,r⟩:=r.cons;obtain⟨p5,parts,d5,ds,rfl,rfl,h5,r⟩:=r.cons;obtain⟨p6,parts,d6,ds,rfl,rfl,h6,r⟩:=r.cons;obtain⟨rfl,rfl⟩:=r.nil;obtain⟨v0,rfl,w0,rfl⟩:=Xu h0 Qcs;obtain⟨v1,rfl,w1,rfl⟩:=Xu h1 Qcs;obtain⟨v3,rfl,rfl⟩:=Qba h3 Qcb;simp only[YJ,Zx,XM] at hb ⊢;obtain⟨n,rfl,qn,kn⟩:=XcM _ _ _ h2 (by omega);obtain⟨c,rfl,qc,kc⟩:=ty_cn _ _ _ h4 (by omega);obtain⟨l,rfl,q,s,k⟩:=XD efC (λx=>(efP x).length) (λx=>efFit x=true) h5 XcB n_ef (λf' hf=>ih f' (by omega)) (show uptoBulk d5≤1048576 by omega);obtain⟨l2,rfl,q2,s2,k2⟩:=XD efC (λx=>(efP x).length) (λx=>efFit x=true) h6 XcB n_ef (λf' hf=>ih f' (by omega)) (show uptoBulk d6≤1048576 by omega);refine⟨.mk v0 v1 n v3 c l l2,by rw[ZG,Yx,QF]; rfl,?_,?_⟩
 ·simp only[efFit,qn,qc,bigLe k (show uptoBulk d5≤1048576 by omega),QaA q,bigLe k2 (show uptoBulk d6≤1048576 by omega),QaA q2,wf8 w0,Bool.and_self]
 ·have e1:(if cntOp v0 then nmP n else []).length≤(nmP n).length:=by split<;>simp
  have e2:(if v0=8 then cnP c++(efPs l++efPs l2) else []).length≤(cnP c).length+(efPs l).length+(efPs l2).length:=by
   split
   ·simp only[List.length_append]; omega
   ·simp
  rw[Yav,Yav] at e2;simp only[efP,List.length_cons,List.length_append];omega
theorem Ycb{fuel:Nat}{xs:List AVal}{d:DataW H}(h:Typed prog fuel Qa9 xs d)(hb:uptoBulk d≤1048576):∃l,xs=[efV l]∧lsFit l=true∧(efPs l).length≤uptoBulk d:=by
 obtain⟨l,rfl,q,s,k⟩:=XD efC (λx=>(efP x).length) (λx=>efFit x=true) h XcB n_ef (λf' _=>ty_ef f') hb;exact⟨l,rfl,by simp only[lsFit,bigLe k hb,QaA q,Bool.and_self],by rw[Yav]; exact s⟩
theorem ty_cd(fuel:Nat)(xs:List AVal)(d:DataW H)(h:Typed prog fuel YcL xs d)(hb:uptoBulk d≤1048576):∃x,xs=cdC x∧(cdFit x=true∧(cdP x).length≤1048576)∧0≤uptoBulk d:=by
 obtain⟨f,parts,ds,rfl,rfl,rfl,r⟩:=YH h s_cd;obtain⟨p0,parts,d0,ds,rfl,rfl,h0,r⟩:=r.cons;obtain⟨p1,parts,d1,ds,rfl,rfl,h1,r⟩:=r.cons;obtain⟨p2,parts,d2,ds,rfl,rfl,h2,r⟩:=r.cons;obtain⟨p3,parts,d3,ds,rfl,rfl,h3,r⟩:=r.cons;obtain⟨p4,parts,d4,ds,rfl,rfl,h4,r⟩:=r.cons;obtain⟨p5,parts,d5,ds,rfl,rfl,h5,r⟩:=r.cons;obtain⟨p6,parts,d6,ds,rfl,rfl,h6,r⟩:=r.cons;obtain⟨p7,parts,d7,ds,rfl,rfl,h7,r⟩:=r.cons;obtain⟨p8,parts,d8,ds,rfl,rfl,h8,r⟩:=r.cons;obtain⟨p9,parts,d9,ds,rfl,rfl,h9,r⟩:=r.cons;obtain⟨p10,parts,d10,ds,rfl,rfl,h10,r⟩:=r.cons;obtain⟨p11,parts,d11,ds,rfl,rfl,h11,r⟩:=r.cons;obtain⟨rfl,rfl⟩:=r.nil;obtain⟨v0,rfl,rfl⟩:=Qba h0 Qcb;obtain⟨v1,rfl,rfl⟩:=Zbp h1 Zbb;obtain⟨v2,rfl,w2,rfl⟩:=Xu h2 ZT;obtain⟨v3,rfl,w3,rfl⟩:=Xu h3 ZT;obtain⟨v4,rfl,w4,rfl⟩:=Xu h4 ZT;obtain⟨v5,rfl,w5,rfl⟩:=Xu h5 ZT;obtain⟨v6,rfl,w6,rfl⟩:=Xu h6 ZT;obtain⟨v7,rfl,w7,rfl⟩:=Xu h7 ZT;obtain⟨v11,rfl,w11,rfl⟩:=Xu h11 ZT;simp only[YJ,Zx,XM] at hb ⊢;obtain⟨a,rfl,qa,ka⟩:=Ycb h8 (by omega);obtain⟨b,rfl,qb,kb⟩:=Ycb h9 (by omega);obtain⟨c,rfl,qc,kc⟩:=Ycb h10 (by omega);refine⟨⟨v0,v1,v2,v3,v4,v5,v6,v7,a,b,c,v11⟩,rfl,⟨?_,?_⟩,by omega⟩
 ·simp only[cdFit,bigLe (Nat.le_refl v0.length) (by omega),qa,qb,qc,Bool.and_self]
 ·simp only[cdP,List.length_append]; omega
theorem ZcN(fuel:Nat)(xs:List AVal)(d:DataW H)(h:Typed prog fuel YaX xs d)(_:uptoBulk d≤1048576):∃x,xs=txC x∧True∧0≤uptoBulk d:=by
 obtain⟨s,rfl,rfl⟩:=Qba h Qcb;exact⟨s,rfl,trivial,by omega⟩
theorem ty_fo(fuel:Nat)(xs:List AVal)(d:DataW H)(h:Typed prog fuel QcL xs d)(hb:uptoBulk d≤1048576):∃x,xs=foC x∧foFit x=true∧0≤uptoBulk d:=by
 obtain⟨f,parts,ds,rfl,rfl,rfl,r⟩:=YH h s_fo;obtain⟨p0,parts,d0,ds,rfl,rfl,h0,r⟩:=r.cons;obtain⟨p1,parts,d1,ds,rfl,rfl,h1,r⟩:=r.cons;obtain⟨p2,parts,d2,ds,rfl,rfl,h2,r⟩:=r.cons;obtain⟨p3,parts,d3,ds,rfl,rfl,h3,r⟩:=r.cons;obtain⟨p4,parts,d4,ds,rfl,rfl,h4,r⟩:=r.cons;obtain⟨p5,parts,d5,ds,rfl,rfl,h5,r⟩:=r.cons;obtain⟨p6,parts,d6,ds,rfl,rfl,h6,r⟩:=r.cons;obtain⟨rfl,rfl⟩:=r.nil;obtain⟨v0,rfl,rfl⟩:=Qba h0 Qcb;obtain⟨v1,rfl,w1,rfl⟩:=Xu h1 ZT;obtain⟨v2,rfl,w2,rfl⟩:=Xu h2 ZT;obtain⟨v3,rfl,w3,rfl⟩:=Xu h3 ZT;obtain⟨v6,rfl,w6,rfl⟩:=Xu h6 ZT;simp only[YJ,Zx,XM] at hb ⊢;obtain⟨a,rfl,_,_,ka⟩:=XD txC (λ_=>0) (λ_=>True) h4 XcN XcJ (λf' _=>ZcN f') (show uptoBulk d4≤1048576 by omega);obtain⟨b,rfl,_,_,kb⟩:=XD txC (λ_=>0) (λ_=>True) h5 XcN XcJ (λf' _=>ZcN f') (show uptoBulk d5≤1048576 by omega);refine⟨⟨v0,v1,v2,v3,a,b,v6⟩,rfl,?_,by omega⟩;simp only[foFit,bigLe (Nat.le_refl v0.length) (by omega),bigLe ka (show uptoBulk d4≤1048576 by omega),bigLe kb (show uptoBulk d5≤1048576 by omega),Bool.and_self]
theorem ty_bk{fuel:Nat}{xs:List AVal}{d:DataW H}(h:Typed prog fuel Yca xs d)(hb:uptoBulk d≤1048576):∃x,xs=bkC x∧bkFit x=true∧QM x.cards:=by
 obtain⟨f,parts,ds,rfl,rfl,rfl,r⟩:=YH h s_bk;obtain⟨p0,parts,d0,ds,rfl,rfl,h0,r⟩:=r.cons;obtain⟨p1,parts,d1,ds,rfl,rfl,h1,r⟩:=r.cons;obtain⟨rfl,rfl⟩:=r.nil;simp only[YJ,Zx,XM] at hb ⊢;obtain⟨a,rfl,q,_,k⟩:=XD cdC (λ_=>0) (λx=>cdFit x=true∧(cdP x).length≤1048576) h0 u_cds n_cd (λf' _=>ty_cd f') (show uptoBulk d0≤1048576 by omega);obtain⟨b,rfl,q2,_,k2⟩:=XD foC (λ_=>0) (λx=>foFit x=true) h1 u_fos n_fo (λf' _=>ty_fo f') (show uptoBulk d1≤1048576 by omega);refine⟨⟨a,b⟩,rfl,?_,λc hc=>Nat.le_trans (q c hc).2 (by decide)⟩;simp only[bkFit,ZQ,bigLe k (show uptoBulk d0≤1048576 by omega),bigLe k2 (show uptoBulk d1≤1048576 by omega),Bool.true_and,Bool.and_eq_true,List.all_eq_true];exact⟨λc hc=>(q c hc).1,q2⟩
theorem ty_th(fuel:Nat)(xs:List AVal)(d:DataW H)(h:Typed prog fuel YcM xs d)(hb:uptoBulk d≤1048576):∃x,xs=thC x∧True∧0≤uptoBulk d:=by
 obtain⟨f,parts,ds,rfl,rfl,rfl,r⟩:=YH h s_th;obtain⟨p0,parts,d0,ds,rfl,rfl,h0,r⟩:=r.cons;obtain⟨p1,parts,d1,ds,rfl,rfl,h1,r⟩:=r.cons;obtain⟨p2,parts,d2,ds,rfl,rfl,h2,r⟩:=r.cons;obtain⟨p3,parts,d3,ds,rfl,rfl,h3,r⟩:=r.cons;obtain⟨rfl,rfl⟩:=r.nil;obtain⟨v0,rfl,w0,rfl⟩:=Xu h0 ZT;obtain⟨v1,rfl,w1,rfl⟩:=Xu h1 ZT;obtain⟨v2,rfl,w2,rfl⟩:=Xu h2 ZT;obtain⟨v3,rfl,rfl⟩:=Zbp h3 Zbb;simp only[YJ,Zx,XM] at hb ⊢;exact⟨⟨v0,v1,v2,v3⟩,rfl,trivial,by omega⟩
theorem ty_i(fuel:Nat)(xs:List AVal)(d:DataW H)(h:Typed prog fuel ZJ xs d)(_:uptoBulk d≤1048576):∃x,xs=cel x∧True∧0≤uptoBulk d:=by
 obtain⟨s,rfl,_,rfl⟩:=Xu h ZT;exact⟨s,rfl,trivial,by omega⟩
theorem ZaQ{fuel:Nat}{xs:List AVal}{d:DataW H}(h:Typed prog fuel XL xs d)(hb:uptoBulk d≤1048576):∃l,xs=[rowV l]∧l.length≤2000000:=by
 obtain⟨l,rfl,_,_,k⟩:=XD cel (λ_=>0) (λ_=>True) h Zct n_int (λf' _=>ty_i f') hb;exact⟨l,rfl,by omega⟩
theorem QcM{fuel:Nat}{xs:List AVal}{d:DataW H}(h:Typed prog fuel QcO xs d)(hb:uptoBulk d≤1048576):∃x,xs=sdC x∧SdLe 2000000 x:=by
 obtain⟨f,parts,ds,rfl,rfl,rfl,r⟩:=YH h s_sd;obtain⟨p0,parts,d0,ds,rfl,rfl,h0,r⟩:=r.cons;obtain⟨p1,parts,d1,ds,rfl,rfl,h1,r⟩:=r.cons;obtain⟨p2,parts,d2,ds,rfl,rfl,h2,r⟩:=r.cons;obtain⟨p3,parts,d3,ds,rfl,rfl,h3,r⟩:=r.cons;obtain⟨p4,parts,d4,ds,rfl,rfl,h4,r⟩:=r.cons;obtain⟨p5,parts,d5,ds,rfl,rfl,h5,r⟩:=r.cons;obtain⟨p6,parts,d6,ds,rfl,rfl,h6,r⟩:=r.cons;obtain⟨p7,parts,d7,ds,rfl,rfl,h7,r⟩:=r.cons;obtain⟨rfl,rfl⟩:=r.nil;obtain⟨v0,rfl,w0,rfl⟩:=Xu h0 ZT;obtain⟨v1,rfl,w1,rfl⟩:=Xu h1 ZT;obtain⟨v2,rfl,w2,rfl⟩:=Xu h2 ZT;simp only[YJ,Zx,XM] at hb ⊢;obtain⟨a,rfl,ka⟩:=ZaQ h3 (by omega);obtain⟨b,rfl,kb⟩:=ZaQ h4 (by omega);obtain⟨c,rfl,kc⟩:=ZaQ h5 (by omega);obtain⟨u,rfl,_,_,ku⟩:=XD thC (λ_=>0) (λ_=>True) h6 u_ths n_th (λf' _=>ty_th f') (show uptoBulk d6≤1048576 by omega);obtain⟨t,rfl,kt⟩:=ZaQ h7 (by omega);exact⟨⟨v0,v1,v2,a,b,c,u,t⟩,rfl,ka,kb,kc,by show u.length≤_; omega,kt⟩
theorem ty_st{fuel:Nat}{xs:List AVal}{d:DataW H}(h:Typed prog fuel Qca xs d)(hb:uptoBulk d≤1048576):∃x,xs=stC x∧StLe 2000000 x:=by
 obtain⟨f,parts,ds,rfl,rfl,rfl,r⟩:=YH h s_st;obtain⟨p0,parts,d0,ds,rfl,rfl,h0,r⟩:=r.cons;obtain⟨p1,parts,d1,ds,rfl,rfl,h1,r⟩:=r.cons;obtain⟨p2,parts,d2,ds,rfl,rfl,h2,r⟩:=r.cons;obtain⟨p3,parts,d3,ds,rfl,rfl,h3,r⟩:=r.cons;obtain⟨p4,parts,d4,ds,rfl,rfl,h4,r⟩:=r.cons;obtain⟨p5,parts,d5,ds,rfl,rfl,h5,r⟩:=r.cons;obtain⟨p6,parts,d6,ds,rfl,rfl,h6,r⟩:=r.cons;obtain⟨p7,parts,d7,ds,rfl,rfl,h7,r⟩:=r.cons;obtain⟨rfl,rfl⟩:=r.nil;obtain⟨v0,rfl,w0,rfl⟩:=Xu h0 ZT;obtain⟨v1,rfl,w1,rfl⟩:=Xu h1 ZT;obtain⟨v2,rfl,w2,rfl⟩:=Xu h2 Qcs;obtain⟨v3,rfl,rfl⟩:=Zbp h3 Zbb;obtain⟨v4,rfl,w4,rfl⟩:=Xu h4 Qcs;obtain⟨v6,rfl,w6,rfl⟩:=Xu h6 ZT;simp only[YJ,Zx,XM] at hb ⊢;obtain⟨a,rfl,ka⟩:=ZaQ h5 (by omega);obtain⟨f',p,q,da,db,rfl,rfl,rfl,hp,hq⟩:=YcB h7 u_sds;simp only[YJ,Zx] at hb;obtain⟨x,rfl,kx⟩:=QcM hp (by omega);obtain⟨y,rfl,ky⟩:=QcM hq (by omega);exact⟨⟨v0,v1,v2,v3,v4,a,v6,x,y⟩,rfl,ka,kx,ky⟩
end Go.Ah.Tz
end
section
namespace Go.Proofs.YtflcpnaigpgciaaGreatDoor
open Go.ChangeShapes Go.WideShapes Go.ChangeAt Go.RowKit Go.Ah Go.Ah.Tz
theorem YaV{H:Type}{enc:TypeId×Value→H}{P:Program}{f:Func}{s:ChangeSpec}{apart fresh handsOn again:Bool}{W W':World}{args:Array Value}{v:Value}{ds gs:List (DataW H)}{before pa pv:List MemPlace}
 (hW:DataW.Whole enc P f.params.toList s.vars apart W args.toList ds gs before)
 (hres:∀(b:Nat) (sp:Nat→Bool) (hd:Bool),DataW.TrodAll enc P W' b sp hd f.resultTypes.toList (v.resultList f.resultTypes.size) (s.fn H (ds++gs)).results [])
 (hargs:∀sp:Nat→Bool,(∀p∈before,sp p.block=true)→DataW.TrodAll enc P W' 0 sp true f.params.toList args.toList (s.fn H (ds++gs)).args pa)
 (hvars:∀sp:Nat→Bool,(∀p∈before,sp p.block=true)→DataW.TrodVars enc P W' sp s.vars (s.fn H (ds++gs)).vars pv)
 (hps:before=pa++pv)(hb:Below W.heap.size W W')
 (hok:∀(j:Nat) (t:TypeId) (r:Value),f.resultTypes[j]?=some t→(v.resultList f.resultTypes.size)[j]?=some r→Value.okWide P W' .any 0 t r) :
  s.post enc P f apart fresh handsOn again W args v W':=by
 have hold:∀p∈before,(λb=>decide (b<W.heap.size)) p.block=true:=λp hp=>by simpa using hW.lt p hp
 refine⟨ds,gs,before,[],pa,pv,hW,hres _ _ _,hargs _ hold,hvars _ hold,World.keptBut_mono (λp hp=>⟨hp,?_⟩) (hb.frame (·∈before)),λ_=>?_⟩
 ·rw[hps,List.mem_append] at hp;exact Or.inr hp
 ·have hlt:=hW.lt;obtain⟨_,_,_,_,_,hz,hn⟩:=hW;refine⟨hok,_,_,([]++pa)++pv,⟨[]++pa,pv,trodAll_append (hargs _ (λ_ _=>rfl)) (hres _ _ _),hvars _ (λ_ _=>rfl),rfl,?_,?_⟩,?_⟩
  ·intro b off hp;have hin:MemPlace.cell b off∈before:=by rw[hps]; simpa using hp
   rw[hb.frozen (p:=⟨b,off,none⟩) (show b<W.heap.size from hlt _ hin)];exact hz b off hin
  ·intro ha;have:=hn ha;rw[hps] at this;simpa using this
  ·intro p hp _;rw[hps];simpa using hp
set_option maxRecDepth 100000
abbrev t_u8:TypeId:=5
abbrev ZcM:TypeId:=318
theorem d_own:ownKnob Tryz.prog.godebug=none:=by kernel_rfl
theorem QcE:Tryz.prog.globalNamed "strings.asciiSpace" = some 0:=by kernel_rfl
theorem XbT:(Tryz.prog.globals[0]?).map (·.type)=some ZcM:=by kernel_rfl
theorem ZbT:laidOutB Tryz.prog=true:=by kernel_rfl
def spaces:List Int:=(List.range 256).map λi=>match (Nat.ble 9 i&&Nat.ble i 13)||Nat.beq i 32 with|true=>1|false=>0
theorem Ycu{l:List (String×DataW Unit)}{x:String×DataW Unit}(hl:l=[x,("strings.asciiSpace",Lib.tabData .u8 spaces)]){W:World}(h:laidMet Tryz.prog l W):∀p∈GL0,Den (λb=>W.heap[b]?) noOwn (.rptr p.2 0) (.pointer (some ⟨p.1,0,none⟩)):=by
 subst hl;have ht:Lib.TabIs Tryz.prog W "strings.asciiSpace" .u8 spaces:=Lib.tabIs_of_head (rest:=[]) QcE XbT (show Tryz.prog.underlying ZcM=some (.array 256 t_u8) by kernel_rfl) (show Tryz.prog.underlying t_u8=some (.int .u8) by kernel_rfl) (by kernel_rfl) (by kernel_rfl) h.tail;have hlen:spaces.length=256:=by simp[spaces]
 have hrow:row0=spaces.map (AVal.int .u8):=by rw[row0,spaces,List.map_map]; rfl
 intro p hp;simp only[GL0,List.mem_singleton] at hp;subst hp;refine .rptr _ row0 0 0 0 (λk=>.int .u8 (spaces.getD k 0)) (λk hk=>?_) (λk y hy=>?_)
 ·have hk':k<spaces.length:=by rw[hrow,List.length_map] at hk; exact hk
  have:=(QbO (ht.cell QcE k hk')).2;rw[Nat.zero_add]; exact this
 ·rw[hrow,List.getElem?_map] at hy;obtain⟨z,hz,rfl⟩:=Option.map_eq_some_iff.1 hy;have:spaces.getD k 0=z:=by simp[List.getD,hz]
  rw[this]; exact .int _ _ _
def XaR:List TypeId:=[Xca,ZJ,Xa9,YaX,YcC,Zcn,ZcC,Qcz,XcL,Qa9,YcL,Xcz,QcL,ZcA,Ycn,Yca,YcM,XcA,XL,QcO,YcA,Qca]
theorem QaZ:XaR.all (tyOk Tryz.prog XaR)=true:=by kernel_rfl
theorem YcE{M:Nat→Option Obj}{xs:List AVal}{cs:Array Value}(h:DL M xs cs.toList):Den M noOwn (.agg xs) (.agg cs):=
 .agg _ _ _ (by have:=h.1; simpa using this.symm) (λi x v h1 h2=>h.2 i x v h1 (by simpa using h2))
theorem Ya9{P:Program}{t:TypeId}{ts:List TypeId}(h:Xs P t=some ts):∃fs,P.underlying t=some (.struct fs):=by
 unfold Xs at h;split at h
 ·rename_i fs e; exact⟨fs,e⟩
 ·cases h
section
variable {H:Type} {enc:TypeId×Value→H} {W:World} {base:Nat} {v:Value} {d:DataW H} {ps:List MemPlace}
theorem XcE(ho:Value.okWide Tryz.prog W .any base Yca v)(h:DataW.Trod enc Tryz.prog W 0 (λ_=>true) true Yca v d ps)(hb:Rows.uptoBulk d≤1048576):∃b:Bk,bkFit b=true∧QM b.cards∧Den (λk=>W.heap[k]?) noOwn (bkV b) v:=by
 obtain⟨fs,hfs⟩:=Ya9 s_bk;obtain⟨cs,rfl,_⟩:=okWide_struct hfs ho;obtain⟨fuel,hf⟩:=h;obtain⟨_,xs,h1,h2⟩:=Yaj (S:=XaR) QaZ fuel Yca (by decide) _ _ ⟨_,hf⟩;obtain⟨b,rfl,k1,k2⟩:=ty_bk h2 hb;exact⟨b,k1,k2,YcE h1⟩
theorem Xcu(ho:Value.okWide Tryz.prog W .any base Qca v)(h:DataW.Trod enc Tryz.prog W 0 (λ_=>true) true Qca v d ps)(hb:Rows.uptoBulk d≤1048576):∃s:St,StLe 2000000 s∧Den (λk=>W.heap[k]?) noOwn (stV s) v:=by
 obtain⟨fs,hfs⟩:=Ya9 s_st;obtain⟨cs,rfl,_⟩:=okWide_struct hfs ho;obtain⟨fuel,hf⟩:=h;obtain⟨_,xs,h1,h2⟩:=Yaj (S:=XaR) QaZ fuel Qca (by decide) _ _ ⟨_,hf⟩;obtain⟨s,rfl,k⟩:=ty_st h2 hb;exact⟨s,k,YcE h1⟩
end
theorem Ybe{H:Type}{enc:TypeId×Value→H}{t:TypeId}(hr:Tryz.prog.readableRec t=true)(hrow:t<Tryz.prog.types.size){W W':World}{v:Value}{d:DataW H}{ps all:List MemPlace}(h:DataW.Trod enc Tryz.prog W 0 (λ_=>true) true t v d ps)(hb:Below W.heap.size W W')(hlt:∀p∈all,p.block<W.heap.size)(hin:∀p∈ps,p∈all){sp:Nat→Bool}(hs:∀p∈all,sp p.block=true):DataW.Trod enc Tryz.prog W' 0 sp true t v d ps:=
 WideElems.Trod_stays ZbT hr hrow h (λp hp=>hb.same (hlt p (hin p hp))) (λp hp=>hs p (hin p hp))
theorem YbT(t:TypeId)(h:(Tryz.prog.readableRec t&&decide (t<Tryz.prog.types.size))=true):Tryz.prog.readableRec t=true∧t<Tryz.prog.types.size:=by simpa using h
theorem r_bk:Tryz.prog.readableRec Yca=true∧Yca<Tryz.prog.types.size:=YbT Yca (by kernel_rfl)
theorem r_st:Tryz.prog.readableRec Qca=true∧Qca<Tryz.prog.types.size:=YbT Qca (by kernel_rfl)
def Zcf:List Int:=[9,13,1,32,133,101,160,5760,5600,8192,8202,1,8232,8233,1,8239,8287,48,12288,12288,1]
noncomputable def Xbe (os:Os):World:=
 let w0:=World.holding Tryz.prog os ⟨#[],#[],[]⟩
 let put (h:Array Obj) (g:Nat) (cs:Array Value):Array Obj:=h.modify g fun
  |.cells _ t frozen=>.cells cs t frozen
  |o=>o
 let h1:=put w0.heap 0 (spaces.map λz=>Value.int .u8 z).toArray
 let h2:=put h1 1 #[.pointer (some ⟨w0.heap.size,0,none⟩)]
 { w0 with heap:=(h2.push (.cells #[.slice (some ⟨w0.heap.size+1,0,none⟩) 7 7,.slice none 0 0,.int .i64 2] 328 (0,0))).push (.cells (Zcf.map λz=>Value.int .u16 z).toArray 331 (0,0)) }
theorem Qm{a b:Bool}(h:a=true)(k:b=true):(a&&b)=true:=by rw[h,k]; rfl
end Go.Proofs.YtflcpnaigpgciaaGreatDoor
end
section
namespace Go.Ah.Tz
open Go.Proofs.Tryz (prog)
attribute [local irreducible] Ans.rd Ans.pu Ans.wr Ans.dr Ans.gr Ans.gw Ans.gl Ans.gd Ans.opt joinK W
set_option maxHeartbeats 4000000
theorem c55(b:Bk)(hf:bkFit b=true)(hsm:QM b.cards)(s:St)(hs:StLe 1000000000 s):PC 55 [bkV b,stV s] (iv (bif mayR (bkR b).1 b s false then 0 else 170)):=by
 refine Qd hP g55_ok rfl rfl ?_;unfold g55;refine Zf (v:=.bptr 0 0) (rd:=[]) (up:=[(0,.box (bkC b))]) rfl rfl ?_;refine Zf (v:=.bptr 1 0) (rd:=[]) (up:=[(1,.box (stC s))]) rfl rfl ?_;refine Xat (rd:=[0,1]) (c111 b hf hsm s hs false) rfl g111_ok.plain (.cons (Bor.box (row:=bkC b) rfl (by simp) (BorL.ro rfl)) <| .cons (Bor.box (row:=stC s) rfl (by simp) (BorL.ro rfl)) <| .cons (Bor.ro rfl) .nil) rfl ?_;generalize mayR (bkR b).1 b s false=q;cases q with
 |true=>exact Ya rfl (Qi rfl)
 |false=>exact Ya rfl (Ze rfl)
end Go.Ah.Tz
end
section
namespace Go.Ah.Tz
open Go.Proofs.Tryz (prog)
def okU(s:St)(side id:Int):Bool:=(unitR s id).2.2&&(decide ((unitR s id).1=side) && !(((if (unitR s id).1=0 then s.s0.units else s.s1.units)[(unitR s id).2.1.toNat]?).getD default).tired)
theorem YbL(s:St)(id:Int):(∃k:Nat,∃u,unitR s id=(0,(k:Int),true)∧s.s0.units[k]?=some u)∨(∃k:Nat,∃u,unitR s id=(1,(k:Int),true)∧s.s1.units[k]?=some u)∨unitR s id=(0,0,false):=by
 unfold unitR;cases q0:fnd s.s0.units id with
 |some k=>obtain⟨u,hk,_⟩:=Zbu q0; exact .inl ⟨k,u,rfl,hk⟩
 |none=>
  cases q1:fnd s.s1.units id with
  |some k=>obtain⟨u,hk,_⟩:=Zbu q1; exact .inr (.inl ⟨k,u,rfl,hk⟩)
  |none=>exact .inr (.inr rfl)
end Go.Ah.Tz
end
section
namespace Go.Ah.Tz
open Go.Proofs.Tryz (prog)
open Go.Proofs.YtflcpnaigpgciaaGreatDoor.Rows (uptoBulk uptoBulkAll)
variable {H:Type}
abbrev t_ac:TypeId:=72
abbrev t_prs:TypeId:=70
abbrev t_pr:TypeId:=151
end Go.Ah.Tz
namespace Go.Proofs.YtflcpnaigpgciaaGreatDoor
open Go.ChangeShapes Go.WideShapes Go.ChangeAt Go.RowKit Go.Ah Go.Ah.Tz
set_option maxRecDepth 100000
def QaR:List TypeId:=[Xca,ZJ,t_ac,t_prs,t_pr,XL]
theorem QbC:QaR.all (tyOk Tryz.prog QaR)=true:=by kernel_rfl
end Go.Proofs.YtflcpnaigpgciaaGreatDoor
end
section
namespace Go.Proofs.YtflcpnaigpgciaaGreatDoor
open Go.ChangeShapes Go.WideShapes Go.ChangeAt Go.RowKit Go.Ah Go.Ah.Tz
set_option maxRecDepth 100000
theorem ZcK:Tryz.prog.readableRec XL=true∧XL<Tryz.prog.types.size:=YbT XL (by kernel_rfl)
section
variable {H:Type} {enc:TypeId×Value→H} {W:World} {base:Nat} {v:Value} {d:DataW H} {ps:List MemPlace}
theorem d_row(ho:Value.okWide Tryz.prog W .any base XL v)(h:DataW.Trod enc Tryz.prog W 0 (λ_=>true) true XL v d ps)(hb:Rows.uptoBulk d≤1048576):∃l:List Int,l.length≤1000000000∧Den (λk=>W.heap[k]?) noOwn (rowV l) v:=by
 obtain⟨a,len,cap,rfl⟩:=okWide_slice Zct ho;obtain⟨fuel,hf⟩:=h;obtain⟨_,xs,h1,h2⟩:=Yaj (S:=QaR) QbC fuel XL (by decide) _ _ ⟨_,hf⟩;obtain⟨l,rfl,k⟩:=ZaQ h2 hb;exact⟨l,by omega,h1.2 0 _ _ rfl rfl⟩
end
end Go.Proofs.YtflcpnaigpgciaaGreatDoor
end
section
namespace Go.Ah
open Go.Sort (Holds putRow grow putCells)
def SortC(P:Program)(f:FuncId):Prop:=∀(blk off cap:Nat) (zs:List Int) (w:World),Holds (Value.int .i64) w blk off zs.toArray→blk<w.heap.size→zs.length<4611686018427387904 →
 Calls P f #[.slice (some ⟨blk,off,none⟩) zs.length cap] w λe w'=>e=.returned (.tuple #[])∧∃n os,w'=grow (putRow (Value.int .i64) (Sort.ahead w n) blk off (zs.mergeSort λx y=>decide (x≤y)).toArray) os
def srt(l:List Int):List Int:=l.mergeSort λx y=>decide (x≤y)
theorem Qbo(l:List Int):(srt l).length=l.length:=by simp[srt]
theorem Ycl(l:List Int):(srt l).Perm l:=List.mergeSort_perm l _
theorem YcK(l:List Int):(srt l).Pairwise (·≤·):=by
 have:=List.pairwise_mergeSort (le:=λx y:Int=>decide (x≤y)) (λa b c h k=>by simp at h k ⊢; omega) (λa b=>by simp; omega) l;exact this.imp (λh=>by simpa using h)
section
variable {P:Program} {GL:Globs}
theorem QbA{f:FuncId}(hs:SortC P f){h0:Hp}{b:Nat}{zs:List Int}{ex:Bool}(hb:h0 b=some (.rows 1 (zs.map λz=>[.int .i64 z])))(hne:zs≠[])(hlen:zs.length<4611686018427387904) :
  ACall P GL f [.sl b 0 zs.length ex] h0 (.tup []) [] [(b,.rows 1 ((srt zs).map λz=>[.int .i64 z]))]:=by
 intro w0 L g h w vs r hx _ hup;have hb':h b=some (.rows 1 (zs.map λz=>[.int .i64 z])):=by rw[hup (b,_) (List.mem_singleton.2 rfl)]; exact hb
 have hpos:0<zs.length:=List.length_pos_iff.2 hne
 match vs,hx with
 |[v],hx=>
 have hd:=hx.1;generalize hk:zs.length=k at hd;cases hd with
 |slv _ _ _ cb a ec hv=>omega
 |sl _ _ _ _ _ cb cap ec hv h1 h2 h3=>
 subst hk;obtain⟨hM,hin,_⟩:=r.own b _ cb hb' rfl ec hv;obtain⟨hsz,arr,T,ho,ht,hle,_,hcell⟩:=r.rowsBlk hb' ec hv;simp only[List.length_map,Nat.mul_one] at hle;have htake:arr.toList.take zs.length=zs.map (Value.int .i64):=by
  apply List.ext_getElem?;intro j;by_cases hj:j<zs.length
  ·rw[List.getElem?_take_of_lt hj,List.getElem?_map,List.getElem?_eq_getElem hj,Array.getElem?_toList];obtain⟨u,hu⟩:∃u,arr[j]?=some u:=⟨arr[j]'(by omega),by simp[show j<arr.size by omega]⟩;have:=hcell j [.int .i64 zs[j]] 0 (.int .i64 zs[j]) u (by simp[hj]) rfl (by simpa using hu);rw[hu];cases this;rfl
  ·rw[List.getElem?_take_eq_none (by omega),List.getElem?_eq_none (by simp; omega)]
 have hlt:cb.blk<w.heap.size:=(Array.getElem?_eq_some_iff.1 ho).1;have h0':0*cb.sz=0:=by simp
 rw[h0'];refine(hs cb.blk 0 cap zs w (holds_of_blockI ho htake) hlt hlen).mono ?_;rintro e w' ⟨rfl,n,os,rfl⟩;refine⟨_,rfl,g,Gm.Le.refl _,?_,.tup _ [] #[] rfl (by simp)⟩;have hl2:(srt zs).length=zs.length:=Qbo zs;have r1:=r.write (b:=b) (blk':=.rows 1 ((srt zs).map λz=>[.int .i64 z])) (o':=.cells (putCells (Value.int .i64) 0 (srt zs).toArray arr) T (0,0)) (w':={ w with heap:=w.heap.setIfInBounds cb.blk (.cells (putCells (Value.int .i64) 0 (srt zs).toArray arr) T (0,0)) }) hb' rfl ec hv rfl rfl rfl rfl rfl ⟨hsz,_,T,rfl,by simp[putCells,ht],by simp; omega,by simp,?_⟩
 ·have hgr:=grownBy_sortedI (w:=w) (g:=cb.blk) (n:=n) (os:=os) (srt zs).toArray;have hh:=heap_sortedI (w:=w) (g:=cb.blk) (n:=n) (os:=os) (srt zs).toArray ho;refine r1.after (M:=λ_=>none) (M':=g.M) ?_ (MLe.refl _) (λc o ec'=>?_) (λc o ec'=>.inl ec')
  ·refine⟨rfl,rfl,rfl,?_,λk hk _=>?_⟩
   ·show (w.heap.setIfInBounds _ _).size≤_;rw[Array.size_setIfInBounds]; exact hgr.size
   ·have hk':k<w.heap.size:=by simpa using hk
    show _=(w.heap.setIfInBounds _ _)[k]?;by_cases e:k=cb.blk
    ·subst e;rw[show (w.heap.setIfInBounds cb.blk _)[cb.blk]?=_ from Array.getElem?_setIfInBounds_self_of_lt hk'];exact hh
    ·rw[Array.getElem?_setIfInBounds_ne (λq=>e q.symm)];exact hgr.block k hk' (λq=>e (Option.some.inj q))
  ·have hc:c<w.heap.size:=r.stable_lt ec';exact(hgr.block c hc (λq=>by cases q; rw[hM] at ec'; cases ec')).trans (r.stable c o ec')
 ·intro i row j x v hi hj hv';rw[List.getElem?_map] at hi;obtain⟨z,hz,rfl⟩:=Option.map_eq_some_iff.1 hi;have hj0:j=0:=by
   have:=(YLG hj).1;simpa using this
  subst hj0;cases hj;have hi':i<(srt zs).length:=(YLG hz).1;simp only[putCells,Nat.mul_one,Nat.add_zero,Array.getElem?_mapIdx] at hv';have hai:i<arr.size:=by omega
  rw[Array.getElem?_eq_getElem hai,Option.map_some,if_pos ⟨Nat.zero_le _,by simpa using hi'⟩] at hv';have:(srt zs).toArray[i-0]! = z:=by
   rw[Nat.sub_zero];rw[getElem!_pos _ i (by simpa using hi')];have:=(YLG hz).2;simpa using this
  rw[this] at hv';cases hv';exact .int _ _ _
end
theorem Xce{row:List AVal}(h:row.all AVal.cell=true):cellsOf (.agg row)=some row:=by simp[cellsOf,h]
theorem Qco{row:List AVal}(h:row.all AVal.cell=true)(σ:List ABlk):Yl [.agg row] σ=.ok (.bptr σ.length 0) [] [(σ.length,.box row)]:=by rw[e_box,Xce h]
theorem e_bld(n:Nat)(σ:List ABlk)(x:AVal)(z cs:List AVal)(hx:fill z [(0,n)] [x]=some cs)(hc:chunk n 1 cs=some [cs]):Qh n 1 z [(0,n)] [x] σ=.ok (.sl σ.length 0 1 true) [] [(σ.length,.rows n [cs])]:=by simp only[Qh,hx,hc]
theorem Bor.more{h0:Hp}{rd rd':List Nat}{x y:AVal}(h:Bor h0 rd x y)(hs:∀b∈rd,b∈rd'):Bor h0 rd' x y:=
 λGL w0 L g h' w M2 r hM hrd v d=>h GL w0 L g h' w M2 r hM (λb hb=>hrd b (hs b hb)) v d
theorem YaE:∀ {rs:List (List AVal)},(∀r∈rs,r.all AVal.cell=true)→Yu rs=true
 |[],_=>rfl
 |r::rs,h=>by simp only[Yu,Bool.and_eq_true]; exact⟨h r (by simp),YaE λx hx=>h x (by simp[hx])⟩
theorem Xb6{σ:List ABlk}{n c k:Nat}{ex2:Bool}{rs2:List (List AVal)}(hc:hget σ c=.rows n rs2)(hl2:rs2.length=k):ZB n σ (.sl c 0 k ex2)=some (rs2,[c]):=by
 simp only[ZB,hc];simp[cut,hl2];rw[show Nat.ble k k=true from Nat.ble_eq_true_of_le (Nat.le_refl _)];simp[←hl2]
theorem QbU(n by_:Nat){σ:List ABlk}{b c len k:Nat}{ex ex2:Bool}{rs rs2:List (List AVal)}(hb:hget σ b=.rows n rs)(hc:hget σ c=.rows n rs2)(hl:rs.length=len)(hl2:rs2.length=k)(hr:Yu rs2=true)(hroom:(2*(len+k)+192)*by_≤2 ^ 48) :
  Zi n by_ [.sl b 0 len ex,.sl c 0 k ex2] σ=.ok (.sl σ.length 0 (len+k) false) [c] ([(b,.dead)]++[(σ.length,.rows n (rs++rs2))]):=by
 have h2:Nat.ble ((2*(len+k)+192)*by_) (2 ^ 48)=true:=Nat.ble_eq_true_of_le hroom;have:Zi n by_ [.sl b 0 len ex,.sl c 0 k ex2] σ=ZE n by_ σ rs [(b,.dead)] (.sl c 0 k ex2):=by
  simp[Zi,Zan,hb,hl]
 rw[this];unfold ZE;simp only[Xb6 hc hl2,hr,hl2,h2,Bool.and_self,cond_true,hl]
theorem XbU(n by_:Nat){σ:List ABlk}{c k:Nat}{ex2:Bool}{rs2:List (List AVal)}(hc:hget σ c=.rows n rs2)(hl2:rs2.length=k)(hr:Yu rs2=true)(hroom:(2*k+192)*by_≤2 ^ 48) :
  Zi n by_ [.nils,.sl c 0 k ex2] σ=.ok (.sl σ.length 0 k false) [c] ([]++[(σ.length,.rows n rs2)]):=by
 have h3:Nat.ble ((2*k+192)*by_) (2 ^ 48)=true:=Nat.ble_eq_true_of_le hroom;show ZE n by_ σ [] [] (.sl c 0 k ex2)=_;unfold ZE;simp only[Xb6 hc hl2,hr,hl2,List.length_nil,h3,Bool.and_self,cond_true,Nat.zero_add,List.nil_append]
theorem YcF(n by_:Nat){σ:List ABlk}{b len:Nat}{ex e nn:Bool}{rs rows:List (List AVal)}(hb:hget σ b=.rows n rs)(hl:rs.length=len)(hr:Yu rows=true)(hroom:(2*(len+rows.length)+192)*by_≤2 ^ 48) :
  Zi n by_ [.sl b 0 len ex,.rsl e nn n rows] σ=.ok (.sl σ.length 0 (len+rows.length) false) [] ([(b,.dead)]++[(σ.length,.rows n (rs++rows))]):=by
 have h1:ZB n σ (.rsl e nn n rows)=some (rows,[]):=by simp[ZB]
 have h2:Nat.ble ((2*(len+rows.length)+192)*by_) (2 ^ 48)=true:=Nat.ble_eq_true_of_le hroom;have:Zi n by_ [.sl b 0 len ex,.rsl e nn n rows] σ=ZE n by_ σ rs [(b,.dead)] (.rsl e nn n rows):=by
  simp[Zi,Zan,hb,hl]
 rw[this];unfold ZE;simp only[h1,hr,h2,Bool.and_self,cond_true,hl]
end Go.Ah
end
section
namespace Go.Ah.Tz
open Go.Proofs.Tryz (prog)
theorem ZcD{σ:List ABlk}{b:Nat}{l:List Int}{ex:Bool}(h:SortC prog 89)(hb:hget σ b=.rows 1 (l.map cel))(hne:l≠[])(hlen:l.length≤1000000000){K:AVal→List ABlk→Prop}(hK:K (.tup []) (σ.set b (.rows 1 ((srt l).map cel)))) :
  VV.call (.call 89) [.sl b 0 l.length ex] σ K:=
 YT rfl g89_ok.plain (QbA h (YV hb (by simp)) hne (by omega)) (Xp _ (Zo hb (by simp))) hK
end Go.Ah.Tz
end
section
namespace Go.Ah.Tz
open Go.Shelf Go.Proofs
open Go.Proofs.Tryz (prog)
def QbG:Go.Shelf.Ren:=⟨fun|189=>89|125=>129|257=>128|128=>172|129=>173|294=>163|295=>164|296=>165|297=>166|298=>167|299=>168|216=>169|300=>170|301=>171|328=>215|329=>216|330=>217|331=>218|332=>219|215=>220|343=>234|n=>n,fun|28=>27|3=>3|46=>202|0=>0|51=>245|53=>247|4=>4|183=>238|182=>237|131=>209|5=>5|9=>9|218=>276|222=>280|228=>296|229=>125|n=>n,fun|n=>n⟩
theorem lays89:Go.Proofs.Lays.n189 prog QbG:={
 mixed:=by kernel_rfl,
 f125:=Tryz.func129.trans (congrArg some (by kernel_rfl)),
 f128:=Tryz.func172.trans (congrArg some (by kernel_rfl)),
 f129:=Tryz.func173.trans (congrArg some (by kernel_rfl)),
 f189:=Tryz.func89.trans (congrArg some (by kernel_rfl)),
 f215:=Tryz.func220.trans (congrArg some (by kernel_rfl)),
 f216:=Tryz.func169.trans (congrArg some (by kernel_rfl)),
 f257:=Tryz.func128.trans (congrArg some (by kernel_rfl)),
 f294:=Tryz.func163.trans (congrArg some (by kernel_rfl)),
 f295:=Tryz.func164.trans (congrArg some (by kernel_rfl)),
 f296:=Tryz.func165.trans (congrArg some (by kernel_rfl)),
 f297:=Tryz.func166.trans (congrArg some (by kernel_rfl)),
 f298:=Tryz.func167.trans (congrArg some (by kernel_rfl)),
 f299:=Tryz.func168.trans (congrArg some (by kernel_rfl)),
 f300:=Tryz.func170.trans (congrArg some (by kernel_rfl)),
 f301:=Tryz.func171.trans (congrArg some (by kernel_rfl)),
 f328:=Tryz.func215.trans (congrArg some (by kernel_rfl)),
 f329:=Tryz.func216.trans (congrArg some (by kernel_rfl)),
 f330:=Tryz.func217.trans (congrArg some (by kernel_rfl)),
 f331:=Tryz.func218.trans (congrArg some (by kernel_rfl)),
 f332:=Tryz.func219.trans (congrArg some (by kernel_rfl)),
 f343:=Tryz.func234.trans (congrArg some (by kernel_rfl)),
 t0:=Tryz.underlying0,
 a0:=Tryz.isAgg0,
 z0:=Tryz.sizeOf0,
 v0:=Tryz.zeroValue0,
 t3:=Tryz.underlying3,
 a3:=Tryz.isAgg3,
 z3:=Tryz.sizeOf3,
 v3:=Tryz.zeroValue3,
 t4:=Tryz.underlying4,
 a4:=Tryz.isAgg4,
 z4:=Tryz.sizeOf4,
 v4:=Tryz.zeroValue4,
 t5:=Tryz.underlying5,
 a5:=Tryz.isAgg5,
 z5:=Tryz.sizeOf5,
 v5:=Tryz.zeroValue5,
 t9:=Tryz.underlying9,
 a9:=Tryz.isAgg9,
 z9:=Tryz.sizeOf9,
 v9:=Tryz.zeroValue9,
 t28:=Tryz.underlying27,
 a28:=Tryz.isAgg27,
 z28:=Tryz.sizeOf27,
 v28:=Tryz.zeroValue27,
 t46:=Tryz.underlying202,
 a46:=Tryz.isAgg202,
 z46:=Tryz.sizeOf202,
 v46:=Tryz.zeroValue202,
 t51:=Tryz.underlying245,
 a51:=Tryz.isAgg245,
 z51:=Tryz.sizeOf245,
 v51:=Tryz.zeroValue245,
 t53:=Tryz.underlying247,
 a53:=Tryz.isAgg247,
 z53:=Tryz.sizeOf247,
 v53:=Tryz.zeroValue247,
 t131:=Tryz.underlying209,
 a131:=Tryz.isAgg209,
 z131:=Tryz.sizeOf209,
 v131:=Tryz.zeroValue209,
 t182:=Tryz.underlying237,
 a182:=Tryz.isAgg237,
 z182:=Tryz.sizeOf237,
 v182:=Tryz.zeroValue237,
 t183:=Tryz.underlying238,
 a183:=Tryz.isAgg238,
 z183:=Tryz.sizeOf238,
 v183:=Tryz.zeroValue238,
 t218:=Tryz.underlying276,
 a218:=Tryz.isAgg276,
 z218:=Tryz.sizeOf276,
 v218:=Tryz.zeroValue276,
 t222:=Tryz.underlying280,
 a222:=Tryz.isAgg280,
 z222:=Tryz.sizeOf280,
 v222:=Tryz.zeroValue280,
 t228:=Tryz.underlying296,
 a228:=Tryz.isAgg296,
 z228:=Tryz.sizeOf296,
 v228:=Tryz.zeroValue296,
 t229:=Tryz.underlying125,
 a229:=Tryz.isAgg125,
 z229:=Tryz.sizeOf125,
 v229:=Tryz.zeroValue125 }
theorem sort89:SortC prog 89:=λblk off cap zs w hH hb hl=>Any.slices_Sort_int lays89 blk off cap zs w hH hb hl
end Go.Ah.Tz
end
section
namespace Go.Ah.Tz
open Go.Proofs.Tryz (prog)
attribute [local irreducible] Ans.rd Ans.pu Ans.wr Ans.dr Ans.gr Ans.gw Ans.gl Ans.gd Ans.opt joinK W
set_option maxHeartbeats 8000000
def runF(go:Int→Bool)(step:Nat→Int→Int):Nat→Nat→Int→Int
 |0,_,a=>a
 |k+1,i,a=>if go a=true then runF go step k (i+1) (step i a) else a
theorem Zam{go:Int→Bool}{step:Nat→Int→Int}{n i:Nat}{a r:Int}(h:i<n)(hg:go a=true)(hr:runF go step (n-i) i a=r):runF go step (n-(i+1)) (i+1) (step i a)=r:=by
 rw[show n-i=n-(i+1)+1 by omega,runF,if_pos hg] at hr; exact hr
theorem Z9{go:Int→Bool}{step:Nat→Int→Int}{n i:Nat}{a r:Int}(h:¬i<n∨go a=false)(hr:runF go step (n-i) i a=r):a=r:=by
 cases k:n-i with
 |zero=>rw[k] at hr; exact hr
 |succ m=>
  rcases h with h|h
  ·omega
  ·rw[k,runF,if_neg (by rw[h]; simp)] at hr; exact hr
theorem c174(k:Nat):∀x:Nm,SizeOf.sizeOf x≤k→nmFit x=true→∃n,PC 174 [.agg (nmC x)] (iv n):=by
 induction k with
 |zero=>intro x h _; cases x; simp at h
 |succ k ih=>
  intro x hk hf;have hl:=ZZ hf;rw[bigE] at hl;have hF:∃F:Nat→Int,∀i (h:i<x.kids.length),PC 174 [.agg (nmC x.kids[i])] (iv (F i)):=by
   refine Classical.axiomOfChoice (r:=λ(i:Nat) (n:Int)=>∀(h:i<x.kids.length),PC 174 [.agg (nmC x.kids[i])] (iv n)) (λi=>?_);by_cases h:i<x.kids.length
   ·have hm:=List.getElem_mem h;obtain⟨n,hn⟩:=ih x.kids[i] (by have:=Xad hm; omega) (ZS hf hm);exact⟨n,λ_=>hn⟩
   ·exact⟨0,λh'=>(h h').elim⟩
  obtain⟨F,hF⟩:=hF;rw[Yx];generalize hr:runF (λ_=>true) (λi a=>min (IntKind.i64.wrap (a+F i)) 100000) (x.kids.length-0) 0 1=r;refine⟨r,Qd hP g174_ok rfl rfl ?_⟩;unfold g174;refine Zf rfl rfl ?_;refine Yj (ι:=Nat) (λi vs σ=>(∃a,vs=[iv i,iv a]∧runF (λ_=>true) (λi a=>min (IntKind.i64.wrap (a+F i)) 100000) (x.kids.length-i) i a=r)∧hget σ 0=.box [iv8 x.op,iv x.n,iv8 x.who,.rsl false false 4 (x.kids.map nmC)]∧i≤x.kids.length) (λi=>x.kids.length-i) 0 ⟨⟨1,rfl,hr⟩,rfl,by omega⟩ ?_;rintro i vs σ again ⟨⟨a,rfl,hr⟩,hB,hi⟩ hag;refine Ya rfl (Ya (ld hB rfl) (Ya (Zh ..) ?_));rw[List.length_map];refine Ya (XA ..) (Yc (λh=>?_) (λh=>?_))
  ·have h:i<x.kids.length:=by simpa using h
   refine Ya rfl (Ya (ld hB rfl) (Ya (Yo _ nmC false false 4 x.kids .i64 i h) (Ya (v:=.agg (nmC x.kids[i])) (ldr (by rw[Yx]; rfl)) ?_)));refine Yd (hF i h) rfl g174_ok.plain (by rw[Yx]; rfl) (Ya (Yk ..) (Ya (Z3 ..) (Ya (Yk ..) ?_)));rw[Qf (n:=i) (by omega)];exact hag (i+1) _ _ (by omega) ⟨⟨_,rfl,Zam h rfl hr⟩,hB,by omega⟩
  ·exact congrArg iv (Z9 (.inl (by simpa using h)) hr)
theorem c175(k:Nat):∀x:Cn,SizeOf.sizeOf x≤k→cnFit x=true→∃n,PC 175 [.agg (cnC x)] (iv n):=by
 induction k with
 |zero=>intro x h _; cases x; simp at h
 |succ k ih=>
  intro x hk hf;have hl1:=YI hf;have hl2:=ZI hf;rw[bigE] at hl1 hl2;have hF:∃F:Nat→Int,∀i (h:i<x.nums.length),PC 174 [.agg (nmC x.nums[i])] (iv (F i)):=by
   refine Classical.axiomOfChoice (r:=λ(i:Nat) (n:Int)=>∀(h:i<x.nums.length),PC 174 [.agg (nmC x.nums[i])] (iv n)) (λi=>?_);by_cases h:i<x.nums.length
   ·obtain⟨n,hn⟩:=c174 _ x.nums[i] (Nat.le_refl _) (QQ hf (List.getElem_mem h));exact⟨n,λ_=>hn⟩
   ·exact⟨0,λh'=>(h h').elim⟩
  have hG:∃F:Nat→Int,∀i (h:i<x.kids.length),PC 175 [.agg (cnC x.kids[i])] (iv (F i)):=by
   refine Classical.axiomOfChoice (r:=λ(i:Nat) (n:Int)=>∀(h:i<x.kids.length),PC 175 [.agg (cnC x.kids[i])] (iv n)) (λi=>?_);by_cases h:i<x.kids.length
   ·have hm:=List.getElem_mem h;obtain⟨n,hn⟩:=ih x.kids[i] (by have:=Xac hm; omega) (XQ hf hm);exact⟨n,λ_=>hn⟩
   ·exact⟨0,λh'=>(h h').elim⟩
  obtain⟨F,hF⟩:=hF;obtain⟨G,hG⟩:=hG;rw[QF];generalize hr:runF (λ_=>true) (λi a=>min (IntKind.i64.wrap (a+F i)) 100000) (x.nums.length-0) 0 1=r;generalize hr2:runF (λ_=>true) (λi a=>min (IntKind.i64.wrap (a+G i)) 100000) (x.kids.length-0) 0 r=r2;refine⟨r2,Qd hP g175_ok rfl rfl ?_⟩;unfold g175;refine Zf rfl rfl ?_;refine Yj (ι:=Nat) (λi vs σ=>(∃a,vs=[iv i,iv a]∧runF (λ_=>true) (λi a=>min (IntKind.i64.wrap (a+F i)) 100000) (x.nums.length-i) i a=r)∧hget σ 0=.box [iv8 x.op,iv8 x.who,.str x.name,.rsl false false 4 (x.nums.map nmC),.rsl false false 5 (x.kids.map cnC)]∧i≤x.nums.length) (λi=>x.nums.length-i) 0 ⟨⟨1,rfl,hr⟩,rfl,by omega⟩ ?_;rintro i vs σ again ⟨⟨a,rfl,hr⟩,hB,hi⟩ hag;refine Ya rfl (Ya (ld hB rfl) (Ya (Zh ..) ?_));rw[List.length_map];refine Ya (XA ..) (Yc (λh=>?_) (λh=>?_))
  ·have h:i<x.nums.length:=by simpa using h
   refine Ya rfl (Ya (ld hB rfl) (Ya (Yo _ nmC false false 4 x.nums .i64 i h) (Ya (v:=.agg (nmC x.nums[i])) (ldr (by rw[Yx]; rfl)) ?_)));refine Yd (hF i h) rfl g174_ok.plain (by rw[Yx]; rfl) (Ya (Yk ..) (Ya (Z3 ..) (Ya (Yk ..) ?_)));rw[Qf (n:=i) (by omega)];exact hag (i+1) _ _ (by omega) ⟨⟨_,rfl,Zam h rfl hr⟩,hB,by omega⟩
  obtain rfl:=Z9 (.inl (by simpa using h)) hr;clear hag again hr h hi;refine Yj (ι:=Nat) (λi vs σ=>(∃a,vs=[iv i,iv a]∧runF (λ_=>true) (λi a=>min (IntKind.i64.wrap (a+G i)) 100000) (x.kids.length-i) i a=r2)∧hget σ 0=.box [iv8 x.op,iv8 x.who,.str x.name,.rsl false false 4 (x.nums.map nmC),.rsl false false 5 (x.kids.map cnC)]∧i≤x.kids.length) (λi=>x.kids.length-i) 0 ⟨⟨_,rfl,hr2⟩,hB,by omega⟩ ?_;rintro i vs σ again ⟨⟨a,rfl,hr⟩,hB,hi⟩ hag;refine Ya rfl (Ya (ld hB rfl) (Ya (Zh ..) ?_));rw[List.length_map];refine Ya (XA ..) (Yc (λh=>?_) (λh=>?_))
  ·have h:i<x.kids.length:=by simpa using h
   refine Ya rfl (Ya (ld hB rfl) (Ya (Yo _ cnC false false 5 x.kids .i64 i h) (Ya (v:=.agg (cnC x.kids[i])) (ldr (by rw[QF]; rfl)) ?_)));refine Yd (hG i h) rfl g175_ok.plain (by rw[QF]; rfl) (Ya (Yk ..) (Ya (Z3 ..) (Ya (Yk ..) ?_)));rw[Qf (n:=i) (by omega)];exact hag (i+1) _ _ (by omega) ⟨⟨_,rfl,Zam h rfl hr⟩,hB,by omega⟩
  ·exact congrArg iv (Z9 (.inl (by simpa using h)) hr)
theorem told{α:Type}(l:List α){Q:α→Int→Prop}(h:∀x∈l,∃n,Q x n):∃F:Nat→Int,∀i (h:i<l.length),Q l[i] (F i):=by
 refine Classical.axiomOfChoice (r:=λ(i:Nat) (n:Int)=>∀(h:i<l.length),Q l[i] n) (λi=>?_);by_cases hi:i<l.length
 ·obtain⟨n,hn⟩:=h l[i] (List.getElem_mem hi);exact⟨n,λ_=>hn⟩
 ·exact⟨0,λh'=>(hi h').elim⟩
theorem c135(k:Nat):∀l:List Ef,SizeOf.sizeOf l≤k→lsFit l=true→∃n,PC 135 [efV l] (iv n):=by
 induction k with
 |zero=>intro l h _; cases l<;>simp at h
 |succ k ih=>
  intro l hk hf;have hl:=Zz hf;rw[bigE] at hl;have hm:∀x∈l,efFit x=true∧SizeOf.sizeOf x<SizeOf.sizeOf l:=λx hx=>⟨by simp only[lsFit,Bool.and_eq_true] at hf; exact Zak hf.2 x hx,List.sizeOf_lt_of_mem hx⟩;obtain⟨F1,h1⟩:=told l (Q:=λx n=>PC 174 [.agg (nmC x.n)] (iv n)) (λx hx=>c174 _ x.n (Nat.le_refl _) (Z0 (hm x hx).1));obtain⟨F2,h2⟩:=told l (Q:=λx n=>PC 175 [.agg (cnC x.c)] (iv n)) (λx hx=>c175 _ x.c (Nat.le_refl _) (ZX (hm x hx).1));obtain⟨F3,h3⟩:=told l (Q:=λx n=>PC 135 [efV x.thn] (iv n)) (λx hx=>ih x.thn (by have:=(XU x).1; have:=(hm x hx).2; omega) (QG (hm x hx).1));obtain⟨F4,h4⟩:=told l (Q:=λx n=>PC 135 [efV x.els] (iv n)) (λx hx=>ih x.els (by have:=(XU x).2; have:=(hm x hx).2; omega) (XG (hm x hx).1))
  let st:Nat→Int→Int:=λi a=>IntKind.i64.wrap (IntKind.i64.wrap (IntKind.i64.wrap (IntKind.i64.wrap (a+F1 i)+F2 i)+F3 i)+F4 i)
  generalize hr:runF (λa=>decide (a<100000)) st (l.length-0) 0 l.length=r;refine⟨min r 100000,Qd hP g135_ok rfl rfl ?_⟩;unfold g135;refine Ya (Zh ..) ?_;rw[List.length_map];refine Yj (ι:=Nat) (λi vs σ=>(∃a,vs=[iv i,iv a]∧runF (λa=>decide (a<100000)) st (l.length-i) i a=r)∧i≤l.length) (λi=>l.length-i) 0 ⟨⟨_,rfl,hr⟩,by omega⟩ ?_;rintro i vs σ again ⟨⟨a,rfl,hr⟩,hi⟩ hag;refine Ya (Zh ..) ?_;rw[List.length_map];refine Ya (XA ..) (Xb7 (λ_=>rfl) (λ_=>XA ..) (Yc (λh=>?_) (λh=>?_)))
  ·simp only[Bool.and_eq_true,decide_eq_true_eq] at h;obtain⟨h,hlt⟩:=h;have h:i<l.length:=by omega
   have hix:=λσ=>Yo σ efC false false 14 l .i64 i h
   replace h1:=h1 i h
   replace h2:=h2 i h
   replace h3:=h3 i h
   replace h4:=h4 i h
   have hR:=Zam h (decide_eq_true hlt) hr;generalize l[i]=x at hix h1 h2 h3 h4;refine Xi (hix _) (Xj _) (Yi rfl (Xi (ldr (efLdN x)) (Xj _) (Qj h1 rfl g174_ok.plain (by rw[Yx]; rfl) (Yi (Yk ..) ?_))));refine Xi (hix _) (Xj _) (Yi rfl (Xi (ldr (efLdC x)) (Xj _) (Qj h2 rfl g175_ok.plain (by rw[QF]; rfl) (Yi (Yk ..) ?_))));refine Xi (hix _) (Xj _) (Yi rfl (Xi (ldr (Qp x)) (Xj _) (Qj h3 rfl g135_ok.plain rfl (Yi (Yk ..) ?_))));refine Xi (hix _) (Xj _) (Yi rfl (Xi (ldr (Zq x)) (Xj _) (Qj h4 rfl g135_ok.plain rfl (Yi (Yk ..) (QN (QD (by simp[allRd])) ?_)))));refine Ya (Yk ..) ?_;rw[Qf (n:=i) (by omega)];exact hag (i+1) _ _ (by omega) ⟨⟨_,rfl,hR⟩,by omega⟩
  ·refine Ya (Z3 ..) (congrArg iv ?_);rw[Z9 (a:=a) ?_ hr];simp only[Bool.and_eq_false_iff,decide_eq_false_iff_not] at h;rcases h with h|h
   ·exact .inl (by omega)
   ·exact .inr (decide_eq_false h)
theorem c133(b:Bk)(hf:bkFit b=true):∃q:Bool,PC 133 [bkV b] (.bool q):=by
 simp only[bkFit,ZQ,Bool.and_eq_true,decide_eq_true_eq] at hf;obtain⟨⟨f0,f3⟩,f1,f2⟩:=hf;rw[bigE] at f0 f1;have hm:∀x∈b.cards,lsFit x.played=true∧lsFit x.dead=true∧lsFit x.dawn=true:=λx hx=>by
  have:=List.all_eq_true.1 f3 x hx;simp only[cdFit,Bool.and_eq_true] at this;exact⟨this.2.1,this.2.2.1,this.2.2.2⟩
 obtain⟨F1,h1⟩:=told b.cards (Q:=λx n=>PC 135 [efV x.played] (iv n)) (λx hx=>c135 _ _ (Nat.le_refl _) (hm x hx).1);obtain⟨F2,h2⟩:=told b.cards (Q:=λx n=>PC 135 [efV x.dead] (iv n)) (λx hx=>c135 _ _ (Nat.le_refl _) (hm x hx).2.1);obtain⟨F3,h3⟩:=told b.cards (Q:=λx n=>PC 135 [efV x.dawn] (iv n)) (λx hx=>c135 _ _ (Nat.le_refl _) (hm x hx).2.2)
 let st:Nat→Int→Int:=λi a=>IntKind.i64.wrap (IntKind.i64.wrap (IntKind.i64.wrap (a+F1 i)+F2 i)+F3 i)
 let st2:Nat→Int→Int:=λi a=>IntKind.i64.wrap (IntKind.i64.wrap (a+((b.formats[i]?).map λf=>(f.banned.length:Int)).getD 0)+((b.formats[i]?).map λf=>(f.single.length:Int)).getD 0)
 generalize hr:runF (λa=>decide (a≤6000)) st (b.cards.length-0) 0 (IntKind.i64.wrap (b.cards.length+b.formats.length))=r;generalize hr2:runF (λa=>decide (a≤6000)) st2 (b.formats.length-0) 0 r=r2;refine⟨decide (r2>6000),Qd hP g133_ok rfl rfl ?_⟩;unfold g133;refine Zf (v:=.bptr 0 0) (rd:=[]) (up:=[(0,.box (bkC b))]) rfl rfl ?_;have lc:∀σ,Xe [cdV b.cards] σ=.ok (iv b.cards.length) [] []:=λσ=>by rw[Zh,List.length_map]
 have lf:∀σ,Xe [foV b.formats] σ=.ok (iv b.formats.length) [] []:=λσ=>by rw[Zh,List.length_map]
 refine Ya rfl (Ya rfl (Ya (lc _) (Ya rfl (Ya rfl (Ya (lf _) (Ya (Yk ..) ?_))))));refine Yj (ι:=Nat) (λi vs σ=>(∃a,vs=[iv i,iv a]∧runF (λa=>decide (a≤6000)) st (b.cards.length-i) i a=r)∧hget σ 0=.box (bkC b)∧i≤b.cards.length) (λi=>b.cards.length-i) 0 ⟨⟨_,rfl,hr⟩,rfl,by omega⟩ ?_;rintro i vs σ again ⟨⟨a,rfl,hr⟩,hB,hi⟩ hag;refine Ya rfl (Ya (ld hB rfl) (Ya (lc _) (Ya (XA ..) (Xb7 (λ_=>rfl) (λ_=>XbV ..) (Yc (λh=>?_) (λh=>?_))))))
 ·simp only[Bool.and_eq_true,decide_eq_true_eq] at h;obtain⟨h,hlt⟩:=h;have h:i<b.cards.length:=by omega
  have hix:=Yo σ cdC false false 12 b.cards .i64 i h
  replace h1:=h1 i h
  replace h2:=h2 i h
  replace h3:=h3 i h
  have hR:=Zam h (decide_eq_true hlt) hr;generalize b.cards[i]=x at hix h1 h2 h3;refine Ya rfl (Ya (ld hB rfl) (Ya hix (Ya (ldr (cdLd x)) (Xx (row:=cdC x) (row':=cdC x) rfl rfl rfl ?_))));have hx:=Zm σ (.box (cdC x));refine Yi rfl (Xi (ld hx rfl) (Xj _) (Qj h1 rfl g135_ok.plain rfl (Yi (Yk ..) ?_)));refine Yi rfl (Xi (ld hx rfl) (Xj _) (Qj h2 rfl g135_ok.plain rfl (Yi (Yk ..) ?_)));refine Yi rfl (Xi (ld hx rfl) (Xj _) (Qj h3 rfl g135_ok.plain rfl (Yi (Yk ..) (QN (QD (by simp[allRd])) ?_))));refine Ya (Yk ..) ?_;rw[Qf (n:=i) (by omega)];exact hag (i+1) _ _ (by omega) ⟨⟨_,rfl,hR⟩,Zn _ hB (by simp),by omega⟩
 obtain rfl:=Z9 (a:=a) (by
  simp only[Bool.and_eq_false_iff,decide_eq_false_iff_not] at h;rcases h with h|h
  ·exact .inl (by omega)
  ·exact .inr (decide_eq_false h)) hr
 clear hag again hr h hi;refine Yj (ι:=Nat) (λi vs σ=>(∃a,vs=[iv i,iv a]∧runF (λa=>decide (a≤6000)) st2 (b.formats.length-i) i a=r2)∧hget σ 0=.box (bkC b)∧i≤b.formats.length) (λi=>b.formats.length-i) 0 ⟨⟨_,rfl,hr2⟩,hB,by omega⟩ ?_;rintro i vs σ again ⟨⟨a,rfl,hr⟩,hB,hi⟩ hag;refine Ya rfl (Ya (ld hB rfl) (Ya (lf _) (Ya (XA ..) (Xb7 (λ_=>rfl) (λ_=>XbV ..) (Yc (λh=>?_) (λh=>?_))))))
 ·simp only[Bool.and_eq_true,decide_eq_true_eq] at h;obtain⟨h,hlt⟩:=h;have h:i<b.formats.length:=by omega
  have hix:=Yo σ foC false false 7 b.formats .i64 i h;have hR:=Zam h (decide_eq_true hlt) hr;have e:b.formats[i]?=some b.formats[i]:=by simp[h]
  simp only[st2,e,Option.map_some,Option.getD_some] at hR;generalize b.formats[i]=f at hix hR;refine Ya rfl (Ya (ld hB rfl) (Ya hix (Ya rfl (Ya (v:=txV f.banned) (rd:=[]) (ldr rfl) (Ya (v:=iv f.banned.length) (rd:=[]) (by simp[Zh]) (Ya (Yk ..) ?_))))));refine Ya rfl (Ya (ld hB rfl) (Ya hix (Ya rfl (Ya (v:=txV f.single) (rd:=[]) (ldr rfl) (Ya (v:=iv f.single.length) (rd:=[]) (by simp[Zh]) (Ya (Yk ..) ?_))))));refine Ya (Yk ..) ?_;rw[Qf (n:=i) (by omega)];exact hag (i+1) _ _ (by omega) ⟨⟨_,rfl,hR⟩,hB,by omega⟩
 obtain rfl:=Z9 (a:=a) (by
  simp only[Bool.and_eq_false_iff,decide_eq_false_iff_not] at h;rcases h with h|h
  ·exact .inl (by omega)
  ·exact .inr (decide_eq_false h)) hr
 exact Ya (Y4 ..) rfl
theorem c134(s:St):∃q:Bool,PC 134 [stV s] (.bool q):=by
 apply Exists.intro;refine Qd hP g134_ok rfl rfl ?_;unfold g134;refine Zf rfl rfl (Ya rfl (Ya rfl (Ya (Zh ..) (QE 3 (Zl ?_)))));refine Ya rfl (Ze (Ya rfl (Ya rfl (Ya rfl (Zf rfl rfl (Zf rfl rfl ?_))))))
 iterate 5 refine Ya rfl (Ya rfl (Ya (Zh ..) (Ya (Yk ..) ?_)))
 refine Ya (Yk ..) (Zl ?_);refine Ya rfl (Ze (Ya rfl (Ya rfl (Ya rfl (Zf rfl rfl (Zf rfl rfl ?_))))))
 iterate 5 refine Ya rfl (Ya rfl (Ya (Zh ..) (Ya (Yk ..) ?_)))
 refine Ya (Yk ..) (Zl ?_);exact Ya rfl (Qi (Ya (Y4 ..) rfl))
theorem c92(b:Bk)(hf:bkFit b=true)(s:St)(l:List Ef)(hl:lsFit l=true):∃q:Bool,PC 92 [bkV b,stV s,efV l] (.bool q):=by
 obtain⟨q1,h1⟩:=c133 b hf;obtain⟨q2,h2⟩:=c134 s;obtain⟨q3,h3⟩:=c135 _ l (Nat.le_refl _) hl;apply Exists.intro;refine Qd hP g92_ok rfl rfl ?_;unfold g92;refine Zf (v:=.bptr 0 0) (rd:=[]) (up:=[(0,.box (bkC b))]) rfl rfl ?_;refine Zf (v:=.bptr 1 0) (rd:=[]) (up:=[(1,.box (stC s))]) rfl rfl ?_;refine Ya rfl (Ya rfl (Ya (Zh ..) (Ya (Y4 ..) ?_)));refine XaG (v1:=bkV b) (λ_=>rfl) (λ_ k hk=>Yd h1 rfl g133_ok.plain rfl hk) ?_;refine XaG (v1:=stV s) (λ_=>rfl) (λ_ k hk=>Yd h2 rfl g134_ok.plain rfl hk) ?_;exact Xb9 (v1:=efV l) (u0:=iv q3) (λ_=>rfl) (λ_ k hk=>Yd h3 rfl g135_ok.plain rfl hk) (λ_=>Y4 ..) rfl
theorem c43(b:Bk)(hf:bkFit b=true)(s:St){x y:AVal}{n m:Int}(hx:∀σ,Xe [x] σ=.ok (iv n) [] [])(hy:∀σ,Xe [y] σ=.ok (iv m) [] []):∃q:Bool,PC 43 [bkV b,stV s,x,y] (.bool q):=by
 obtain⟨q,h92⟩:=c92 b hf s [] rfl;apply Exists.intro;refine Qd hP g43_ok rfl rfl ?_;unfold g43;refine Zf (v:=.bptr 0 0) (rd:=[]) (up:=[(0,.box (bkC b))]) rfl rfl ?_;refine Zf (v:=.bptr 1 0) (rd:=[]) (up:=[(1,.box (stC s))]) rfl rfl ?_;refine Ya rfl (Ya rfl (Xat (rd:=[]) h92 rfl g92_ok.plain (.cons (Bor.ro rfl) <| .cons (Bor.ro rfl) <| .cons (Bor.weak (Bor.ro rfl) (λM u d=>d.nils_rsl 14)) .nil) rfl ?_));refine Zaj (λ_=>rfl) (λ_=>hx _) (λ_=>Y4 ..) ?_;exact Zaj (λ_=>rfl) (λ_=>hy _) (λ_=>Y4 ..) rfl
def sameN(a b:Ev):Bool:=((((decide (a.kind=b.kind)&&decide (a.side=b.side))&&decide (a.card=b.card))&&decide (a.id=b.id))&&decide (a.other=b.other))&&decide (a.n=b.n)
theorem c99(a b:Ev){x y:AVal}(hx:x.cell=true)(hy:y.cell=true)(hr:x.ro=true)(hr2:y.ro=true){q:Bool}(h62:∀(σ:List ABlk) (k:AVal→List ABlk→Prop),k (.bool q) σ→VV.call (.call 62) [x,y] σ k) :
  PC 99 [.agg [iv8 a.kind,iv a.side,iv a.card,iv a.id,iv a.other,iv a.n,x],.agg [iv8 b.kind,iv b.side,iv b.card,iv b.id,iv b.other,iv b.n,y]] (.bool (sameN a b&&q)):=by
 refine Qd hP g99_ok rfl rfl ?_;unfold g99;have h0:hget ([]++[ABlk.box [iv8 a.kind,iv a.side,iv a.card,iv a.id,iv a.other,iv a.n,x]]++[ABlk.box [iv8 b.kind,iv b.side,iv b.card,iv b.id,iv b.other,iv b.n,y]]) 0=.box [iv8 a.kind,iv a.side,iv a.card,iv a.id,iv a.other,iv a.n,x]:=rfl;have h1:hget ([]++[ABlk.box [iv8 a.kind,iv a.side,iv a.card,iv a.id,iv a.other,iv a.n,x]]++[ABlk.box [iv8 b.kind,iv b.side,iv b.card,iv b.id,iv b.other,iv b.n,y]]) 1=.box [iv8 b.kind,iv b.side,iv b.card,iv b.id,iv b.other,iv b.n,y]:=rfl;have hcl:∀(e:Ev) {z:AVal},z.cell=true→[iv8 e.kind,iv e.side,iv e.card,iv e.id,iv e.other,iv e.n,z].all AVal.cell=true:=λe z hz=>by
  show (true&&(true&&(true&&(true&&(true&&(true&&(z.cell&&true)))))))=true;rw[hz]; rfl
 refine Zf (Qco (hcl a hx) []) (YM _ _) ?_;refine Zf (Qco (hcl b hy) _) (YM _ _) ?_;refine Ya rfl (Ya rfl (Ya rfl (Ya rfl (Ya (Xf ..) ?_))));refine Za9 (λ_=>rfl) (λ_=>rfl) (λ_=>rfl) (λ_=>rfl) (λ_=>Xf ..) ?_;refine Za9 (λ_=>rfl) (λ_=>rfl) (λ_=>rfl) (λ_=>rfl) (λ_=>Xf ..) ?_;refine Za9 (λ_=>rfl) (λ_=>rfl) (λ_=>rfl) (λ_=>rfl) (λ_=>Xf ..) ?_;refine Za9 (λ_=>rfl) (λ_=>rfl) (λ_=>rfl) (λ_=>rfl) (λ_=>Xf ..) ?_;refine Za9 (λ_=>rfl) (λ_=>rfl) (λ_=>rfl) (λ_=>rfl) (λ_=>Xf ..) ?_;exact Qb7 (v2:=x) (v4:=y) (λ_=>rfl) (λ_=>rfl) (λ_=>rfl) (λ_=>rfl) (λ_ k hk=>h62 _ _ hk) rfl
theorem QbH(a:Ev):sameN a a=true:=by simp[sameN]
theorem c47{rows:List (List AVal)}(hl:rows.length≤1000000000)(h:∀r∈rows,r.length=7∧roL r=true∧PC 99 [.agg r,.agg r] (.bool true)):PC 47 [.rsl false false 7 rows,.rsl false false 7 rows] (.bool true):=by
 refine Qd hP g47_ok rfl rfl ?_;unfold g47;refine Ya (Zh ..) (Ya (Zh ..) (Ya (Yaa ..) ?_));rw[decide_eq_false (show ¬((rows.length:Int)≠rows.length) by simp)];refine Qi ?_;refine Yj (ι:=Nat) (λi vs _=>vs=[iv i]∧i≤rows.length) (λi=>rows.length-i) 0 ⟨rfl,by omega⟩ ?_;rintro i vs σ again ⟨rfl,hi⟩ hag;refine Ya (Zh ..) (Ya (XA ..) (Yc (λhlt=>?_) (λ_=>rfl)));have hlt:i<rows.length:=by simpa using hlt
 obtain⟨q1,q2,q3⟩:=h rows[i] (List.getElem_mem hlt);have hix:=QcF σ false false 7 rows .i64 i rows[i] (by simp[hlt]);generalize rows[i]=r at hix q1 q2 q3;have hp:partA true 0 7 r=some (.agg r):=by
  match r,q1 with
  |[a,b,c,d,e,f,g],_=>rfl
 refine Xi hix (Xj _) (Xi (ldr hp) (Xj _) (Xi hix (Xj _) (Xi (ldr hp) (Xj _) ?_)));refine Qj q3 rfl g99_ok.plain (by simp[roL,AVal.ro,q2]) (Yi rfl (QN (QD (by simp[allRd])) (Qi (Ya (Yk ..) ?_))));rw[Qf (n:=i) (by omega)];exact hag (i+1) _ _ (by omega) ⟨rfl,by omega⟩
theorem c98(l:List Int)(hl:l.length≤1000000000)(x:Int):PC 98 [rowV l,iv x] (.bool (l.contains x)):=by
 refine Qd hP g98_ok rfl rfl ?_;unfold g98;refine Yj (ι:=Nat) (λi vs _=>vs=[iv i]∧i≤l.length∧l.contains x=(l.drop i).contains x) (λi=>l.length-i) 0 ⟨rfl,by omega,rfl⟩ ?_;rintro i vs σ again ⟨rfl,hi,hc⟩ hag;refine Ya (Zh ..) ?_;rw[List.length_map];refine Ya (XA ..) (Yc (λh=>?_) (λh=>?_))
 ·have h:i<l.length:=by simpa using h
  rw[YLD h,List.contains_cons] at hc;refine Ya (Yo _ cel false false 1 l .i64 i h) (Ya (v:=iv l[i]) (ldr rfl) (Ya (Xf ..) (Yc (λq=>?_) (λq=>?_))))
  ·have q:l[i]=x:=by simpa using q
   rw[hc,q]; simp
  ·have q:¬l[i]=x:=by simpa using q
   refine Ya (Yk ..) ?_;rw[Qf (n:=i) (by omega)];refine hag (i+1) _ _ (by omega) ⟨rfl,by omega,?_⟩;rw[hc,show (x==l[i])=false by simpa using λe=>q e.symm,Bool.false_or]
 ·have h:i=l.length:=by simp at h; omega
  subst h;rw[List.drop_length] at hc;rw[hc]; rfl
theorem c97(s:St)(hs:StLe 1000000000 s)(id:Int):PC 97 [stV s,iv id] (.bool (okU s s.mover id)):=by
 refine Qd hP g97_ok rfl rfl ?_;unfold g97;refine Zf (v:=.bptr 0 0) (rd:=[]) (up:=[(0,.box (stC s))]) rfl rfl ?_;refine Ya (v:=stV s) (rd:=[0]) rfl (Yd (c23 s hs id) rfl g23_ok.plain rfl (Ya rfl (Ya rfl (Ya rfl ?_))));rcases YbL s id with ⟨k,u,hu,hk⟩|⟨k,u,hu,hk⟩|hu
 ·rw[show okU s s.mover id=(decide ((0:Int)=s.mover) && !u.tired) by simp[okU,hu,hk]];rw[hu];have hkl:k<s.s0.units.length:=(YLG hk).1;have hku:s.s0.units[k]=u:=(YLG hk).2;have hix:=λ(τ:List ABlk)=>Yo τ thC false false 4 s.s0.units .i64 k hkl;rw[hku] at hix;refine Qcr (λ_=>rfl) (λ_=>rfl) (λ_=>rfl) (λ_=>Xf ..) ?_;rw[Bool.true_and];exact Yb7 (v9:=.bool u.tired) (λ_=>rfl) (λ_=>rfl) (λ_=>rfl) (λ_=>rfl) (λ_=>rfl) (λ_=>rfl) (λ_=>hix _) (λ_=>rfl) (λ_=>ldr rfl) (λ_=>rfl) rfl
 ·rw[show okU s s.mover id=(decide ((1:Int)=s.mover) && !u.tired) by simp[okU,hu,hk]];rw[hu];have hkl:k<s.s1.units.length:=(YLG hk).1;have hku:s.s1.units[k]=u:=(YLG hk).2;have hix:=λ(τ:List ABlk)=>Yo τ thC false false 4 s.s1.units .i64 k hkl;rw[hku] at hix;refine Qcr (λ_=>rfl) (λ_=>rfl) (λ_=>rfl) (λ_=>Xf ..) ?_;rw[Bool.true_and];exact Yb7 (v9:=.bool u.tired) (λ_=>rfl) (λ_=>rfl) (λ_=>rfl) (λ_=>rfl) (λ_=>rfl) (λ_=>rfl) (λ_=>hix _) (λ_=>rfl) (λ_=>ldr rfl) (λ_=>rfl) rfl
 ·rw[show okU s s.mover id=false by simp[okU,hu]];rw[hu];repeat first|refine Yb rfl ?_|refine Xc rfl ?_
  refine Ya rfl ?_;repeat first|refine Yb rfl ?_|refine Xc rfl ?_
  exact Ya rfl rfl
end Go.Ah.Tz
end
section
namespace Go.Ah
def SortN(P:Program)(f:FuncId):Prop:=∀(p:Option Addr) (cap:Nat) (w:World),Calls P f #[.slice p 0 cap] w λe w'=>e=.returned (.tuple #[])∧w'=w
section
variable {P:Program} {GL:Globs}
theorem Zbc{f:FuncId}(hs:SortN P f){h0:Hp}{b:Nat}{ex:Bool}:ACall P GL f [.sl b 0 0 ex] h0 (.tup []) [] []:=by
 intro w0 L g h w vs r hx _ _
 match vs,hx with
 |[v],hx=>
 have hd:=hx.1;have key:∃p cap,v=.slice p 0 cap:=by
  cases hd with
  |slv _ _ _ cb a ec hv=>exact⟨_,_,rfl⟩
  |sl _ _ _ _ _ cb cap ec hv h1 h2 h3=>exact⟨_,_,rfl⟩
 obtain⟨p,cap,rfl⟩:=key;refine(hs p cap w).mono ?_;rintro e w' ⟨rfl,rfl⟩;exact⟨_,rfl,g,Gm.Le.refl _,r,.tup _ [] #[] rfl (by simp)⟩
end
end Go.Ah
namespace Go.Ah.Tz
open Go.Proofs.Tryz (prog)
attribute [local irreducible] Ans.rd Ans.pu Ans.wr Ans.dr Ans.gr Ans.gw Ans.gl Ans.gd Ans.opt joinK W
set_option maxHeartbeats 8000000
theorem Ybb{n:Nat}(h:n≤1000000000):IntKind.i64.wrap (((n+1:Nat):Int)-1)=(n:Int):=by
 rw[IntWalk.i64_in _ (by omega)]; omega
def YcD(l:List Int):Prop:=∀i (h:i+1<l.length),l[i]≠l[i+1]
theorem Ych{l:List Int}(hs:l.Pairwise (·≤·))(ha:YcD l):l.Nodup:=by
 rw[List.nodup_iff_pairwise_ne,List.pairwise_iff_getElem];rw[List.pairwise_iff_getElem] at hs;intro i j hi hj hij e;have h1:l[i]≤l[i+1]:=hs i (i+1) hi (by omega) (by omega);have h2:l[i+1]≤l[j]:=by
  by_cases h:i+1=j
  ·subst h; exact Int.le_refl _
  ·exact hs (i+1) j (by omega) hj (by omega)
 have:=ha i (by omega);omega
theorem c137{σ:List ABlk}{b:Nat}{l:List Int}(hb:hget σ b=.rows 1 (l.map cel))(hs:l.Pairwise (·≤·))(hl:l.length≤1000000000){K:AVal→List ABlk→Prop}(hK:∀(m:Nat) τ,decide ((m:Int)<l.length) = !decide l.Nodup→K (.sl b 0 m false) τ) :
  g137 VV [.sl b 0 l.length false] σ K:=by
 have hyes:l.Nodup→∀τ,K (.sl b 0 l.length false) τ:=λh τ=>hK _ τ (by rw[decide_eq_false (by omega),decide_eq_true h]; rfl);unfold g137;refine Ya rfl (Ya (XA ..) (Yc (λh=>?_) (λh=>?_)))
 ·refine hyes ?_ _;have h:l.length<2:=by simp at h; omega
  match l,h with
  |[],_=>simp
  |[x],_=>simp
  |_::_::_,h=>simp at h; omega
 have hn2:2≤l.length:=by simp at h; omega
 clear h;refine Yj (ι:=Nat) (λi vs τ=>vs=[iv (i+1:Nat)]∧τ=σ∧i+1≤l.length∧∀j (h:j<i) (h2:j+1<l.length),l[j]≠l[j+1]) (λi=>l.length-i) 0 ⟨rfl,rfl,by omega,λj h=>by omega⟩ ?_;rintro i vs τ again ⟨rfl,rfl,hi,hap⟩ hag;refine Ya rfl (Ya (XA ..) (Yc (λh=>?_) (λh=>?_)));rotate_left
 ·have h:i+1=l.length:=by simp at h; omega
  exact hyes (Ych hs λj hj=>hap j (by omega) hj) _
 have h:i+1<l.length:=by simp at h; omega
 have ix:∀(τ:List ABlk) (L:List Int) (n:Nat),hget τ b=.rows 1 (L.map cel)→n<l.length→Xb 1 [.sl b 0 l.length false,iv n] τ=.ok (.ptr b n 0) [b] []:=λτ L n hb hn=>by
  have:=QbD τ b 0 l.length false 1 (L.map cel) .i64 n hn hb;rw[Nat.zero_add] at this; exact this
 have gt:∀ {L:List Int} {n:Nat} (h:n<L.length),(L.map cel)[n]?=some (cel L[n]):=λh=>by simp[h]
 refine Ya (ix _ l _ hb h) (Ya (v:=iv l[i+1]) (ldp hb (gt h) rfl) (Ya (ZcH ..) ?_));rw[Ybb (by omega)];refine Ya (ix _ l _ hb (by omega)) (Ya (v:=iv l[i]) (ldp hb (gt (by omega)) rfl) (Ya (Xf ..) (Yc (λhq=>?_) (λhq=>?_))));rotate_left
 ·have hq:¬l[i+1]=l[i]:=by simpa using hq
  refine Ya (Yk ..) ?_;rw[Qf (n:=i+1) (by omega)];refine hag (i+1) _ _ (by omega) ⟨rfl,rfl,by omega,λj h1 h2=>?_⟩;by_cases e:j=i
  ·subst e; exact λe=>hq e.symm
  ·exact hap j (by omega) h2
 have hq:l[i+1]=l[i]:=by simpa using hq
 have hnd:¬l.Nodup:=λhn=>by
  have h1:=List.pairwise_iff_getElem.1 (List.nodup_iff_pairwise_ne.1 hn) i (i+1) (by omega) h (by omega);exact h1 hq.symm
 replace hK:∀(m:Nat) τ,m<l.length→K (.sl b 0 m false) τ:=λm τ hm=>hK m τ (by rw[decide_eq_true (by omega),decide_eq_false hnd]; rfl)
 clear hyes hap hag hq;obtain⟨v,rd,hv,⟨_,rfl,rfl⟩|⟨h0,_⟩⟩:=Xcr (n:=l.length) (i:=i+1) (ex:=false) hb (by omega);rotate_left
 ·omega
 refine Ya hv ?_;have ix2:∀(τ:List ABlk) (L:List Int) (n:Nat),hget τ b=.rows 1 (L.map cel)→n<l.length-(i+1)→Xb 1 [.sl b (i+1) (l.length-(i+1)) false,iv n] τ=.ok (.ptr b (i+1+n) 0) [b] []:=λτ L n hb hn=>
  QbD τ b (i+1) (l.length-(i+1)) false 1 (L.map cel) .i64 n hn hb
 refine Yj (ι:=Nat) (λj vs τ=>∃(m:Nat) (L:List Int),vs=[iv (j+1:Nat),iv m]∧hget τ b=.rows 1 (L.map cel)∧L.length=l.length∧m≤i+1+j∧i+1+(j+1)≤l.length) (λj=>l.length-j) 0 ⟨i+1,l,rfl,hb,rfl,by omega,by omega⟩ ?_;clear hb;rintro j vs τ again ⟨m,L,rfl,hb,hL,hm,hj⟩ hag;have hbl:=Zo hb (by simp);refine Ya rfl (Ya (XA ..) (Yc (λh=>?_) (λh=>?_)))
 ·have h:j+1<l.length-(i+1):=by simp at h; omega
  refine Xn λk17 hk=>?_;have hl1:i+1+(j+1)<L.length:=by omega
  have hl0:i+1+j<L.length:=by omega
  refine Ya (ix2 _ L _ hb h) (Ya (v:=iv L[i+1+(j+1)]) (ldp hb (gt hl1) rfl) (Ya (ZcH ..) ?_));rw[Ybb (by omega)];refine Ya (ix2 _ L _ hb (by omega)) (Ya (v:=iv L[i+1+j]) (ldp hb (gt hl0) rfl) (Ya (Yaa ..) (Yc (λ_=>?_) (λ_=>?_))))
  ·refine Ya (ix2 _ L _ hb h) (Ya (v:=iv L[i+1+(j+1)]) (ldp hb (gt hl1) rfl) (Ya (ix _ L _ hb (by omega)) ?_));refine Zf (Xcf hb (by omega) _) (Xp _ hbl) (Ya (Yk ..) ?_);rw[Qf (n:=m) (by omega),hk];refine Ya (Yk ..) ?_;rw[Qf (n:=j+1) (by omega)];exact hag (j+1) _ _ (by omega) ⟨m+1,_,rfl,Qn _ hbl,by simpa using hL,by omega,by omega⟩
  ·rw[hk];refine Ya (Yk ..) ?_;rw[Qf (n:=j+1) (by omega)];exact hag (j+1) _ _ (by omega) ⟨m,L,rfl,hb,hL,by omega,by omega⟩
 have hmn:m<l.length:=by omega
 obtain⟨v,rd,hv,⟨_,rfl,rfl⟩|⟨h0,_⟩⟩:=Xcr (n:=l.length) (i:=m) (ex:=false) hb (by omega);rotate_left
 ·omega
 refine Ya hv ?_;have hc:Zac 1 [.int .i64 0] [.sl b m (l.length-m) false] τ=.ok .junk [] [(b,.rows 1 (over m (List.replicate (l.length-m) [.int .i64 0]) (L.map cel)))]:=by
  show (match hget τ b with
   |.rows s rs=>bif Nat.beq s 1&&Nat.ble (m+(l.length-m)) rs.length then SRes.ok .junk [] [(b,.rows 1 (over m (List.replicate (l.length-m) [.int .i64 0]) rs))] else .stop
   | _=>.stop)=_
  rw[hb];have:Nat.ble (m+(l.length-m)) (L.map cel).length=true:=Nat.ble_eq_true_of_le (by simp; omega);simp only[this,Nat.beq_refl,Bool.and_self,cond_true]
 refine Zf hc (Xp _ hbl) ?_;refine Ya (v:=.sl b 0 m false) (rd:=[b]) ?_ (hK m _ hmn);show (match hget (τ.set b _) b with
  |.rows s _=>bif Nat.beq s 1&&Nat.ble m l.length then SRes.ok (.sl b 0 m false) [b] [] else .stop
  | _=>.stop)=_
 rw[Qn _ hbl];have:Nat.ble m l.length=true:=Nat.ble_eq_true_of_le (by omega);simp only[this,Nat.beq_refl,Bool.and_self,cond_true]
theorem c95(h89:SortC prog 89)(hn:SortN prog 89)(l:List Int)(hl:l.length≤1000000000):PC 95 [rowV l] (.bool (!decide l.Nodup)):=by
 refine Qd hP g95_ok rfl rfl ?_;unfold g95;refine Yaf (c96 l hl) rfl g96_ok.plain rfl ?_;simp only[Xt,List.map_cons,List.map_nil,YN,AVal.ren,Qx,List.length_nil,Nat.zero_add,List.nil_append];have key:∀σ,hget σ 0=.rows 1 ((srt l).map cel)→VV.call (.call 137) [.sl 0 0 l.length false] σ λt9_2 σ=>VV.rd (Xe [t9_2] σ) λt10_3=>VV.rd (Xe [rowV l] σ) λt12_4=>VV.rd (Xh .lss false [t10_3,t12_4] σ) λt13_5=>t13_5=.bool (!decide l.Nodup):=λσ hb=>by
  have hln:=Qbo l;refine ZK hP rfl g137_ok rfl ?_;rw[←hln];refine c137 hb (YcK l) (by omega) (λm τ hm=>?_);refine Ya rfl (Ya (Zh ..) ?_);rw[List.length_map];refine Ya (XA ..) ?_;rw[hln,decide_eq_decide.2 (Ycl l).nodup_iff] at hm;exact congrArg AVal.bool hm
 by_cases h0:l=[]
 ·subst h0;refine YT rfl g89_ok.plain (Zbc hn) (Xj _) ?_;exact key _ (by rw[show srt []=[] from List.eq_nil_of_length_eq_zero (Qbo [])]; rfl)
 ·exact ZcD h89 rfl h0 hl (key _ rfl)
end Go.Ah.Tz
end
section
namespace Go.Ah.Tz
open Go.Proofs.Tryz (prog)
def Zy(s:St)(side:Int):Sd:=if side=0 then s.s0 else s.s1
def tireU(ids:List Int)(u:Th):Th:=if ids.contains u.id then { u with tired:=true } else u
def tireS(ids:List Int)(s:St):St:={ s with s0:={ s.s0 with units:=s.s0.units.map (tireU ids) },s1:={ s.s1 with units:=s.s1.units.map (tireU ids) } }
theorem Xcn(ids:List Int)(u:Th):(tireU ids u).id=u.id:=by unfold tireU; split<;>rfl
theorem Zba(s:St):tireS [] s=s:=by
 have:∀l:List Th,l.map (tireU [])=l:=λl=>List.map_id'' (λu=>rfl) l;simp[tireS,this]
theorem Zcg(ids:List Int)(l:List Th)(id:Int):fnd (l.map (tireU ids)) id=fnd l id:=by
 unfold fnd;rw[List.findIdx?_map]
 congr 1
 funext u
 simp[Xcn]
theorem Qam(ids:List Int)(s:St)(id:Int):unitR (tireS ids s) id=unitR s id:=by
 simp only[unitR,tireS,Zcg]
theorem Ybp{s:St}{id:Int}(h:(unitR s id).2.2=true):∃(k:Nat) (u:Th),(unitR s id).2.1=k∧(Zy s (unitR s id).1).units[k]?=some u∧u.id=id∧((unitR s id).1=0∨(unitR s id).1=1):=by
 unfold unitR at h ⊢;cases q0:fnd s.s0.units id with
 |some k=>obtain⟨u,hk,hi⟩:=Zbu q0; exact⟨k,u,rfl,hk,hi,.inl rfl⟩
 |none=>
  cases q1:fnd s.s1.units id with
  |some k=>obtain⟨u,hk,hi⟩:=Zbu q1; exact⟨k,u,rfl,hk,hi,.inr rfl⟩
  |none=>rw[q0,q1] at h; cases h
theorem Zby(s:St)(side id:Int):okU s side id=((unitR s id).2.2&&(decide ((unitR s id).1=side) && !(((Zy s (unitR s id).1).units[(unitR s id).2.1.toNat]?).getD default).tired)):=by
 rw[okU,Zy]; split<;>rfl
theorem XE(ids:List Int)(s:St)(k:Int):(Zy (tireS ids s) k).units=(Zy s k).units.map (tireU ids):=by
 unfold Zy tireS; split<;>rfl
theorem Xch{ids:List Int}{s:St}{side id:Int}(h:id∉ids):okU (tireS ids s) side id=okU s side id:=by
 rw[Zby,Zby,Qam];cases hu:(unitR s id).2.2 with
 |false=>rfl
 |true=>
  obtain⟨k,u,h1,h2,h3,_⟩:=Ybp hu;rw[h1,Int.toNat_natCast,XE,List.getElem?_map,h2];subst h3;simp[tireU,h]
theorem XbA{l:List Th}{ids:List Int}{k:Nat}{u:Th}(hk:l[k]?=some u)(hn:(l.map Th.id).Nodup):(l.map (tireU ids)).set k { tireU ids u with tired:=true }=l.map (tireU (ids++[u.id])):=by
 apply List.ext_getElem?;intro j;have hkl:k<l.length:=(YLG hk).1;by_cases e:j=k
 ·subst e;rw[List.getElem?_set_self (by simpa using hkl),List.getElem?_map,hk];simp only[Option.map_some,Option.some.injEq,tireU];simp;split<;>exact⟨rfl,rfl,rfl⟩
 ·rw[List.getElem?_set_ne (λh=>e h.symm),List.getElem?_map,List.getElem?_map];cases hj:l[j]? with
  |none=>rfl
  |some w=>
   have hjl:j<l.length:=(YLG hj).1;have hne:w.id≠u.id:=λh=>by
    have h1:=List.pairwise_iff_getElem.1 (List.nodup_iff_pairwise_ne.1 hn);have e1:(l.map Th.id)[j]'(by simpa using hjl)=w.id:=by simp[(YLG hj).2]
    have e2:(l.map Th.id)[k]'(by simpa using hkl)=u.id:=by simp[(YLG hk).2]
    rcases Nat.lt_or_gt_of_ne e with h'|h'
    ·exact h1 j k (by simpa using hjl) (by simpa using hkl) h' (by rw[e1,e2,h])
    ·exact h1 k j (by simpa using hkl) (by simpa using hjl) h' (by rw[e1,e2,h])
   simp[tireU,hne]
theorem XaP{l:List Th}{ids:List Int}{id:Int}(h:id∉l.map Th.id):l.map (tireU (ids++[id]))=l.map (tireU ids):=by
 refine List.map_congr_left λu hu=>?_;have:u.id≠id:=λe=>h (e▸List.mem_map.2 ⟨u,hu,rfl⟩);simp[tireU,this]
def XF(s:St)(ids:List Int):St:={ tireS ids s with attack:=ids,struck:=true,phase:=1 }
def YK(s:St)(ids:List Int):List Ev:=ids.map λid=>⟨11,s.mover,0,id,0,0,[]⟩
def YZ(s:St)(ids:List Int):Bool:=((!(decide (s.phase≠0)||s.struck) && !decide ((ids.length:Int)=0))&&decide ids.Nodup)&&ids.all λid=>okU s s.mover id
def beginR(b:Bk)(s:St)(ids:List Int):St×List Ev×Int:=if mayR (bkR b).1 b s false=true then (if YZ s ids=true then (XF s ids,YK s ids,0) else (zSt,[],2)) else (zSt,[],170)
@[reducible] def Za2(r:St×List Ev×Int):AVal:=.tup [stV r.1,.rsl false false 7 (r.2.1.map evN),iv r.2.2]
structure CP (τ:List ABlk) (n:Nat) (t:St):Prop where
 box:hget τ (n+11)=.box (stO t n)
 key:∀i x,(stB t)[i]?=some x→hget τ (n+i)=x
theorem CP.sb{τ:List ABlk}{n:Nat}{t:St}(h:CP τ n t):∃rd,SB τ rd (stO t n) t:=
 ⟨(List.range 11).map (n + ·),SB.copy h.key λi hi=>List.mem_map.2 ⟨i,List.mem_range.2 hi,rfl⟩⟩
def ubk(side:Int):Nat:=if side=0 then 4 else 9
def uof(side:Int):Nat:=if side=0 then 7 else 15
theorem CP.units{τ:List ABlk}{n:Nat}{t:St}(h:CP τ n t){side:Int}(hs:side=0∨side=1):hget τ (n+ubk side)=.rows 4 ((Zy t side).units.map thC)∧(∀σ,Xg 2 8 [.bptr (n+11) (0+7),iv side] σ=.ok (.bptr (n+11) (uof side)) [] []) ∧
  partA false (uof side+6) 1 (stO t n)=some (.sl (n+ubk side) 0 (Zy t side).units.length false):=by
 rcases hs with rfl|rfl
 ·exact⟨h.key 4 _ rfl,λ_=>rfl,rfl⟩
 ·exact⟨h.key 9 _ rfl,λ_=>rfl,rfl⟩
theorem Xbs{σ:List ABlk}{b k:Nat}{l:List Th}{u:Th}(hb:hget σ b=.rows 4 (l.map thC))(hk:l[k]?=some u):Qb 1 [.ptr b k 3,.bool true] σ=.ok .junk [] [(b,.rows 4 ((l.set k { u with tired:=true }).map thC))]:=by
 have hkl:k<(l.map thC).length:=by simpa using (YLG hk).1
 have h1:nth (l.map thC) k=some (thC u):=by rw[ZW,List.getElem?_map,hk]; rfl
 have h2:Xz k (thC { u with tired:=true }) (l.map thC)=some ((l.set k { u with tired:=true }).map thC):=by
  rw[Qai hkl,List.map_set]
 show (match hget σ b with
   |.rows sz rs=>match nth rs k with
    |some row=>match cellsOf (.bool true) with
     | some cs=>bif Nat.beq cs.length 1 then (match splice 3 cs row with
      |some row'=>match Xz k row' rs with
       |some rs'=>SRes.ok .junk [] [(b,.rows sz rs')]
       |none=>.stop
      | none=>.stop) else .stop
     |none=>.stop
    |none=>.stop
   | _=>.stop)=_
 rw[hb];simp only[h1];show (match Xz k (thC { u with tired:=true }) (l.map thC) with
  |some rs'=>SRes.ok .junk [] [(b,.rows 4 rs')]
  | none=>.stop)=_
 rw[h2]
theorem CP.tire{τ:List ABlk}{n:Nat}{s:St}{d:List Int}(h:CP τ n (tireS d s)){side:Int}(hs:side=0∨side=1){k:Nat}{u:Th}(hk:(Zy s side).units[k]?=some u)(hn:((s.s0.units++s.s1.units).map Th.id).Nodup) :
  CP (τ.set (n+ubk side) (.rows 4 (((Zy (tireS d s) side).units.set k { tireU d u with tired:=true }).map thC))) n (tireS (d++[u.id]) s):=by
 rw[List.map_append,List.nodup_append] at hn;obtain⟨n0,n1,n2⟩:=hn;have hm:u∈(Zy s side).units:=List.mem_of_getElem? hk;have hb:=h.box;rcases hs with rfl|rfl
 ·have e0:s.s0.units.map (tireU (d++[u.id]))=(s.s0.units.map (tireU d)).set k { tireU d u with tired:=true }:=(XbA hk n0).symm;have e1:s.s1.units.map (tireU (d++[u.id]))=s.s1.units.map (tireU d):=XaP λhc=>n2 u.id (List.mem_map.2 ⟨u,hm,rfl⟩) u.id hc rfl;have hlt:=Zo (h.key 4 _ rfl) (by simp);refine⟨?_,λi x hx=>?_⟩
  ·rw[Xk _ (Zo hb (by simp)) (by show n+11≠n+4; omega),hb];simp[tireS]
  ·by_cases e:i=4
   ·subst e;rw[show ubk 0=4 from rfl,Qn _ hlt];cases hx;show ABlk.rows 4 _=.rows 4 ((s.s0.units.map (tireU (d++[u.id]))).map thC);rw[e0]; rfl
   ·have hx':(stB (tireS d s))[i]?=some x:=by
     rw[←hx]
     match i,e with
     |0,_|1,_|2,_|3,_|5,_|6,_|7,_|8,_|10,_=>rfl
     |9,_=>show some (ABlk.rows 4 ((s.s1.units.map (tireU d)).map thC))=some (.rows 4 ((s.s1.units.map (tireU (d++[u.id]))).map thC)); rw[e1]
     |i+11,_=>rfl
    have:=h.key i x hx';have hi:i<11:=(YLG hx').1;rw[Xk _ (by have:=Zo hb (by simp); omega) (by show n+i≠n+4; omega)]; exact this
 ·have e1:s.s1.units.map (tireU (d++[u.id]))=(s.s1.units.map (tireU d)).set k { tireU d u with tired:=true }:=(XbA hk n1).symm;have e0:s.s0.units.map (tireU (d++[u.id]))=s.s0.units.map (tireU d):=XaP λhc=>n2 u.id hc u.id (List.mem_map.2 ⟨u,hm,rfl⟩) rfl;have hlt:=Zo (h.key 9 _ rfl) (by simp);refine⟨?_,λi x hx=>?_⟩
  ·rw[Xk _ (Zo hb (by simp)) (by show n+11≠n+9; omega),hb];simp[tireS]
  ·by_cases e:i=9
   ·subst e;rw[show ubk 1=9 from rfl,Qn _ hlt];cases hx;show ABlk.rows 4 _=.rows 4 ((s.s1.units.map (tireU (d++[u.id]))).map thC);rw[e1]; rfl
   ·have hx':(stB (tireS d s))[i]?=some x:=by
     rw[←hx]
     match i,e with
     |0,_|1,_|2,_|3,_|5,_|6,_|7,_|8,_|10,_=>rfl
     |4,_=>show some (ABlk.rows 4 ((s.s0.units.map (tireU d)).map thC))=some (.rows 4 ((s.s0.units.map (tireU (d++[u.id]))).map thC)); rw[e0]
     |i+11,_=>rfl
    have:=h.key i x hx';have hi:i<11:=(YLG hx').1;rw[Xk _ (by have:=Zo hb (by simp); omega) (by show n+i≠n+9; omega)]; exact this
end Go.Ah.Tz
end
section
namespace Go.Ah.Tz
open Go.Proofs.Tryz (prog)
attribute [local irreducible] Ans.rd Ans.pu Ans.wr Ans.dr Ans.gr Ans.gw Ans.gl Ans.gd Ans.opt joinK W
set_option maxHeartbeats 8000000
theorem Gr.set{σ τ:List ABlk}{n k:Nat}{rows:List (List AVal)}{v:AVal}(h:Gr σ n rows k v τ){c:Nat}(hc:c<σ.length)(x:ABlk):Gr (σ.set c x) n rows k v (τ.set c x):=by
 obtain⟨h1,h2,h3⟩:=h;refine⟨by simpa using h1,λd hd=>?_,?_⟩
 ·have hd':d<σ.length:=by simpa using hd
  by_cases e:d=c
  ·subst e; rw[Qn _ (by omega),Qn _ hc]
  ·rw[Xk _ (by omega) e,Xk _ hd' e]; exact h2 d hd'
 ·rcases h3 with h3|⟨q1,b,q2,q3,q4,q5⟩
  ·exact .inl h3
  ·exact .inr ⟨q1,b,by simpa using q2,q3,Qo q4 (by simp) (by omega),q5⟩
theorem Gr.evs{σ0 σ:List ABlk}{l:List Ev}{v:AVal}(h:Gr σ0 7 (l.map evN) l.length v σ):∃rd,Bor (Go.Ah.hp σ) rd v (.rsl false false 7 (l.map evN)):=by
 rcases h.2.2 with ⟨h1,rfl,h3⟩|⟨_,b,_,rfl,h4,_⟩
 ·have:l=[]:=by simpa using h3
  subst this;exact⟨[],Bor.weak (Bor.ro rfl) (λM u d=>d.nils_rsl 7)⟩
 ·refine⟨[b],Bor.own h4 (by simp) (by simp) (XaA _ _ (by simp)) (λr hr=>?_)⟩;obtain⟨e,_,rfl⟩:=List.mem_map.1 hr;rfl
theorem YO{σ:List ABlk}(e:Int):∃rd,Bor (Go.Ah.hp σ) rd (.tup [.agg zStC,.nils,iv e]) (Za2 (zSt,[],e)):=
 ⟨[],Bor.tup (.cons SB.zero.agg <| .cons (Bor.weak (Bor.ro rfl) (λM u d=>d.nils_rsl 7)) <| .cons (Bor.ro rfl) .nil)⟩
theorem Qcl{s:St}(hs:StLe 1000000000 s){σ:List ABlk}{n:Nat}(hn:σ.length=n){K:AVal→AVal→List ABlk→Prop}(hK:∀τ,τ.length=n+12→(∀c y,hget σ c=.box y→hget τ c=.box y)→CP τ n s→K (.bptr (n+11) 0) .junk τ) :
  VV.call (.call 59) [stV s] σ λv σ=>VV.wr (Ye zStC [] σ) σ λt σ=>VV.wr (Qb 23 [t,v] σ) σ (K t):=by
 subst hn;refine w59 hs (SB.ro (rd:=[]) s) ?_;have hl:(σ++stB s).length=σ.length+11:=by simp[stB,sdB]
 refine Xx (row:=stO s σ.length) (row':=stO s σ.length) rfl rfl rfl ?_;have h11:=Zm (σ++stB s) (.box (stO s σ.length));rw[hl] at h11 ⊢;refine hK _ (by simp[stB,sdB]) (λc y h=>Zn _ (Zn _ h (by simp)) (by simp)) ⟨h11,λi x hx=>?_⟩;have hi:i<11:=(YLG hx).1;exact QJ (by rw[List.getElem?_append_left (by omega),List.getElem?_append_right (by omega)]; simpa using hx)
@[reducible] def atkC(t s:St)(ids:List Int)(n c:Nat):List AVal:=stQ t (.sl c 0 ids.length false) (.sl (n+1) 0 s.s0.deck.length false) (.sl (n+2) 0 s.s0.hand.length false) (.sl (n+3) 0 s.s0.grave.length false) (.sl (n+4) 0 (s.s0.units.map (tireU ids)).length false) (.sl (n+5) 0 s.s0.told.length false) (.sl (n+6) 0 s.s1.deck.length false) (.sl (n+7) 0 s.s1.hand.length false) (.sl (n+8) 0 s.s1.grave.length false) (.sl (n+9) 0 (s.s1.units.map (tireU ids)).length false) (.sl (n+10) 0 s.s1.told.length false)
theorem Xcd{τ:List ABlk}{n c:Nat}{s:St}{ids:List Int}(key:∀i x,1≤i→(stB (tireS ids s))[i]?=some x→hget τ (n+i)=x)(hc:hget τ c=.rows 1 (ids.map cel)):∃rd,SB τ rd (atkC (XF s ids) s ids n c) (XF s ids):=by
 have hin:∀ i,i < 11→n + i∈c :: (List.range 11).map (n + ·):=λi hi=>List.mem_cons_of_mem _ (List.mem_map.2 ⟨i,List.mem_range.2 hi,rfl⟩);exact⟨c :: (List.range 11).map (n + ·),SB.mk (RI.own hc (by simp) rfl) (RI.own (key 1 _ (by decide) rfl) (hin 1 (by decide)) rfl) (RI.own (key 2 _ (by decide) rfl) (hin 2 (by decide)) rfl) (RI.own (key 3 _ (by decide) rfl) (hin 3 (by decide)) rfl) (RT.own (key 4 _ (by decide) rfl) (hin 4 (by decide)) rfl) (RI.own (key 5 _ (by decide) rfl) (hin 5 (by decide)) rfl)
  (RI.own (key 6 _ (by decide) rfl) (hin 6 (by decide)) rfl) (RI.own (key 7 _ (by decide) rfl) (hin 7 (by decide)) rfl) (RI.own (key 8 _ (by decide) rfl) (hin 8 (by decide)) rfl) (RT.own (key 9 _ (by decide) rfl) (hin 9 (by decide)) rfl) (RI.own (key 10 _ (by decide) rfl) (hin 10 (by decide)) rfl)⟩
theorem QaY{s:St}{ids:List Int}{σ1 τ1:List ABlk}{v:AVal}{c:Nat}(hG1:Gr σ1 7 ((YK s ids).map evN) ids.length v τ1)(hlen:σ1.length=15)(x2:hget σ1 2=.box zStC)(hkey1:∀j x,1≤j→(stB (tireS ids s))[j]?=some x→hget σ1 (3+j)=x)(hnew:hget τ1 c=.rows 1 (ids.map cel))(hl15:15≤c)(b14:3+11<τ1.length) :
  VV.rd (Zd true 23 [.bptr (3+11) 0] (((τ1.set (3+11) (.box (atkC (tireS ids s) s ids 3 c))).set (3+11) (.box (atkC { tireS ids s with struck:=true } s ids 3 c))).set (3+11) (.box (atkC (XF s ids) s ids 3 c)))) λt93_70=>
  VV.wr (Qb 23 [.bptr 2 0,t93_70] (((τ1.set (3+11) (.box (atkC (tireS ids s) s ids 3 c))).set (3+11) (.box (atkC { tireS ids s with struck:=true } s ids 3 c))).set (3+11) (.box (atkC (XF s ids) s ids 3 c)))) (((τ1.set (3+11) (.box (atkC (tireS ids s) s ids 3 c))).set (3+11) (.box (atkC { tireS ids s with struck:=true } s ids 3 c))).set (3+11) (.box (atkC (XF s ids) s ids 3 c))) λ_ σ=>
  VV.opt (cellV true 23 (.bptr 2 0) σ) λr71=>(λv' σ=>∃rd,Bor (Go.Ah.hp σ) rd v' (Za2 (XF s ids,YK s ids,0))) (.tup [r71,v,(.int .i64 0)]) σ:=by
 have hG4:=((hG1.set (c:=3+11) (by omega) (.box (atkC (tireS ids s) s ids 3 c))).set (c:=3+11) (by simp; omega) (.box (atkC { tireS ids s with struck:=true } s ids 3 c))).set (c:=3+11) (by simp; omega) (.box (atkC (XF s ids) s ids 3 c));have y22:=hG4.old (c:=2) (Qo (Qo (Qo x2 (by simp) (by omega)) (by simp) (by omega)) (by simp) (by omega)) (by simp);have hc4:hget (((τ1.set (3+11) (.box (atkC (tireS ids s) s ids 3 c))).set (3+11) (.box (atkC { tireS ids s with struck:=true } s ids 3 c))).set (3+11) (.box (atkC (XF s ids) s ids 3 c))) c=.rows 1 (ids.map cel):=Qo (Qo (Qo hnew (by simp) (by omega)) (by simp) (by omega)) (by simp) (by omega);refine Ya (v:=.agg (atkC (XF s ids) s ids 3 c)) (ld (Qn _ (by simpa using b14)) rfl) ?_;generalize (((τ1.set (3+11) (.box (atkC (tireS ids s) s ids 3 c))).set (3+11) (.box (atkC { tireS ids s with struck:=true } s ids 3 c))).set (3+11) (.box (atkC (XF s ids) s ids 3 c)))=τ4 at hG4 y22 hc4 ⊢;have b24:=Zo y22 (by simp);refine Zf (stv (row':=atkC (XF s ids) s ids 3 c) y22 rfl rfl rfl) (Xp _ b24) (Ys (v:=.agg (atkC (XF s ids) s ids 3 c)) (ZaA (Qn _ b24) rfl) ?_);have hG5:=hG4.set (c:=2) (by simp; omega) (.box (atkC (XF s ids) s ids 3 c));have e3:(YK s ids).length=ids.length:=by simp[YK]
 rw[←e3] at hG5;obtain⟨rd2,hev⟩:=hG5.evs;have hkey:∀j x,1≤j→(stB (tireS ids s))[j]?=some x→hget (τ4.set 2 (.box (atkC (XF s ids) s ids 3 c))) (3+j)=x:=λj x hj1 hx=>by
  have hj:j<11:=(YLG hx).1;rw[hG5.2.1 (3+j) (by simp; omega),Xk _ (by simp; omega) (by omega),Xk _ (by simp; omega) (by omega),Xk _ (by simp; omega) (by omega),Xk _ (by omega) (by omega)];exact hkey1 j x hj1 hx
 obtain⟨rd1,hsb⟩:=Xcd hkey (Qo hc4 (by simp) (by omega));exact⟨rd1++rd2,Bor.tup (.cons (Bor.more hsb.agg (by simp +contextual)) <| .cons (Bor.more hev (by simp +contextual)) <| .cons (Bor.ro rfl) .nil)⟩
theorem c45(h89:SortC prog 89)(hn:SortN prog 89)(b:Bk)(hf:bkFit b=true)(hsm:QM b.cards)(s:St)(hs:StLe 1000000000 s)(ids:List Int)(hl:ids.length≤1000000000):PC 45 [bkV b,stV s,rowV ids] (Za2 (beginR b s ids)):=by
 refine Xaq hP g45_ok rfl ?_;unfold g45;refine Zf (v:=.bptr 0 0) (rd:=[]) (up:=[(0,.box (bkC b))]) rfl rfl ?_;refine Zf (v:=.bptr 1 0) (rd:=[]) (up:=[(1,.box (stC s))]) rfl rfl ?_;refine Zf (v:=.bptr 2 0) (rd:=[]) (up:=[(2,.box zStC)]) rfl rfl ?_;refine Ya rfl (Ya rfl (Yd (c55 b hf hsm s hs) rfl g55_ok.plain rfl (Ya (Yaa ..) ?_)));rcases YBE (mayR (bkR b).1 b s false) with hm|hm
 rotate_left
 ·rw[beginR,if_neg (by rw[hm]; simp),hm];exact Ze (Ya rfl (Zf rfl rfl (Ys rfl (YO 170))))
 rw[beginR,if_pos hm,hm];have hM:=(YbZ.1 (Zbx hm)).2;refine Qi (Ya rfl (Ya rfl (Ya (Yaa ..) ?_)));refine Zcs (v1:=.bptr 1 3) (d:=s.struck) (λ_=>rfl) (λ_=>rfl) ?_;refine Zaj (v2:=iv ids.length) (q2:=[]) (λ_=>rfl) (λ_=>by simp[Zh]) (λ_=>Xf ..) ?_;refine XaG (v1:=rowV ids) (λ_=>rfl) (λ_ k hk=>Yd (c95 h89 hn ids hl) rfl g95_ok.plain rfl hk) (Yc (λh=>?_) (λh=>?_))
 ·rw[if_neg]
  ·exact Ya rfl (Zf rfl rfl (Ys rfl (YO 2)))
  ·intro hb;simp only[YZ,Bool.and_eq_true,Bool.not_eq_true'] at hb;rw[hb.1.1.1,hb.1.1.2,hb.1.2] at h;simp at h
 obtain⟨hh,hnd⟩:(!(decide (s.phase≠0)||s.struck) && !decide ((ids.length:Int)=0))=true∧ids.Nodup:=by
  rw[Bool.or_eq_false_iff,Bool.or_eq_false_iff] at h;obtain⟨⟨q1,q2⟩,q3⟩:=h;exact⟨by rw[q1,q2]; rfl,by simpa using q3⟩
 have hok:YZ s ids=ids.all λid=>okU s s.mover id:=by rw[YZ,hh,decide_eq_true hnd]; rfl
 clear h;have hne:ids≠[]:=by rintro rfl; simp at hh
 refine Ya rfl (Qcl hs (n:=3) rfl (λτ hlen hbx hcp=>?_));have x0:hget τ 0=.box (bkC b):=hbx 0 _ rfl;have x2:hget τ 2=.box zStC:=hbx 2 _ rfl;rw[←Zba s] at hcp;have hcp:CP τ 3 (tireS [] s):=hcp;have hlen:τ.length=15:=hlen;clear hbx;refine Ya (v:=iv ids.length) (rd:=[]) (by simp[Zh]) ?_;refine Yj (ι:=Nat) (λi vs τ=>∃(σ1:List ABlk) (v:AVal),vs=[iv i,v]∧i≤ids.length∧σ1.length=15∧hget σ1 2=.box zStC∧CP σ1 3 (tireS (ids.take i) s)∧Gr σ1 7 ((YK s (ids.take i)).map evN) i v τ∧(ids.take i).all (λid=>okU s s.mover id)=true) (λi=>ids.length-i) 0 ⟨τ,_,rfl,by omega,hlen,x2,hcp,Gr.nil 7 τ,rfl⟩ ?_;clear x0 x2 hcp hlen;rintro i vs τ again ⟨σ1,v,rfl,hi,hlen,x2,hcp,hG,hall⟩ hag;have y2:=hG.old x2 (by simp);have ybox:=hG.old hcp.box (by simp);refine Ya (XA ..) (Yc (λh=>?_) (λh=>?_))
 ·have h:i<ids.length:=by simpa using h
  have hix:=λ(t:List ABlk)=>Yo t cel false false 1 ids .i64 i h;have htk:ids.take (i+1)=ids.take i++[ids[i]]:=by rw[List.take_succ_eq_append_getElem h]
  have hnin:ids[i]∉ids.take i:=λhc=>by
   obtain⟨j,hj,e⟩:=List.getElem_of_mem hc;simp at hj e;exact(List.pairwise_iff_getElem.1 (List.nodup_iff_pairwise_ne.1 hnd) j i (by omega) h (by omega)) e
  have hmem:ids[i]∈ids:=List.getElem_mem h;generalize hid:ids[i]=id at hix htk hnin hmem;have ykey:∀j x,(stB (tireS (ids.take i) s))[j]?=some x→hget τ (3+j)=x:=λj x hx=>by
   have hj:j<11:=(YLG hx).1;rw[hG.2.1 (3+j) (by omega)]; exact hcp.key j x hx
  have ycp:CP τ 3 (tireS (ids.take i) s):=⟨ybox,ykey⟩;obtain⟨rd,hsb⟩:=ycp.sb;have hle:StLe 1000000000 (tireS (ids.take i) s):=⟨hs.1,⟨hs.2.1,hs.2.2,hs.2.3,by simpa[tireS] using hs.2.4,hs.2.5⟩,⟨hs.3.1,hs.3.2,hs.3.3,by simpa[tireS] using hs.3.4,hs.3.5⟩⟩;refine Ya (hix _) (Ya (v:=iv id) (ldr rfl) (Ya (v:=.agg (stO (tireS (ids.take i) s) 3)) (ld ybox rfl) ?_));refine Xat (rd:=rd) (c71 _ hle id) rfl g71_ok.plain (.cons hsb.agg <| .cons (Bor.ro rfl) .nil) rfl ?_;have hun:unitR (tireS (ids.take i) s) id=unitR s id:=Qam _ _ _;refine Ya rfl (Ya rfl (Ya rfl (Ya rfl ?_)));rw[hun];refine XcK (v3:=iv s.mover) (λ_=>rfl) (λ_=>rfl) (λ_=>ld ybox rfl) (λ_=>Yaa ..) ?_;have hokt:=Xch (s:=s) (side:=s.mover) hnin;rw[Zby,hun] at hokt;have hun1:=ycp.units (side:=(unitR s id).1);have hfound:(!(unitR s id).2.2||decide ((unitR s id).1≠s.mover))=false→∃(k:Nat) (u:Th),(unitR s id).2.1=k∧(Zy s (unitR s id).1).units[k]?=some u∧u.id=id∧((unitR s id).1=0∨(unitR s id).1=1):=λhc=>Ybp (by simp only[Bool.or_eq_false_iff,Bool.not_eq_false'] at hc; exact hc.1);generalize hsdk:(unitR s id).1=sd at hokt hun1 hfound ⊢;generalize hkk:(unitR s id).2.1=kk at hokt hfound ⊢;generalize (unitR s id).2.2=ok at hokt hfound ⊢;refine ZcL (q3:=[]) (q5:=[14]) (q7:=[3+ubk sd]) (q9:=[3+ubk sd]) (v3:=.bptr 14 (uof sd)) (v4:=.bptr 14 (uof sd+6)) (v5:=.sl (3+ubk sd) 0 (Zy (tireS (ids.take i) s) sd).units.length false) (v7:=.ptr (3+ubk sd) kk.toNat 0) (v8:=.ptr (3+ubk sd) kk.toNat 3) (d:=(((Zy (tireS (ids.take i) s) sd).units[kk.toNat]?).getD default).tired) (λ_=>rfl) (λ_=>rfl) (λhc=>?_) (λ_=>rfl) (λhc=>?_) (λ_=>rfl) (λhc=>?_) (λ_=>rfl) (λhc=>?_) ?_
  ·obtain⟨k,u,q1,q2,q3,q4⟩:=hfound hc;exact(hun1 q4).2.1 _
  ·obtain⟨k,u,q1,q2,q3,q4⟩:=hfound hc;exact ld ybox (hun1 q4).2.2
  ·obtain⟨k,u,rfl,q2,q3,q4⟩:=hfound hc;have hkl:k<(Zy s sd).units.length:=(YLG q2).1;have:=QbD τ (3+ubk sd) 0 (Zy (tireS (ids.take i) s) sd).units.length false 4 _ .i64 k (by rw[XE]; simpa using hkl) (hun1 q4).1;rw[Nat.zero_add] at this; exact this
  ·obtain⟨k,u,rfl,q2,q3,q4⟩:=hfound hc;have e:(Zy (tireS (ids.take i) s) sd).units[k]?=some (tireU (ids.take i) u):=by rw[XE,List.getElem?_map,q2]; rfl
   rw[Int.toNat_natCast,e];exact ldp (hun1 q4).1 (row:=thC (tireU (ids.take i) u)) (by rw[List.getElem?_map,e]; rfl) rfl
  have hval:(((!ok||decide (sd≠s.mover))||(((Zy (tireS (ids.take i) s) sd).units[kk.toNat]?).getD default).tired)) = !okU s s.mover id:=by
   rw[←hokt,show decide (sd≠s.mover) = !decide (sd=s.mover) by simp];cases ok<;>cases decide (sd=s.mover)<;>simp
  rw[hval];refine Yc (λhq=>?_) (λhq=>?_)
  ·have hq:okU s s.mover id=false:=by simpa using hq
   rw[hok,if_neg (λhc=>by have:=List.all_eq_true.1 hc id hmem; rw[hq] at this; cases this)];refine Ya rfl (Zf (stv (row':=zStC) y2 rfl rfl rfl) (Xp _ (Zo y2 (by simp))) (Ys (ZaA (Qn _ (Zo y2 (by simp))) rfl) (YO 2)))
  have hq:okU s s.mover id=true:=by simpa using hq
  have hc:(!ok||decide (sd≠s.mover))=false:=by
   rw[hq] at hval;simp only[Bool.not_true,Bool.or_eq_false_iff] at hval;simp only[Bool.or_eq_false_iff];exact hval.1
  have hsd:sd=s.mover:=by
   simp only[Bool.or_eq_false_iff,decide_eq_false_iff_not,ne_eq,Decidable.not_not] at hc;exact hc.2
  obtain⟨k,u,rfl,q2,rfl,q4⟩:=hfound hc;obtain⟨z1,z2,z3⟩:=hun1 q4;have hkl:k<(Zy s sd).units.length:=(YLG q2).1;have e:(Zy (tireS (ids.take i) s) sd).units[k]?=some (tireU (ids.take i) u):=by rw[XE,List.getElem?_map,q2]; rfl
  refine Ya rfl (Ya (z2 _) (Ya rfl (Ya (ld ybox z3) ?_)));refine Ya (v:=.ptr (3+ubk sd) k 0) (rd:=[3+ubk sd]) ?_ (Ya rfl ?_)
  ·have:=QbD τ (3+ubk sd) 0 (Zy (tireS (ids.take i) s) sd).units.length false 4 _ .i64 k (by rw[XE]; simpa using hkl) z1;rw[Nat.zero_add] at this; exact this
  refine Zf (Xbs z1 e) (Xp _ (Zo z1 (by simp))) ?_;have hub:ubk sd=4∨ubk sd=9:=by rcases q4 with rfl|rfl; exact .inl rfl; exact .inr rfl
  have hG2:=hG.set (c:=3+ubk sd) (by omega) (.rows 4 (((Zy (tireS (ids.take i) s) sd).units.set k { tireU (ids.take i) u with tired:=true }).map thC));have hcp2:=hcp.tire q4 q2 hM.un.2;refine Ya (v:=.agg (evN ⟨11,sd,0,u.id,0,0,[]⟩)) (rd:=[]) rfl ?_;refine hG2.put (by_:=72) (cs:=evN ⟨11,sd,0,u.id,0,0,[]⟩) rfl rfl rfl (by rw[show (2:Nat) ^ 48=281474976710656 from rfl]; omega) (λv' τ' hG3=>?_);refine Ya (Yk ..) ?_;rw[Qf (n:=i) (by omega)];rw[←htk] at hcp2;have e7:(YK s (ids.take i)).map evN++[evN ⟨11,sd,0,u.id,0,0,[]⟩]=(YK s (ids.take (i+1))).map evN:=by
   rw[htk,YK,YK,List.map_append,List.map_append,hsd]; rfl
  rw[e7] at hG3;exact hag (i+1) _ _ (by omega) ⟨_,v',rfl,by omega,by rw[List.length_set]; exact hlen,Qo x2 (by simp) (by omega),hcp2,hG3,by rw[htk,List.all_append,hall]; simp[hq]⟩
 have h:i=ids.length:=by simp at h; omega
 subst h;rw[List.take_length] at hcp hG hall;rw[hok,hall,if_pos rfl];clear hag again hi;refine Yaf (c96 ids hl) rfl g96_ok.plain rfl ?_;have e1:(AVal.sl 0 0 ids.length false).ren (Qx τ.length)=.sl τ.length 0 ids.length false:=by simp[AVal.ren,Qx]
 have e2:Xt τ.length [ABlk.rows 1 (ids.map cel)]=[.rows 1 (ids.map cel)]:=by simp only[Xt,List.map_cons,List.map_nil,YN]
 rw[e1,e2];have hG1:=hG.more [.rows 1 (ids.map cel)];have hnew:=Zm τ (.rows 1 (ids.map cel));have hl15:15≤τ.length:=by have:=hG.1; omega
 generalize τ.length=c at hnew hl15;generalize τ++[ABlk.rows 1 (ids.map cel)]=τ1 at hG1 hnew;have ybox1:=hG1.old hcp.box (by simp);have b14:=Zo ybox1 (by simp);have ykey:∀j x,(stB (tireS ids s))[j]?=some x→hget τ1 (3+j)=x:=λj x hx=>by
  have hj:j<11:=(YLG hx).1;rw[hG1.2.1 (3+j) (by omega)]; exact hcp.key j x hx
 refine Ya rfl (Zf (stv (row':=atkC (tireS ids s) s ids 3 c) ybox1 rfl rfl rfl) (Xp _ b14) ?_);refine Ya rfl (Zf (stv (row':=atkC { tireS ids s with struck:=true } s ids 3 c) (Qn _ b14) rfl rfl rfl) (Xp _ (by simpa using b14)) ?_);refine Ya rfl (Zf (stv (row':=atkC (XF s ids) s ids 3 c) (Qn _ (by simpa using b14)) rfl rfl rfl) (Xp _ (by simpa using b14)) ?_);exact QaY hG1 hlen x2 (λj x _ hx=>hcp.key j x hx) hnew hl15 b14
theorem Zcm{s:St}(hs:StLe 1000000000 s){σ:List ABlk}{n:Nat}(hn:σ.length=n){K:AVal→AVal→List ABlk→Prop}(hK:∀τ,τ.length=n+12→(∀c y,hget σ c=.box y→hget τ c=.box y)→CP τ n s→K (.bptr (n+11) 0) .junk τ) :
  VV.call (.call 19) [stV s] σ λv σ=>VV.wr (Ye zStC [] σ) σ λt σ=>VV.wr (Qb 23 [t,v] σ) σ (K t):=
 Zcz hs λτ m h1 h2 h3 h4 h5=>by
  have e:m=n:=h1.symm.trans hn;subst e;exact hK τ h2 h3 ⟨h4,h5⟩
theorem Gr.op{σ0 σ:List ABlk}{n by_ k:Nat}{rows:List (List AVal)}{v:AVal}{cs:List AVal}(hg:Gr σ0 n rows k v σ)(hr:cs.all AVal.cell=true)(hroom:(2*(k+1)+192)*by_≤2 ^ 48) :
  ∃v' rd up σ',Zi n by_ [v,.sl σ.length 0 1 true] (σ++[.rows n [cs]])=.ok v' rd up∧upL (σ++[.rows n [cs]]) up=some σ'∧Gr σ0 n (rows++[cs]) (k+1) v' σ':=by
 obtain⟨g1,g2,hg⟩:=hg;have hnew:=Zm σ (.rows n [cs]);rcases hg with ⟨rfl,rfl,rfl⟩|⟨hk,b,hb0,rfl,hb,hl⟩
 ·have e:=XbU n by_ (ex2:=true) hnew rfl (YW hr) (by simpa using hroom);refine⟨_,_,_,_,e,YM _ _,by simp; omega,λc hc=>?_,.inr ⟨by omega,_,?_,rfl,by have:=Zm (σ++[ABlk.rows n [cs]]) (.rows n [cs]); simpa using this,rfl⟩⟩
  ·rw[YD _ (by simp; omega),YD _ (by omega),g2 c hc]
  ·simp; omega
 ·have e:=QbU n by_ (ex:=false) (ex2:=true) (Zn [.rows n [cs]] hb (by simp)) hnew hl rfl (YW hr) hroom;have hlt:=Zo hb (by simp);refine⟨_,_,_,_,e,XaX _ _ (by simp; omega),by simp; omega,λc hc=>?_,.inr ⟨by omega,_,?_,rfl,?_,by simp[hl]⟩⟩
  ·rw[YD _ (by simp; omega),Xk _ (by simp; omega) (by omega),YD _ (by omega),g2 c hc]
  ·simp; omega
  ·have:=Zm ((σ++[ABlk.rows n [cs]]).set b .dead) (.rows n (rows++[cs]));simpa using this
theorem Qce{l:List Int}{i:Nat}:cut 0 i (l.map cel)=(l.take i).map cel:=by
 unfold cut; rw[List.drop_zero,List.map_take]
theorem c46(b:Bk)(hf:bkFit b=true)(s:St)(hs:StLe 1000000000 s)(ids:List Int)(hl:ids.length≤1000000000):PC 46 [bkV b,stV s,rowV ids] (Za2 (beginR b s ids)):=by
 have h67:=c67 b hf;refine Xaq hP g46_ok rfl ?_;unfold g46;refine Zf (v:=.bptr 0 0) (rd:=[]) (up:=[(0,.box (bkC b))]) rfl rfl ?_;refine Zf (v:=.bptr 1 0) (rd:=[]) (up:=[(1,.box (stC s))]) rfl rfl ?_;refine Zf (v:=.bptr 2 0) (rd:=[]) (up:=[(2,.box zStC)]) rfl rfl ?_;refine Ya rfl (Ya rfl (Yd (c16 b s hs _ _ h67) rfl g16_ok.plain rfl (Ya (Yaa ..) ?_)));rcases YBE (mayR (bkR b).1 b s false) with hm|hm
 rotate_left
 ·rw[beginR,if_neg (by rw[hm]; simp),hm];exact Ze (Ya rfl (Zf rfl rfl (Ys rfl (YO 170))))
 rw[beginR,if_pos hm,hm];have hM:=(YbZ.1 (Zbx hm)).2;refine Qi (Ya rfl (Ya rfl (Ya (Yaa ..) ?_)));refine Zcs (v1:=.bptr 1 3) (d:=s.struck) (λ_=>rfl) (λ_=>rfl) ?_;refine Zaj (v2:=iv ids.length) (q2:=[]) (λ_=>rfl) (λ_=>by simp[Zh]) (λ_=>Xf ..) (Yc (λh=>?_) (λh=>?_))
 ·rw[if_neg]
  ·exact Ya rfl (Zf rfl rfl (Ys rfl (YO 2)))
  ·intro hb;simp only[YZ,Bool.and_eq_true,Bool.not_eq_true'] at hb;rw[hb.1.1.1,hb.1.1.2] at h;simp at h
 rw[Bool.or_eq_false_iff] at h;obtain⟨q1,q2⟩:=h;have hph:s.phase=0:=by
  rw[Bool.or_eq_false_iff] at q1;simpa using q1.1
 have hat:s.attack=[]:=hM.at_.1 (by omega);have hok:YZ s ids=(decide ids.Nodup&&ids.all λid=>okU s s.mover id):=by rw[YZ,q1,q2]; rfl
 have hne:ids≠[]:=by rintro rfl; simp at q2
 clear q1 q2;have x1:hget ([]++[ABlk.box (bkC b)]++[ABlk.box (stC s)]++[ABlk.box zStC]) 1=.box (stC s):=rfl;have x2:hget ([]++[ABlk.box (bkC b)]++[ABlk.box (stC s)]++[ABlk.box zStC]) 2=.box zStC:=rfl;have x3:([]++[ABlk.box (bkC b)]++[ABlk.box (stC s)]++[ABlk.box zStC]:List ABlk).length=3:=rfl;generalize ([]++[ABlk.box (bkC b)]++[ABlk.box (stC s)]++[ABlk.box zStC]:List ABlk)=base at x1 x2 x3 ⊢;have hlen:∀σ,Xe [rowV ids] σ=.ok (iv ids.length) [] []:=λσ=>by rw[Zh,List.length_map]
 have hbad:YZ s ids=false→VV.rd (Yf [(.int .i64 0),(.int .i64 0),(.int .i8 0),(.bool false),(.int .i8 0),.nils,(.int .i64 0),(.int .i64 0),(.int .i64 0),(.int .i64 0),.nils,.nils,.nils,.nils,.nils,(.int .i64 0),(.int .i64 0),(.int .i64 0),.nils,.nils,.nils,.nils,.nils] [] [] base) λt57_47=>VV.wr (Qb 23 [.bptr 2 0,t57_47] base) base λ_ σ=>VV.opt (cellV true 23 (.bptr 2 0) σ) λr48=>(λv' σ=>∃rd,Bor (Go.Ah.hp σ) rd v' (Za2 (if YZ s ids=true then (XF s ids,YK s ids,0) else (zSt,[],2)))) (.tup [r48,.nils,(.int .i64 2)]) σ:=λhb=>by
  rw[if_neg (by rw[hb]; simp)];exact Ya rfl (Zf (stv (row':=zStC) x2 rfl rfl rfl) (Xp _ (Zo x2 (by simp))) (Ys (ZaA (Qn _ (Zo x2 (by simp))) rfl) (YO 2)))
 refine Yj (ι:=Nat) (λi vs σ=>vs=[iv i]∧σ=base∧i≤ids.length∧(ids.take i).Nodup∧(ids.take i).all (λid=>okU s s.mover id)=true) (λi=>ids.length-i) 0 ⟨rfl,rfl,by omega,by simp,rfl⟩ ?_;rintro i vs σ again ⟨rfl,rfl,hi,hnd,hall⟩ hag;refine Ya (hlen _) (Ya (XA ..) (Yc (λh=>?_) (λh=>?_)))
 ·have h:i<ids.length:=by simpa using h
  have hix:=λ(t:List ABlk)=>Yo t cel false false 1 ids .i64 i h;have htk:ids.take (i+1)=ids.take i++[ids[i]]:=by rw[List.take_succ_eq_append_getElem h]
  have hmem:ids[i]∈ids:=List.getElem_mem h;have hnin:ids.Nodup→ids[i]∉ids.take i:=λhn hc=>by
   obtain⟨j,hj,e⟩:=List.getElem_of_mem hc;simp at hj e;exact(List.pairwise_iff_getElem.1 (List.nodup_iff_pairwise_ne.1 hn) j i (by omega) h (by omega)) e
  generalize ids[i]=id at hix htk hmem hnin;refine Xi (ld x1 (v:=stV s) rfl) (Xj _) (Xi (hix _) (Xj _) (Xi (v:=iv id) (ldr rfl) (Xj _) ?_));refine Qj (c97 s hs id) rfl g97_ok.plain rfl (Yi rfl ?_);rcases YBE (okU s s.mover id) with ho|ho
  rotate_left
  ·rw[ho];repeat first|refine Yb rfl ?_|refine Xc rfl ?_|refine Ycm rfl ?_
   refine Yi rfl (QN (QD (by simp[allRd])) (Ze (hbad ?_)));rw[hok,Bool.and_eq_false_iff];refine .inr ?_;cases e:ids.all λid=>okU s s.mover id with
   |false=>rfl
   |true=>have:=List.all_eq_true.1 e id hmem; rw[ho] at this; cases this
  rw[ho];have hsl:QP 1 [rowV ids,iv i] σ=.ok (rowV (ids.take i)) [] []:=by
   show (bif Nat.beq 1 1&&Nat.ble i (ids.map cel).length then SRes.ok (.rsl false false 1 (cut 0 i (ids.map cel))) [] [] else .stop)=_;rw[show Nat.ble i (ids.map cel).length=true from Nat.ble_eq_true_of_le (by simp; omega),Qce]; rfl
  refine Xa (Yi rfl (Xa (Yi rfl (Xay (Xi hsl (Xj _) ?_)))));refine Xa (Yi rfl (Xa (Yi rfl (Xay (Xi (hix _) (Xj _) (Xay (Xi (v:=iv id) (ldr rfl) (Xj _) (Xay ?_))))))));refine Qj (c98 (ids.take i) (by simp; omega) id) rfl g98_ok.plain rfl (Yi rfl (QN (QD (by simp[allRd])) (Yc (λhc=>?_) (λhc=>?_))))
  ·refine hbad ?_;rw[hok,Bool.and_eq_false_iff];refine .inl (decide_eq_false λhn=>hnin hn ?_);simpa using hc
  ·refine Ya (Yk ..) ?_;rw[Qf (n:=i) (by omega)];refine hag (i+1) _ _ (by omega) ⟨rfl,rfl,by omega,?_,by rw[htk,List.all_append,hall]; simp[ho]⟩;rw[htk,List.nodup_append];refine⟨hnd,by simp,λa ha c hcc e=>?_⟩;simp at hcc;have:id∈ids.take i:=by rw[←hcc,←e]; exact ha
   simp[this] at hc
 have h:i=ids.length:=by simp at h; omega
 subst h;rw[List.take_length] at hnd hall;rw[hok,decide_eq_true hnd,hall,if_pos (by rfl)];clear hag again hi hbad hok;refine Ya (v:=stV s) (ld x1 rfl) (Zcm hs x3 (λτ hlen2 hbx hcp=>?_));have y2:=hbx 2 _ x2;rw[←Zba s] at hcp;clear hbx x1 x2 x3;refine Yj (ι:=Nat) (λi vs τ=>∃(σ1:List ABlk) (v:AVal),vs=[iv i,v]∧i≤ids.length∧σ1.length=15∧hget σ1 2=.box zStC∧CP σ1 3 (tireS (ids.take i) s)∧Gr σ1 7 ((YK s (ids.take i)).map evN) i v τ) (λi=>ids.length-i) 0 ⟨τ,_,rfl,by omega,hlen2,y2,hcp,Gr.nil 7 τ⟩ ?_;clear y2 hcp hlen2;rintro i vs τ again ⟨σ1,v,rfl,hi,hlen1,x2,hcp,hG⟩ hag;have y2:=hG.old x2 (by simp);have ybox:=hG.old hcp.box (by simp);refine Ya (hlen _) (Ya (XA ..) (Yc (λh=>?_) (λh=>?_)))
 ·have h:i<ids.length:=by simpa using h
  have hix:=λ(t:List ABlk)=>Yo t cel false false 1 ids .i64 i h;have htk:ids.take (i+1)=ids.take i++[ids[i]]:=by rw[List.take_succ_eq_append_getElem h]
  have hq:okU s s.mover ids[i]=true:=List.all_eq_true.1 hall _ (List.getElem_mem h);generalize ids[i]=id at hix htk hq;have ykey:∀j x,(stB (tireS (ids.take i) s))[j]?=some x→hget τ (3+j)=x:=λj x hx=>by
   have hj:j<11:=(YLG hx).1;rw[hG.2.1 (3+j) (by omega)]; exact hcp.key j x hx
  have ycp:CP τ 3 (tireS (ids.take i) s):=⟨ybox,ykey⟩;obtain⟨rd,hsb⟩:=ycp.sb;have hle:StLe 1000000000 (tireS (ids.take i) s):=⟨hs.1,⟨hs.2.1,hs.2.2,hs.2.3,by simpa[tireS] using hs.2.4,hs.2.5⟩,⟨hs.3.1,hs.3.2,hs.3.3,by simpa[tireS] using hs.3.4,hs.3.5⟩⟩;have hun:unitR (tireS (ids.take i) s) id=unitR s id:=Qam _ _ _;rw[Zby] at hq;simp only[Bool.and_eq_true,decide_eq_true_eq] at hq;obtain⟨hf1,hf2,_⟩:=hq;obtain⟨k,u,e1,e2,rfl,e4⟩:=Ybp hf1;have hun1:=ycp.units (side:=(unitR s u.id).1) e4;have hcp2:=hcp.tire e4 e2 hM.un.2;refine Xi (ld ybox (v:=.agg (stO (tireS (ids.take i) s) 3)) rfl) (Xj _) (Xi (hix _) (Xj _) (Xi (v:=iv u.id) (ldr rfl) (Xj _) ?_));refine ZbM (rd:=rd) (c23 _ hle u.id) rfl g23_ok.plain (.cons hsb.agg <| .cons (Bor.ro rfl) .nil) rfl (Yi rfl (Yi rfl (Yi rfl (QN (QD (by simp[allRd])) ?_))));rw[hun,e1];generalize hsd:(unitR s u.id).1=sd at hf2 e2 e4 hun1 hcp2 ⊢;obtain⟨z1,z2,z3⟩:=hun1;have hkl:k<(Zy s sd).units.length:=(YLG e2).1;have e:(Zy (tireS (ids.take i) s) sd).units[k]?=some (tireU (ids.take i) u):=by rw[XE,List.getElem?_map,e2]; rfl
  refine Ya rfl (Ya (z2 _) (Ya rfl (Ya (ld ybox z3) ?_)));refine Ya (v:=.ptr (3+ubk sd) k 0) (rd:=[3+ubk sd]) ?_ (Ya rfl ?_)
  ·have:=QbD τ (3+ubk sd) 0 (Zy (tireS (ids.take i) s) sd).units.length false 4 _ .i64 k (by rw[XE]; simpa using hkl) z1;rw[Nat.zero_add] at this; exact this
  refine Zf (Xbs z1 e) (Xp _ (Zo z1 (by simp))) ?_;have hub:ubk sd=4∨ubk sd=9:=by rcases e4 with rfl|rfl; exact .inl rfl; exact .inr rfl
  have hG2:=hG.set (c:=3+ubk sd) (by omega) (.rows 4 (((Zy (tireS (ids.take i) s) sd).units.set k { tireU (ids.take i) u with tired:=true }).map thC));have ybox2:=hG2.old hcp2.box (by simp);refine Yi rfl (Xi (ld (v:=iv s.mover) ybox2 rfl) (Xj _) (Xi (hix _) (Xj _) (Xi (v:=iv u.id) (ldr rfl) (Xj _) (Yi (v:=.agg (evN ⟨11,s.mover,0,u.id,0,0,[]⟩)) rfl ?_))));obtain⟨v',rd',up',τ',o1,o2,hG3⟩:=hG2.op (by_:=72) (cs:=evN ⟨11,s.mover,0,u.id,0,0,[]⟩) rfl (by rw[show (2:Nat) ^ 48=281474976710656 from rfl]; omega);refine Xi (e_bld 7 _ _ _ (evN ⟨11,s.mover,0,u.id,0,0,[]⟩) rfl rfl) (YM _ _) (Xi o1 o2 (QN (by rfl) ?_));refine Ya (Yk ..) ?_;rw[Qf (n:=i) (by omega)];rw[←htk] at hcp2;have e7:(YK s (ids.take i)).map evN++[evN ⟨11,s.mover,0,u.id,0,0,[]⟩]=(YK s (ids.take (i+1))).map evN:=by
   rw[htk,YK,YK,List.map_append,List.map_append]; rfl
  rw[e7] at hG3;exact hag (i+1) _ _ (by omega) ⟨_,v',rfl,by omega,by rw[List.length_set]; exact hlen1,Qo x2 (by simp) (by omega),hcp2,hG3⟩
 have h:i=ids.length:=by simp at h; omega
 subst h;rw[List.take_length] at hcp hG;clear hag again hi;have h3:hget σ1 3=.rows 1 (([]:List Int).map cel):=by have:=hcp.key 0 _ rfl; rw[show (tireS ids s).attack=[] from hat] at this; exact this
 have hattl:(tireS ids s).attack.length=0:=by rw[show (tireS ids s).attack=[] from hat]; rfl
 refine Ya rfl (Ya (v:=.sl 3 0 (tireS ids s).attack.length false) (ld ybox rfl) ?_);rw[hattl];have z3:=hG.old h3 (by simp);have hb3:=Zo z3 (by simp);refine Zf (YcF 1 8 (ex:=false) (rs:=[]) (rows:=ids.map cel) z3 rfl (YaE (by simp[cel,AVal.cell])) (by rw[show (2:Nat) ^ 48=281474976710656 from rfl,List.length_map]; omega)) (XaX _ _ hb3) ?_;rw[List.nil_append,Nat.zero_add,List.length_map];have hGd:=(hG.set (c:=3) (by omega) .dead).more [.rows 1 (ids.map cel)];have hnew:hget (τ.set 3 .dead++[.rows 1 (ids.map cel)]) τ.length=.rows 1 (ids.map cel):=by
  have:=Zm (τ.set 3 .dead) (.rows 1 (ids.map cel)); simpa using this
 have hl15:15≤τ.length:=by have:=hG.1; omega
 have hbox1:hget (σ1.set 3 .dead) (3+11)=.box (stO (tireS ids s) 3):=by rw[Xk _ (by omega) (by omega)]; exact hcp.box
 have hx21:hget (σ1.set 3 .dead) 2=.box zStC:=by rw[Xk _ (by omega) (by omega)]; exact x2
 have hkey1:∀j x,1≤j→(stB (tireS ids s))[j]?=some x→hget (σ1.set 3 .dead) (3+j)=x:=λj x hj1 hx=>by
  have hj:j<11:=(YLG hx).1;rw[Xk _ (by omega) (by omega)]; exact hcp.key j x hx
 have hl2:(σ1.set 3 .dead).length=15:=by simpa using hlen1
 generalize τ.length=c at hnew hl15;generalize τ.set 3 .dead++[ABlk.rows 1 (ids.map cel)]=τ1 at hGd hnew;generalize σ1.set 3 .dead=σ2 at hGd hbox1 hx21 hkey1 hl2;have ybox1:=hGd.old hbox1 (by simp);have b14:=Zo ybox1 (by simp);refine Ya rfl (Zf (stv (row':=atkC (tireS ids s) s ids 3 c) ybox1 rfl rfl rfl) (Xp _ b14) ?_);refine Ya rfl (Zf (stv (row':=atkC { tireS ids s with struck:=true } s ids 3 c) (Qn _ b14) rfl rfl rfl) (Xp _ (by simpa using b14)) ?_);refine Ya rfl (Zf (stv (row':=atkC (XF s ids) s ids 3 c) (Qn _ (by simpa using b14)) rfl rfl rfl) (Xp _ (by simpa using b14)) ?_);exact QaY hGd hl2 hx21 hkey1 hnew hl15 b14
theorem c47n(l:List Ev)(hl:l.length≤1000000000):PC 47 [.rsl false false 7 (l.map evN),.rsl false false 7 (l.map evN)] (.bool true):=by
 refine c47 (by simpa using hl) (λr hr=>?_);obtain⟨e,_,rfl⟩:=List.mem_map.1 hr;refine⟨rfl,rfl,?_⟩;have:=c99 e e (x:=.nils) (y:=.nils) rfl rfl rfl rfl (q:=true) (λσ k hk=>Xat (rd:=[]) (c62 [] [] (by simp)) rfl g62_ok.plain (.cons (Bor.weak (Bor.ro rfl) (λM u d=>d.nils_rsl 1)) <| .cons (Bor.weak (Bor.ro rfl) (λM u d=>d.nils_rsl 1)) .nil) rfl hk);rw[QbH] at this;exact this
theorem QbN{b:Bk}{s:St}{ids:List Int}(hs:StLe 1000000000 s)(hl:ids.length≤1000000000):StLe 1000000000 (beginR b s ids).1∧(beginR b s ids).2.1.length≤1000000000:=by
 unfold beginR;split
 ·split
  ·exact⟨⟨hl,⟨hs.2.1,hs.2.2,hs.2.3,by simpa[XF,tireS] using hs.2.4,hs.2.5⟩,⟨hs.3.1,hs.3.2,hs.3.3,by simpa[XF,tireS] using hs.3.4,hs.3.5⟩⟩,by simpa[YK] using hl⟩
  ·exact⟨⟨by simp[zSt],⟨by simp[zSt,zSd],by simp[zSt,zSd],by simp[zSt,zSd],by simp[zSt,zSd],by simp[zSt,zSd]⟩,⟨by simp[zSt,zSd],by simp[zSt,zSd],by simp[zSt,zSd],by simp[zSt,zSd],by simp[zSt,zSd]⟩⟩,by simp⟩
 ·exact⟨⟨by simp[zSt],⟨by simp[zSt,zSd],by simp[zSt,zSd],by simp[zSt,zSd],by simp[zSt,zSd],by simp[zSt,zSd]⟩,⟨by simp[zSt,zSd],by simp[zSt,zSd],by simp[zSt,zSd],by simp[zSt,zSd],by simp[zSt,zSd]⟩⟩,by simp⟩
theorem c10(h89:SortC prog 89)(hn:SortN prog 89)(h44:PC 44 [] (.bool true))(b:Bk)(hf:bkFit b=true)(hsm:QM b.cards)(s:St)(hs2:StLe 2000000 s)(ids:List Int)(hl:ids.length≤1000000000):PC 10 [bkV b,stV s,rowV ids] (.bool true):=by
 have hs:StLe 1000000000 s:=hs2.mono (by decide);obtain⟨q,h43⟩:=c43 b hf s (x:=rowV ids) (y:=.nils) (n:=ids.length) (m:=0) (λσ=>by rw[Zh,List.length_map]) (λσ=>rfl);have h45:=c45 h89 hn b hf hsm s hs ids hl;have h46:=c46 b hf s hs ids hl;have hle:=QbN (b:=b) hs hl;generalize beginR b s ids=r at h45 h46 hle;refine Qd hP g10_ok rfl rfl ?_;unfold g10;refine Zf (v:=.bptr 0 0) (rd:=[]) (up:=[(0,.box (bkC b))]) rfl rfl ?_;refine Zf (v:=.bptr 1 0) (rd:=[]) (up:=[(1,.box (stC s))]) rfl rfl ?_;refine Ya rfl (Ya rfl (Yd h43 rfl g43_ok.plain rfl ?_));refine Yc (λ_=>Yd h44 rfl g44_ok.plain rfl rfl) (λ_=>?_);refine Ya rfl (Ya rfl (Yd h45 rfl g45_ok.plain rfl (Ya rfl (Ya rfl (Ya rfl ?_)))));refine Xx (row:=stC r.1) (row':=stC r.1) rfl rfl rfl ?_;refine Ya rfl (Ya rfl (Yd h46 rfl g46_ok.plain rfl (Ya rfl (Ya rfl (Ya rfl ?_)))));refine Xx (row:=stC r.1) (row':=stC r.1) rfl rfl rfl (Ya (Xf ..) ?_);rw[decide_eq_true rfl];refine Xa (Ya (v:=stV r.1) (rd:=[2]) rfl (Xa (Ya (v:=stV r.1) (rd:=[3]) rfl (Zb (Yd (c20s r.1 hle.1) rfl g20_ok.plain rfl (Ya rfl ?_))))));refine Xa (Ya rfl (Xa (Ya rfl (Zb (Yd (c47n r.2.1 hle.2) rfl g47_ok.plain ?_ (Ya rfl ?_))))))
 ·rfl
 ·exact Zb (Yd h44 rfl g44_ok.plain rfl (Ya rfl rfl))
end Go.Ah.Tz
end
section
namespace Go.Ah.Tz
open Go.Shelf Go.Proofs
open Go.Proofs.Tryz (prog)
theorem sortn89:SortN prog 89:=λp cap w=>Any.slices_Sort_int_none lays89 p cap w
end Go.Ah.Tz
end
section
namespace Go.Ah
theorem Yb2:∀ {l:List AVal} {i:Nat} {x:AVal},roL l=true→l[i]?=some x→x.ro=true
 |[],i,x,_,e=>by simp at e
 |y::l,0,x,h,e=>by simp only[roL,Bool.and_eq_true] at h; simp at e; subst e; exact h.1
 |y::l,i+1,x,h,e=>by simp only[roL,Bool.and_eq_true] at h; exact Yb2 h.2 (by simpa using e)
section
variable {P:Program} {GL:Globs}
theorem Rep.eat{w0:World}{L:Ln}{g:Gm}{h:Hp}{w:World}(r:Rep GL w0 L g h w){b sz len:Nat}{ex:Bool}{rs:List (List AVal)}(hb:h b=some (.rows sz rs))(hl:rs.length=len)(hro:∀q∈rs,roL q=true){u:Value}(d:g.den (.sl b 0 len ex) u) :
  ∃M,MLe g.M M∧Rep GL w0 L ⟨M,g.c⟩ (hup h b .dead) w∧Den M noOwn (.rsl false false sz rs) u:=by
 cases d with
 |slv _ _ _ cb p ec hv=>
  have:rs=[]:=List.length_eq_zero_iff.1 hl;subst this;exact⟨g.M,MLe.refl _,r.kill hb,.rsl _ _ _ _ [] _ _ 0 0 (λ_ _=>undef) (by simp) (by simp) (by simp) (by simp) (by simp) (by simp) (by simp) (by simp)⟩
 |sl _ _ _ _ _ cb cap ec hv h1 h2 h3=>
  subst hl;obtain⟨e1,arr,T,ho',hs,hle2,hrow,hden⟩:=r.rowsBlk hb ec hv;obtain⟨hle,r2⟩:=r.freeze hb rfl ec hv ho';refine⟨_,hle.m,r2,?_⟩;rw[Nat.zero_mul];have hin:∀i j,i<rs.length→j<sz→i*sz+j<arr.size:=by
   intro i j hi hj;have:(i+1)*sz≤rs.length*sz:=Nat.mul_le_mul_right sz (by omega);rw[Nat.succ_mul] at this; omega
  refine .rsl _ false false sz rs (some ⟨cb.blk,0,none⟩) cap cb.blk 0 (λi j=>(arr[i*sz+j]?).getD undef) (by simp) (by simp) (λ_=>rfl) (by simp) h1 hrow (λi j hi hj=>?_) (λi row j x q1 q2=>?_)
  ·have:=hin i j hi hj;simp[mcell,mup,this]
  ·have hi:i<rs.length:=(YLG q1).1;have hj:j<sz:=by rw[←hrow i row q1]; exact(YLG q2).1
   have:=hin i j hi hj;have e:arr[i*sz+j]?=some arr[i*sz+j]:=by simp[this]
   rw[e];exact Den.ro (Den.mono hle.m (hden i row j x _ q1 q2 e) (CLe.refl _)) (Yb2 (hro row (List.mem_of_getElem? q1)) q2) _
theorem DenL.snoc{g:Gm}{x:AVal}:∀ {xs:List AVal} {vs:List Value},DenL g (xs++[x]) vs→∃us u,vs=us++[u]∧DenL g xs us∧g.den x u
 |[],[u],h=>⟨[],u,rfl,trivial,h.1⟩
 |y::xs,v::vs,h=>by
  obtain⟨us,u,rfl,h1,h2⟩:=DenL.snoc h.2;exact⟨v::us,u,rfl,⟨h.1,h1⟩,h2⟩
theorem DenL.snoc_mk{g:Gm}{x:AVal}{u:Value}(hu:g.den x u):∀ {xs:List AVal} {us:List Value},DenL g xs us→DenL g (xs++[x]) (us++[u])
 |[],[],_=>⟨hu,trivial⟩
 |y::xs,v::vs,h=>⟨h.1,DenL.snoc_mk hu h.2⟩
theorem PCall.eat{f:FuncId}{pre:List AVal}{b sz len:Nat}{ex:Bool}{rs:List (List AVal)}{v:AVal}{h0:Hp}(hc:PCall P GL f (pre++[.rsl false false sz rs]) v)(hpre:roL pre=true)(hb:h0 b=some (.rows sz rs))(hl:rs.length=len)(hro:∀q∈rs,roL q=true) :
  ACall P GL f (pre++[.sl b 0 len ex]) h0 v [] [(b,.dead)]:=by
 intro w0 L g h w vs r hx _ hup;have hb':h b=some (.rows sz rs):=by rw[hup (b,_) (List.mem_singleton.2 rfl)]; exact hb
 obtain⟨us,u,rfl,h1,h2⟩:=DenL.snoc hx;obtain⟨M,hM,r2,hd⟩:=r.eat hb' hl hro h2;refine(hc w M _ r2.stable r2.globs (DenL.snoc_mk (g:=⟨M,noOwn⟩) hd (Zay hpre (h1.mono (g':=⟨M,g.c⟩) ⟨hM,CLe.refl _⟩) noOwn))).mono ?_;rintro e w' ⟨y,he,k,M',hle,hst,hsrc,hdv⟩;exact⟨y,he,⟨M',g.c⟩,⟨hM.trans hle,CLe.refl _⟩,r2.after k hle hst hsrc,hdv.mono (MLe.refl _) (CLe.noOwn _)⟩
theorem XaJ{k:MK}{xs pre:List AVal}{f:FuncId}{v:AVal}{σ:List ABlk}{b sz len:Nat}{ex:Bool}{rs:List (List AVal)}(h:PCall P GL f (pre++[.rsl false false sz rs]) v)(hc:Qs k xs=some (f,pre++[.sl b 0 len ex]))(hp':Ql P f=true)(hpre:roL pre=true)(hb:hget σ b=.rows sz rs)(hl:rs.length=len)(hro:∀q∈rs,roL q=true)
 {K:AVal→List ABlk→Prop}(hK:K v (σ.set b .dead)):(W P GL).call k xs σ K:=
 YT hc hp' (h.eat hpre (YV hb (by simp)) hl hro) (Xp _ (Zo hb (by simp))) hK
theorem Qbb{k:MK}{xs pre:List AVal}{f:FuncId}{v:AVal}{σ:List ABlk}{b sz len:Nat}{ex:Bool}{rs:List (List AVal)}(h:PCall P GL f (pre++[.rsl false false sz rs]) v)(hc:Qs k xs=some (f,pre++[.sl b 0 len ex]))(hp':Ql P f=true)(hpre:roL pre=true)(hb:hget σ b=.rows sz rs)(hl:rs.length=len)(hro:∀q∈rs,roL q=true)
 {K:AVal→List Nat×List Nat→List ABlk→Prop}(hK:K v ([],[b]) (σ.set b .dead)):(W P GL).dcall k xs σ K:=
 Xaf hc hp' (h.eat hpre (YV hb (by simp)) hl hro) (Xp _ (Zo hb (by simp))) hK
end
end Go.Ah
end
section
namespace Go.Ah.Tz
open Go.Proofs.Tryz (prog)
set_option maxRecDepth 100000
def tb44:GT:=(.node 171 4 g171 (.node 105 4 g105 (.node 66 4 g66 (.node 55 2 g55 (.node 48 3 g48 (.node 44 0 g44 (.node 22 5 g22 .leaf .leaf) (.node 45 3 g45 .leaf .leaf)) (.node 54 3 g54 (.node 50 3 g50 .leaf .leaf) .leaf)) (.node 59 1 g59 (.node 57 1 g57 (.node 56 2 g56 .leaf .leaf) .leaf) (.node 65 1 g65 (.node 64 7 g64 .leaf .leaf) .leaf))) (.node 96 1 g96 (.node 93 0 g93 (.node 75 3 g75 (.node 71 2 g71 .leaf .leaf) (.node 89 1 g89 .leaf .leaf)) (.node 95 1 g95 (.node 94 0 g94 .leaf .leaf) .leaf)) (.node 102 6 g102 (.node 101 7 g101 (.node 100 2 g100 .leaf .leaf) .leaf) (.node 104 2 g104 (.node 103 2 g103 .leaf .leaf) .leaf)))) (.node 143 1 g143 (.node 128 4 g128 (.node 119 2 g119 (.node 112 1 g112 (.node 111 3 g111 .leaf .leaf) (.node 118 2 g118 .leaf .leaf)) (.node 124 1 g124 (.node 120 2 g120 .leaf .leaf) .leaf)) (.node 137 1 g137 (.node 136 0 g136 (.node 129 1 g129 .leaf .leaf) .leaf) (.node 139 2 g139 (.node 138 2 g138 .leaf .leaf) .leaf))) (.node 165 3 g165 (.node 157 3 g157 (.node 155 2 g155 (.node 144 4 g144 .leaf .leaf) (.node 156 2 g156 .leaf .leaf)) (.node 164 3 g164 (.node 163 3 g163 .leaf .leaf) .leaf)) (.node 168 3 g168 (.node 167 3 g167 (.node 166 3 g166 .leaf .leaf) .leaf) (.node 170 4 g170 (.node 169 2 g169 .leaf .leaf) .leaf))))) (.node 223 1 g223 (.node 209 1 g209 (.node 182 1 g182 (.node 179 1 g179 (.node 173 1 g173 (.node 172 1 g172 .leaf .leaf) (.node 176 2 g176 .leaf .leaf)) (.node 181 1 g181 (.node 180 1 g180 .leaf .leaf) .leaf)) (.node 185 2 g185 (.node 184 1 g184 (.node 183 1 g183 .leaf .leaf) .leaf) (.node 208 2 g208 (.node 186 2 g186 .leaf .leaf) .leaf))) (.node 217 1 g217 (.node 213 2 g213 (.node 211 2 g211 (.node 210 1 g210 .leaf .leaf) (.node 212 1 g212 .leaf .leaf)) (.node 216 1 g216 (.node 215 4 g215 .leaf .leaf) .leaf)) (.node 220 1 g220 (.node 219 5 g219 (.node 218 3 g218 .leaf .leaf) .leaf) (.node 222 2 g222 (.node 221 2 g221 .leaf .leaf) .leaf)))) (.node 250 2 g250 (.node 239 2 g239 (.node 236 2 g236 (.node 234 4 g234 (.node 224 2 g224 .leaf .leaf) (.node 235 2 g235 .leaf .leaf)) (.node 238 2 g238 (.node 237 2 g237 .leaf .leaf) .leaf)) (.node 242 1 g242 (.node 241 1 g241 (.node 240 3 g240 .leaf .leaf) .leaf) (.node 244 2 g244 (.node 243 2 g243 .leaf .leaf) .leaf))) (.node 256 1 g256 (.node 253 2 g253 (.node 252 1 g252 (.node 251 1 g251 .leaf .leaf) .leaf) (.node 255 2 g255 (.node 254 1 g254 .leaf .leaf) .leaf)) (.node 259 2 g259 (.node 258 0 g258 (.node 257 1 g257 .leaf .leaf) .leaf) (.node 264 1 g264 (.node 263 0 g263 .leaf .leaf) .leaf))))))
theorem QcA:tb44.Ok prog GL0:=⟨g171_ok,⟨g105_ok,⟨g66_ok,⟨g55_ok,⟨g48_ok,⟨g44_ok,⟨g22_ok,trivial,trivial⟩,⟨g45_ok,trivial,trivial⟩⟩,⟨g54_ok,⟨g50_ok,trivial,trivial⟩,trivial⟩⟩,⟨g59_ok,⟨g57_ok,⟨g56_ok,trivial,trivial⟩,trivial⟩,⟨g65_ok,⟨g64_ok,trivial,trivial⟩,trivial⟩⟩⟩,⟨g96_ok,⟨g93_ok,⟨g75_ok,⟨g71_ok,trivial,trivial⟩,⟨g89_ok,trivial,trivial⟩⟩,⟨g95_ok,⟨g94_ok,trivial,trivial⟩,trivial⟩⟩,⟨g102_ok,⟨g101_ok,⟨g100_ok,trivial,trivial⟩,trivial⟩,⟨g104_ok,⟨g103_ok,trivial,trivial⟩,trivial⟩⟩⟩⟩,⟨g143_ok,⟨g128_ok,⟨g119_ok,⟨g112_ok,⟨g111_ok,trivial,trivial⟩,⟨g118_ok,trivial,trivial⟩⟩,⟨g124_ok,⟨g120_ok,trivial,trivial⟩,trivial⟩⟩,⟨g137_ok,⟨g136_ok,⟨g129_ok,trivial,trivial⟩,trivial⟩,⟨g139_ok,⟨g138_ok,trivial,trivial⟩,trivial⟩⟩⟩,⟨g165_ok,⟨g157_ok,⟨g155_ok,⟨g144_ok,trivial,trivial⟩,⟨g156_ok,trivial,trivial⟩⟩,⟨g164_ok,⟨g163_ok,trivial,trivial⟩,trivial⟩⟩,⟨g168_ok,⟨g167_ok,⟨g166_ok,trivial,trivial⟩,trivial⟩,⟨g170_ok,⟨g169_ok,trivial,trivial⟩,trivial⟩⟩⟩⟩⟩,⟨g223_ok,⟨g209_ok,⟨g182_ok,⟨g179_ok,⟨g173_ok,⟨g172_ok,trivial,trivial⟩,⟨g176_ok,trivial,trivial⟩⟩,⟨g181_ok,⟨g180_ok,trivial,trivial⟩,trivial⟩⟩,⟨g185_ok,⟨g184_ok,⟨g183_ok,trivial,trivial⟩,trivial⟩,⟨g208_ok,⟨g186_ok,trivial,trivial⟩,trivial⟩⟩⟩,⟨g217_ok,⟨g213_ok,⟨g211_ok,⟨g210_ok,trivial,trivial⟩,⟨g212_ok,trivial,trivial⟩⟩,⟨g216_ok,⟨g215_ok,trivial,trivial⟩,trivial⟩⟩,⟨g220_ok,⟨g219_ok,⟨g218_ok,trivial,trivial⟩,trivial⟩,⟨g222_ok,⟨g221_ok,trivial,trivial⟩,trivial⟩⟩⟩⟩,⟨g250_ok,⟨g239_ok,⟨g236_ok,⟨g234_ok,⟨g224_ok,trivial,trivial⟩,⟨g235_ok,trivial,trivial⟩⟩,⟨g238_ok,⟨g237_ok,trivial,trivial⟩,trivial⟩⟩,⟨g242_ok,⟨g241_ok,⟨g240_ok,trivial,trivial⟩,trivial⟩,⟨g244_ok,⟨g243_ok,trivial,trivial⟩,trivial⟩⟩⟩,⟨g256_ok,⟨g253_ok,⟨g252_ok,⟨g251_ok,trivial,trivial⟩,trivial⟩,⟨g255_ok,⟨g254_ok,trivial,trivial⟩,trivial⟩⟩,⟨g259_ok,⟨g258_ok,⟨g257_ok,trivial,trivial⟩,trivial⟩,⟨g264_ok,⟨g263_ok,trivial,trivial⟩,trivial⟩⟩⟩⟩⟩⟩
end Go.Ah.Tz
end
section
namespace Go.Ah.Tz
open Go.Proofs.Tryz (prog)
set_option maxRecDepth 1000000
theorem hT44:∀f np g,tb44.get f=some (np,g)→GQ f np g:=GT.get_ok QcA
def b20V:AVal:=(.agg [(.rsl true false 12 [[(.str [73,109,112]),(.bool true),(.int .i64 1),(.int .i64 2),(.int .i64 3),(.int .i64 1),(.int .i64 0),(.int .i64 0),.nils,.nils,.nils,(.int .i64 0)],[(.str [69,108,102]),(.bool true),(.int .i64 2),(.int .i64 1),(.int .i64 1),(.int .i64 0),(.int .i64 1),(.int .i64 0),.nils,.nils,.nils,(.int .i64 0)],[(.str [66,111,108,116]),(.bool false),(.int .i64 1),(.int .i64 0),(.int .i64 0),(.int .i64 0),(.int .i64 0),(.int .i64 0),(.rsl true false 14 [[(.int .i8 0),(.int .i8 2),(.int .i8 0),(.int .i64 3),(.int .i8 0),.nils,(.str []),(.int .i8 0),(.int .i8 0),(.str []),.nils,.nils,.nils,.nils]]),.nils,.nils,(.int .i64 0)]]),(.rsl true false 7 [[(.str [115,116,100]),(.int .i64 0),(.int .i64 60),(.int .i64 60),.nils,.nils,(.int .i64 0)]])])
def m22V:AVal:=(.agg [(.int .i64 1),(.int .i64 0),(.int .i8 0),(.bool false),(.int .i8 0),.nils,(.int .i64 4),(.int .i64 20),(.int .i64 3),(.int .i64 3),(.rsl true false 1 [[(.int .i64 0)],[(.int .i64 1)],[(.int .i64 2)]]),(.rsl true false 1 [[(.int .i64 2)],[(.int .i64 0)]]),.nils,(.rsl false false 4 [[(.int .i64 1),(.int .i64 0),(.int .i64 0),(.bool false)],[(.int .i64 3),(.int .i64 1),(.int .i64 0),(.bool false)]]),.nils,(.int .i64 20),(.int .i64 3),(.int .i64 3),(.rsl true false 1 [[(.int .i64 0)],[(.int .i64 1)],[(.int .i64 2)]]),(.rsl true false 1 [[(.int .i64 2)],[(.int .i64 0)]]),.nils,(.rsl true false 4 [[(.int .i64 2),(.int .i64 1),(.int .i64 0),(.bool false)]]),.nils])
def s45V:AVal:=(.agg [(.int .i64 1),(.int .i64 0),(.int .i8 1),(.bool true),(.int .i8 0),(.rsl false false 1 [[(.int .i64 1)],[(.int .i64 3)]]),(.int .i64 4),(.int .i64 20),(.int .i64 3),(.int .i64 3),(.rsl false false 1 [[(.int .i64 0)],[(.int .i64 1)],[(.int .i64 2)]]),(.rsl false false 1 [[(.int .i64 2)],[(.int .i64 0)]]),.nils,(.rsl false false 4 [[(.int .i64 1),(.int .i64 0),(.int .i64 0),(.bool true)],[(.int .i64 3),(.int .i64 1),(.int .i64 0),(.bool true)]]),.nils,(.int .i64 20),(.int .i64 3),(.int .i64 3),(.rsl false false 1 [[(.int .i64 0)],[(.int .i64 1)],[(.int .i64 2)]]),(.rsl false false 1 [[(.int .i64 2)],[(.int .i64 0)]]),.nils,(.rsl false false 4 [[(.int .i64 2),(.int .i64 1),(.int .i64 0),(.bool false)]]),.nils])
def s48V:AVal:=(.agg [(.int .i64 1),(.int .i64 0),(.int .i8 0),(.bool true),(.int .i8 0),.nils,(.int .i64 4),(.int .i64 20),(.int .i64 3),(.int .i64 3),(.rsl false false 1 [[(.int .i64 0)],[(.int .i64 1)],[(.int .i64 2)]]),(.rsl false false 1 [[(.int .i64 2)],[(.int .i64 0)]]),.nils,(.rsl false false 4 [[(.int .i64 1),(.int .i64 0),(.int .i64 0),(.bool true)],[(.int .i64 3),(.int .i64 1),(.int .i64 0),(.bool true)]]),.nils,(.int .i64 19),(.int .i64 3),(.int .i64 3),(.rsl false false 1 [[(.int .i64 0)],[(.int .i64 1)],[(.int .i64 2)]]),(.rsl false false 1 [[(.int .i64 2)],[(.int .i64 0)]]),.nils,(.rsl false false 4 [[(.int .i64 2),(.int .i64 1),(.int .i64 3),(.bool false)]]),.nils])
def s00V:AVal:=(.agg [(.int .i64 0),(.int .i64 0),(.int .i8 0),(.bool false),(.int .i8 0),.nils,(.int .i64 0),(.int .i64 0),(.int .i64 0),(.int .i64 0),.nils,.nils,.nils,.nils,.nils,(.int .i64 0),(.int .i64 0),(.int .i64 0),.nils,.nils,.nils,.nils,.nils])
def r13:AVal:=.rsl false false 1 [[.int .i64 1],[.int .i64 3]]
def r2:AVal:=.rsl false false 1 [[.int .i64 2]]
def r12:AVal:=.rsl false false 2 [[.int .i64 1,.int .i64 2]]
theorem p93:PC 93 [] b20V:=Yau hP hT44 (much:=1000000000) 60 (by kernel_rfl)
theorem p94:PC 94 [] m22V:=Yau hP hT44 (much:=1000000000) 60 (by kernel_rfl)
theorem p143:PC 143 [b20V] (.agg [.int .i64 0,.int .i64 0]):=Yau hP hT44 (much:=1000000000) 60 (by kernel_rfl)
def kn44:Known:=[(143,[b20V],.agg [.int .i64 0,.int .i64 0])]
theorem YaU:KnOk prog GL0 kn44:=⟨⟨⟨g143_ok.plain,rfl,rfl⟩,p143⟩,trivial⟩
theorem p45a:PC 45 [b20V,m22V,r13] (.tup [s45V,(.rsl false false 7 [[(.int .i8 11),(.int .i64 0),(.int .i64 0),(.int .i64 1),(.int .i64 0),(.int .i64 0),.nils],[(.int .i8 11),(.int .i64 0),(.int .i64 0),(.int .i64 3),(.int .i64 0),(.int .i64 0),.nils]]),(.int .i64 0)]):=Xau hP hT44 (much:=1000000000) YaU 60 (by kernel_rfl)
theorem p45b:PC 45 [b20V,m22V,r2] (.tup [s00V,.nils,(.int .i64 2)]):=Xau hP hT44 (much:=1000000000) YaU 60 (by kernel_rfl)
theorem p48:PC 48 [b20V,s45V,r12] (.tup [s48V,(.rsl false false 7 [[(.int .i8 12),(.int .i64 0),(.int .i64 0),(.int .i64 1),(.int .i64 2),(.int .i64 0),.nils],[(.int .i8 5),(.int .i64 1),(.int .i64 0),(.int .i64 2),(.int .i64 0),(.int .i64 3),.nils],[(.int .i8 5),(.int .i64 0),(.int .i64 0),(.int .i64 1),(.int .i64 0),(.int .i64 0),.nils],[(.int .i8 5),(.int .i64 1),(.int .i64 0),(.int .i64 0),(.int .i64 0),(.int .i64 1),.nils]]),(.int .i64 0)]):=Xau hP hT44 (much:=1000000000) YaU 60 (by kernel_rfl)
theorem p50:PC 50 [b20V,s45V,.nils] (.tup [(.int .i64 4),(.int .i64 0)]):=Xau hP hT44 (much:=1000000000) YaU 60 (by kernel_rfl)
attribute [local irreducible] Ans.rd Ans.pu Ans.wr Ans.dr Ans.gr Ans.gw Ans.gl Ans.gd Ans.opt joinK W
set_option maxHeartbeats 8000000
theorem p44:PC 44 [] (.bool true):=by
 refine Qd hP g44_ok rfl rfl ?_;unfold g44;refine Yd p93 rfl g93_ok.plain rfl (Yd p94 rfl g94_ok.plain rfl (Zf rfl rfl ?_));refine XaJ (pre:=[b20V,m22V]) p45a rfl g45_ok.plain rfl rfl rfl (by simp) (Ya rfl (Ya rfl (Ya rfl (Zf rfl rfl (Zf rfl rfl ?_)))));refine Qj p93 rfl g93_ok.plain rfl (Xi (v:=s45V) rfl rfl (Yi rfl (Xi rfl rfl ?_)));refine Qbb (pre:=[b20V,s45V]) p48 rfl g48_ok.plain rfl rfl rfl (by simp) (Yi rfl (Yi rfl (Yi rfl (Xi rfl rfl (Xi rfl rfl (QN (by kernel_rfl) ?_))))));refine Qj p93 rfl g93_ok.plain rfl (Xi (v:=s45V) rfl rfl (Qj p50 rfl g50_ok.plain rfl (Yi rfl (Yi rfl (QN (by kernel_rfl) ?_)))));refine Yd p93 rfl g93_ok.plain rfl (Yd p94 rfl g94_ok.plain rfl (Zf rfl rfl ?_));refine XaJ (pre:=[b20V,m22V]) p45b rfl g45_ok.plain rfl rfl rfl (by simp) (Ya rfl (Ya rfl (Ya rfl (Zf rfl rfl (Zf rfl rfl ?_)))));repeat first|refine Xa (Ya rfl ?_)|refine Ya rfl ?_
 rfl
end Go.Ah.Tz
end
section
namespace Go.Proofs.YtflcpnaigpgciaaGreatDoor
open Go.ChangeShapes Go.WideShapes Go.ChangeAt Go.RowKit Go.Ah Go.Ah.Tz
set_option maxRecDepth 100000
theorem Ya1:Rows.fightBeginsUptoRow.laid=[("unicode.White_Space",Rows.laid_unicode_White_Space),("strings.asciiSpace",Lib.tabData .u8 spaces)]:=by kernel_rfl
theorem Zas(H:Type)(enc:TypeId×Value→H)(W:World)(base:Nat)(args:Array Value)(ds gs:List (DataW H))(before:List MemPlace)
 (hval:∀(j:Nat) t v,Tryz.f10.params[j]?=some t→args[j]?=some v→Value.okWide Tryz.prog W .any base t v)
 (hW:DataW.Whole enc Tryz.prog Tryz.f10.params.toList Rows.fightBeginsSpec.vars false W args.toList ds gs before)(hk:Rows.uptoSmall H (ds++gs)=true)(hL:laidMetH Tryz.prog Rows.fightBeginsUptoRow.laid W) :
  Calls Tryz.prog 10 args W λe W'=>∃v,e=.returned v∧Rows.fightBeginsSpec.post enc Tryz.prog Tryz.f10 false true false false W args v W':=by
 have hW':=hW;have hlt:=hW.lt;obtain⟨p,q,hA0,hV,rfl,hfz,hnd⟩:=hW;have hA:DataW.TrodAll enc Tryz.prog W 0 (λ_=>true) true Tryz.f10.params.toList args.toList ds p:=hA0;rw[Tryz.params10] at hA hval;obtain⟨v0,vs,d0,ds,p0,p,hargs,rfl,rfl,h0,r⟩:=trodAll_cons hA;obtain⟨v1,vs,d1,ds,p1,p,rfl,rfl,rfl,h1,r⟩:=trodAll_cons r;obtain⟨v2,vs,d2,ds,p2,p,rfl,rfl,rfl,h2,r⟩:=trodAll_cons r;obtain⟨rfl,rfl,rfl⟩:=trodAll_nil r;obtain rfl:args = #[v0,v1,v2]:=by cases args; simp_all
 obtain⟨rfl,rfl⟩:=trodVars_none hV;have hbk:Rows.uptoBulkAll [d0,d1,d2]≤1048576:=of_decide_eq_true hk;simp only[Rows.uptoBulkAll] at hbk;obtain⟨b,hf,hsm,e0⟩:=XcE (hval 0 _ v0 rfl rfl) h0 (by omega);obtain⟨s,hs,e1⟩:=Xcu (hval 1 _ v1 rfl rfl) h1 (by omega);obtain⟨a2,l2,e2⟩:=d_row (hval 2 _ v2 rfl rfl) h2 (by omega);have hg:=Ycu Ya1 (show laidMet Tryz.prog Rows.fightBeginsUptoRow.laid W from hL);refine(c10 sort89 sortn89 p44 b hf hsm s hs a2 l2 W (λk=>W.heap[k]?) [v0,v1,v2] (λ_ _ h=>h) hg ⟨e0,e1,e2,trivial⟩).mono ?_;rintro e W' ⟨u,rfl,hkeep,M',_,_,_,hd⟩;cases hd;have hb:=hkeep.below;refine⟨_,rfl,YaV (pa:=p0++(p1++(p2++[]))) (pv:=[]) hW' (λ_ _ _=>trodAll_cons_mk (shut_bool Zbb _) trodAll_mk0) (λsp hsp=>?_) (λ_ _=>rfl) rfl hb (ok_one (by kernel_rfl) rfl (okWide_bool_mk Zbb _))⟩;rw[Tryz.params10];refine trodAll_cons_mk (Ybe r_bk.1 r_bk.2 h0 hb hlt (λp hp=>by simp[hp]) hsp) <| trodAll_cons_mk (Ybe r_st.1 r_st.2 h1 hb hlt (λp hp=>by simp[hp]) hsp) <| trodAll_cons_mk (Ybe ZcK.1 ZcK.2 h2 hb hlt (λp hp=>by simp[hp]) hsp) trodAll_mk0
def QU:Array Value:=#[.agg #[.slice none 0 0,.slice none 0 0],.agg #[.int .i64 0,.int .i64 0,.int .i8 0,.bool false,.int .i8 0,.slice none 0 0,.int .i64 0,.int .i64 0,.int .i64 0,.int .i64 0,.slice none 0 0,.slice none 0 0,.slice none 0 0,.slice none 0 0,.slice none 0 0,.int .i64 0,.int .i64 0,.int .i64 0,.slice none 0 0,.slice none 0 0,.slice none 0 0,.slice none 0 0,.slice none 0 0],.slice none 0 0]
theorem Xbl(os:Os):laidMet Tryz.prog Rows.fightBeginsUptoRow.laid ((Xbe os).forCall (λ_ _=>0) ⟨#[],QU,[]⟩).memory:=
 laidMet_of_run' 8 (by kernel_rfl) (by kernel_rfl)
theorem XaS(os:Os){H:Type}(enc:TypeId×Value→H):∃places,DataW.whole enc Tryz.prog ((Xbe os).forCall (λ_ _=>0) ⟨#[],QU,[]⟩).memory Tryz.f10.params.toList Rows.fightBeginsSpec.vars false QU.toList 8 =
  some ([.agg [.nil,.nil],.agg [.lit (.int .i64 0),.lit (.int .i64 0),.lit (.int .i8 0),.lit (.bool false),.lit (.int .i8 0),.nil,.lit (.int .i64 0),.agg [.agg [.lit (.int .i64 0),.lit (.int .i64 0),.lit (.int .i64 0),.nil,.nil,.nil,.nil,.nil],.agg [.lit (.int .i64 0),.lit (.int .i64 0),.lit (.int .i64 0),.nil,.nil,.nil,.nil,.nil]]],.nil],[],places):=⟨[],by kernel_rfl⟩
theorem XaH(os:Os)(started:os.Started)(H:Type)(enc:TypeId×Value→H)(F:Stop.Interp) :
  ReturnsInHanded {} Tryz.checked os 10 .any ((Rows.OpenSpec.upto Rows.fightBeginsSpec).preRow enc Tryz.prog Tryz.f10 Rows.fightBeginsUptoRow.domain false Rows.fightBeginsUptoRow.laid) (((Rows.OpenSpec.upto Rows.fightBeginsSpec).at F).post enc Tryz.prog Tryz.f10 false true false false):=by
 obtain⟨places,hx⟩:=XaS os enc;refine returnsInHanded_of_row (C:=Tryz.checked) (s:=Rows.OpenSpec.upto Rows.fightBeginsSpec) d_own started (by kernel_rfl) Tryz.func10
  (witness_row_atRef (enc:=enc) (C:=Tryz.checked) false (Xbe os) QU rfl (by kernel_rfl) (by kernel_rfl) (by kernel_rfl)
   (OpenSpec.preRow_of_cond 8 hx (by kernel_rfl) (λk hk=>by cases hk; kernel_rfl) (by kernel_rfl) (Xbl os))) ?_
 intro W base args ds gs before hval hW _ hcond _ hL _ _;exact Zas H enc W base args ds gs before hval hW (hcond _ rfl) hL
theorem ZbE:Tryz.prog.funcNamed Rows.fightBeginsUptoRow.func=some 10:=by kernel_rfl
theorem YbE:(Rows.fightBeginsUptoRow.wf (OpenSpec.ofChange (Rows.OpenSpec.upto Rows.fightBeginsSpec).bare))=true:=by kernel_rfl
theorem XbE:(laidOutB Tryz.prog)=true:=by kernel_rfl
theorem QbE:(mapsRowed Tryz.prog)=true:=by kernel_rfl
theorem ZbF:(Tryz.f10.params.all (Tryz.prog.readableRec ·))=true:=by kernel_rfl
theorem YbF:(namedTie Tryz.prog Rows.fightBeginsUptoRow.named (Rows.OpenSpec.upto Rows.fightBeginsSpec).bare.vars)=true:=by kernel_rfl
theorem XbF:(Rows.fightBeginsUptoRow.stops==[])=true:=by kernel_rfl
theorem QbF:(Tryz.prog.stops==[])=true:=by kernel_rfl
theorem ZbG:(Rows.fightBeginsUptoRow.knobs==[])=true:=by kernel_rfl
theorem YbG:(Tryz.prog.stopKnobs==[])=true:=by kernel_rfl
theorem Qbf:(Rows.fightBeginsUptoRow.inPlace==Tryz.prog.inPlace 10)=true:=by kernel_rfl
theorem Zbg:(Rows.fightBeginsUptoRow.unfollowed==Tryz.prog.unfollowed 10)=true:=by kernel_rfl
theorem Ybg:(Rows.fightBeginsUptoRow.recurses==Tryz.prog.recurses 10)=true:=by kernel_rfl
theorem Xbg:(Rows.fightBeginsUptoRow.named==Tryz.prog.varsNamed 10)=true:=by kernel_rfl
theorem Qbg:(Rows.fightBeginsUptoRow.maps==(Tryz.f10.params.toList++(Rows.OpenSpec.upto Rows.fightBeginsSpec).bare.plain.varTypes Tryz.prog).any (Tryz.prog.mapsRec ·))=true:=by kernel_rfl
theorem Zbh:(Rows.fightBeginsUptoRow.ifaces==(Tryz.f10.params.toList++(Rows.OpenSpec.upto Rows.fightBeginsSpec).bare.plain.varTypes Tryz.prog).any (Tryz.prog.ifacesRec ·))=true:=by kernel_rfl
theorem Ybh:(Rows.fightBeginsUptoRow.mapsOut==Tryz.prog.mapsAmong Tryz.f10.resultTypes.toList)=true:=by kernel_rfl
theorem Xbh:(Rows.fightBeginsUptoRow.loops==(Tryz.f10.params.toList++(Rows.OpenSpec.upto Rows.fightBeginsSpec).bare.plain.varTypes Tryz.prog).any (Tryz.prog.loopsFrom ·))=true:=by kernel_rfl
theorem Qbh:(Rows.fightBeginsUptoRow.wideKeys==(Tryz.f10.params.toList++(Rows.OpenSpec.upto Rows.fightBeginsSpec).bare.plain.varTypes Tryz.prog++Tryz.f10.resultTypes.toList).any (Tryz.prog.wideKeysFrom ·))=true:=by kernel_rfl
theorem Zbi:((Rows.OpenSpec.upto Rows.fightBeginsSpec).bare.vars.all (Tryz.prog.varReadable ·))=true:=by kernel_rfl
theorem Ybi:(Tryz.f10.resultTypes.all (λt=>Tryz.prog.readableRec t&&decide (t<Tryz.prog.types.size)))=true:=by kernel_rfl
theorem Xbi:(Rows.fightBeginsUptoRow.ifacesOut==Tryz.f10.resultTypes.toList.any (Tryz.prog.ifacesRec ·))=true:=by kernel_rfl
theorem Qbi:(Rows.fightBeginsUptoRow.loopsOut==Tryz.f10.resultTypes.toList.any (Tryz.prog.loopsFrom ·))=true:=by kernel_rfl
theorem Zbj:(Rows.fightBeginsUptoRow.plainKeys==Tryz.prog.plainKeys)=true:=by kernel_rfl
theorem Ybj:(Rows.fightBeginsUptoRow.shortTexts.isNone)=true:=by kernel_rfl
theorem Xbj:(Tryz.prog.stopsHeard)=true:=by kernel_rfl
theorem Qbj:(Tryz.prog.mayEnter)=true:=by kernel_rfl
theorem Zbk:(Rows.fightBeginsUptoRow.lifted==Tryz.prog.liftsFinal)=true:=by kernel_rfl
theorem Ybk:(Tryz.prog.make==some Rows.fightBeginsUptoRow.make)=true:=by kernel_rfl
theorem Xbk:(Rows.fightBeginsUptoRow.kinds==(if Rows.fightBeginsUptoRow.domain.isEmpty then [] else Tryz.f10.params.toList.map λt=>match Tryz.prog.underlying t with|some (.int k)=>some k|_=>none))=true:=by kernel_rfl
theorem Qbk:(Rows.fightBeginsUptoRow.pinned==Rows.fightBeginsUptoRow.pinnedBy)=true:=by kernel_rfl
theorem Zbl:(Rows.fightBeginsUptoRow.veiled==(Tryz.f10.params.toList++(Rows.OpenSpec.upto Rows.fightBeginsSpec).bare.plain.varTypes Tryz.prog++Tryz.f10.resultTypes.toList).any (Tryz.prog.veiledRec ·))=true:=by kernel_rfl
theorem Ybl:(Rows.fightBeginsUptoRow.veiledFits Tryz.prog Tryz.f10.params.toList (Tryz.f10.params.toList++(Rows.OpenSpec.upto Rows.fightBeginsSpec).bare.plain.varTypes Tryz.prog++Tryz.f10.resultTypes.toList))=true:=by kernel_rfl
theorem YaH:joinedFacts Tryz.prog 10 Tryz.f10 (Rows.OpenSpec.upto Rows.fightBeginsSpec).bare Rows.fightBeginsUptoRow=true:=(Qm (Qm (Qm (Qm (Qm (Qm (Qm (Qm (Qm (Qm (Qm (Qm (Qm (Qm (Qm (Qm (Qm (Qm (Qm (Qm (Qm (Qm (Qm (Qm (Qm (Qm (Qm (Qm (Qm (Qm (Qm YbE XbE) QbE) ZbF) YbF) XbF) QbF) ZbG) YbG) Qbf) Zbg) Ybg) Xbg) Qbg) Zbh) Ybh) Xbh) Qbh) Zbi) Ybi) Xbi) Qbi) Zbj) Ybj) Xbj) Qbj) Zbk) Ybk) Xbk) Qbk) Zbl) Ybl)
theorem Xa1:Rows.FightBeginsUptoSaid:=
 OpenClaim.holds_of_cond 10 Tryz.f10 rfl rfl rfl rfl rfl rfl rfl ⟨rfl,rfl,rfl,rfl,rfl⟩ rfl rfl rfl rfl rfl ZbE Tryz.func10 YaH
  (of_decide_eq_true (by kernel_rfl)) (by unfold Func.isWrapper; first|(rw[if_pos (by decide +kernel)]; kernel_rfl)|(rw[if_neg (by decide +kernel)]; exact⟨rfl,rfl⟩))
  (λos started H enc _ F=>by rw[OpenClaim.pre_eq_preRow]; exact XaH os started H enc F)
theorem YaS(f:FuncId)(fn:Func)(hf:Tryz.pinned.checked.prog.funcNamed "baize/baizelaw22.FightBegins" = some f)(hfn:Tryz.pinned.checked.prog.funcs[f]?=some fn) :
  true=Tryz.pinned.checked.prog.looks []∧∀(j:Nat) t,fn.params[j]?=some t→Tryz.pinned.checked.prog.wantsStandIn t=false:=by
 obtain rfl:f=10:=Option.some.inj ((show Tryz.prog.funcNamed "baize/baizelaw22.FightBegins" = some 10 by kernel_rfl).symm.trans hf) |>.symm;obtain rfl:fn=Tryz.f10:=(Option.some.inj (Tryz.func10.symm.trans hfn)).symm;refine⟨by kernel_rfl,λj t ht=>?_⟩;rw[Tryz.params10] at ht;have hm:t∈[Yca,Qca,XL]:=by simpa using Array.mem_of_getElem? ht
 have hall:([Yca,Qca,XL].all λu=>!Tryz.prog.wantsStandIn u)=true:=by kernel_rfl
 exact(show Tryz.prog.wantsStandIn t=false by simpa using List.all_eq_true.1 hall t hm)
theorem fightBegins_upto_card:Rows.FightBeginsUptoCardSaid:=
 Claim7.holds_tied_plain_at .later [] _ _ _ _ Xa1 (λ_ h=>by cases h) (by kernel_rfl) (λ_ h=>by cases h) fightBeginsUpto_row_tie rfl ⟨rfl,rfl⟩ (by kernel_rfl) rfl YaS (by kernel_rfl)
#print axioms fightBegins_upto_card
end Go.Proofs.YtflcpnaigpgciaaGreatDoor
end
