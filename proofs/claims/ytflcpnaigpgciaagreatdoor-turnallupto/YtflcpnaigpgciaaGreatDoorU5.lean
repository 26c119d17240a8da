/- Part of the proof that TurnAll holds of the program for arguments that together hold at most 1048576 values and letters; no other condition. -/
import Derived.Test.YtflcpnaigpgciaaGreatDoorU4
import Derived.Test.YtflcpnaigpgciaaGreatDoorRows
import Derived.Test.YtflcpnaigpgciaaGreatDoorCards
import Derived.Test.YtflcpnaigpgciaaGreatDoorTie
import Derived.ProofKit
import Derived.OpenShut
import Derived.Carry
import Derived.SevenTiedAt
import Derived.JoinedCond
import Derived.LaidMore
import Derived.SizedLaws
import Derived.Stop.LaidErr
import Derived.Deep.DeepHandedRow
import Derived.Deep.DeepWitnessRowRef
import Derived.Lib.LaidTab
import Derived.Sort.OwnSortedInts
set_option linter.all false
section
namespace Go.Ah.Tz
open Go.Proofs.Tryz (prog)
attribute [local irreducible] Ans.rd Ans.pu Ans.wr Ans.dr Ans.gr Ans.gw Ans.gl Ans.gd Ans.opt joinK W
set_option maxHeartbeats 1000000
theorem ZbL(σ:List ABlk)(x:Ef):Qk [.agg (efC x)] σ=.ok (.bptr σ.length 0) [] [(σ.length,.box (efC x))]:=by rw[XA]; rfl
def idxF{α:Type}(f:α→Bool):List α→Int→Int
 |[],_=>-1
 |x::l,n=>if f x=true then n else idxF f l (n+1)
theorem XaN{α:Type}(f:α→Bool):∀(l:List α) (n:Int),0≤n→decide (0≤idxF f l n)=l.any f
 |[],_,_=>rfl
 |x::l,n,h=>by
  by_cases hf:f x=true
  ·have e:idxF f (x::l) n=n:=if_pos hf;rw[e,List.any_cons,hf]; simpa using h
  ·have e:idxF f (x::l) n=idxF f l (n+1):=if_neg hf;have hf':f x=false:=by simpa using hf
   rw[e,XaN f l (n+1) (by omega),List.any_cons,hf']; rfl
theorem Zb9{P:Program}{GL:Globs}{c d:Bool}{K:AVal→Prop}{r1:SRes}{f2 f3 f4:AVal→SRes}{σ:List ABlk}{v1 v2 v3:AVal}{q1 q2 q3 q4:List Nat}(h1:r1=.ok v1 q1 [])(h2:f2 v1=.ok v2 q2 [])(h3:f3 v2=.ok v3 q3 [])(h4:f4 v3=.ok (.bool d) q4 [])(hK:K (.bool (c&&d))) :
  (W P GL).gr (.bool c) true (λk=>(W P GL).rd r1 k) λt1=>(W P GL).gr (.bool c) true (λk=>(W P GL).rd (f2 t1) k) λt2=>(W P GL).gr (.bool c) true (λk=>(W P GL).rd (f3 t2) k) λt3=>(W P GL).gr (.bool c) true (λk=>(W P GL).rd (f4 t3) k) λt4=>(W P GL).rd (Yi [.bool c,t4,.bool false] σ) K:=by
 cases c with
 |true=>exact Xa (Za h1 (Xa (Za h2 (Xa (Za h3 (Xa (Za h4 (Za rfl hK))))))))
 |false=>exact Zb rfl (Zb rfl (Zb rfl (Zb rfl (Za rfl hK))))
theorem c255(l:List Ef)(hl:l.length≤big)(id:FuncId)(fs cs:List AVal)(hp:Xn prog id=true)(f:Ef→Bool)(hc:∀x∈l,PC id (fs++[.agg (efC x)]++cs) (.bool (f x)))(hr:∀x,roL (fs++[.agg (efC x)]++cs)=true) :
  PC 255 [efV l,.func (.func id) fs cs] (iv (idxF f l 0)):=by
 rw[bigE] at hl;refine Xd hP g255_ok rfl rfl ?_;unfold g255;refine Za (v:=iv l.length) (rd:=[]) (by simp[Qf]) ?_;refine Qi (ι:=Nat) (λi vs s=>vs=[iv i]∧i≤l.length∧idxF f l 0=idxF f (l.drop i) i) (λi=>l.length-i) 0 ⟨rfl,by omega,by simp⟩ ?_;rintro i vs s again ⟨rfl,hi,hr'⟩ hag;refine Za rfl (Zc (λh=>?_) (λh=>?_))
 ·have h:i<l.length:=by simpa using h
  refine Za (Zn _ efC _ _ _ l _ i h) (Za (ldr (efLd _)) ?_);refine Yd (hc _ (List.getElem_mem h)) rfl hp (hr _) ?_;rw[YLD h,idxF] at hr';refine Zc (λh2=>?_) (λh2=>?_)
  ·rw[if_pos h2] at hr'; rw[hr']; rfl
  ·rw[if_neg (by rw[h2]; simp)] at hr';refine Za (Qj ..) ?_;rw[Qe (n:=i) (by omega)];exact hag (i+1) _ _ (by omega) ⟨rfl,by omega,by rw[hr']; push_cast; rfl⟩
 ·have h:i=l.length:=by simp at h; omega
  subst h;rw[List.drop_length,idxF] at hr';rw[hr']
theorem c239(l:List Ef)(hl:l.length≤big)(id:FuncId)(fs cs:List AVal)(hp:Xn prog id=true)(f:Ef→Bool)(hc:∀x∈l,PC id (fs++[.agg (efC x)]++cs) (.bool (f x)))(hr:∀x,roL (fs++[.agg (efC x)]++cs)=true)(hr2:roL [efV l,.func (.func id) fs cs]=true) :
  PC 239 [efV l,.func (.func id) fs cs] (.bool (l.any f)):=by
 refine Xd hP g239_ok rfl rfl ?_;unfold g239;refine Yd (c255 l hl id fs cs hp f hc hr) rfl g255_ok.plain hr2 ?_;refine Za (Zaa ..) ?_;rw[XaN f l 0 (by omega)]
def asksR(u:Int):List AVal:=[.func (.func 235) [.agg [iv8 u]] [],.func (.func 235) [.agg [iv8 u]] [],.func (.func 235) [.agg [iv8 u]] [],.func (.func 235) [.agg [iv8 u]] [],.func (.func 236) [.agg [iv8 u]] [],.func (.func 237) [.agg [iv8 u]] [],.func (.func 236) [.agg [iv8 u]] [],.func (.func 236) [.agg [iv8 u]] [],.func (.func 238) [.agg [iv8 u]] []]
theorem c240(u:Int)(x:Ef)(hf:efFit x=true)(h238:x.op=8→PC 238 [.agg [iv8 u],.agg (efC x)] (.bool (efL u x))):PC 240 [.agg (efC x),.rptr [iv8 u] 0,.rptr (asksR u) 0] (.bool (!efL u x)):=by
 have hop:=Yb4 hf;refine Xd hP g240_ok rfl rfl ?_;unfold g240;refine Zh (ZbL _ _) rfl (Za rfl (Za rfl (Za rfl (Za (ld rfl (efLd0 x)) (Za (Zaa ..) ?_)))));have p235:x.op=0∨x.op=1∨x.op=2∨x.op=3→PC 235 [.agg [iv8 u],.agg (efC x)] (.bool (efL u x)):=by
  intro h;have e:efL u x=decide (joinL u (nmL x.n)=0):=by rw[YaX,if_neg (by omega),if_neg (by omega),if_pos h]
  rw[e]; exact c235 u x hf
 have p236:¬(x.op=0∨x.op=1∨x.op=2∨x.op=3)→x.op≠5→x.op≠8→PC 236 [.agg [iv8 u],.agg (efC x)] (.bool (efL u x)):=by
  intro h h5 h8;have e:efL u x=decide (lbN u=0):=by rw[YaX,if_neg h5,if_neg h8,if_neg h,XaG]
  rw[e]; exact c236 u x
 have p237:x.op=5→PC 237 [.agg [iv8 u],.agg (efC x)] (.bool (efL u x)):=by
  intro h;have e:efL u x=QaF (joinL u (nmL x.n)) 1:=by rw[YaX,if_pos h]
  rw[e]; exact c237 u x hf
 refine Zb9 rfl (ld rfl (efLd0 x)) rfl (Xt ..) ?_;rw[wrapI (n:=x.op) (by omega) (by omega)];refine Yk λk11 hk11=>?_;have hk:∀id,Xn prog id=true→PC id [.agg [iv8 u],.agg (efC x)] (.bool (efL u x))→k11 [.func (.func id) [.agg [iv8 u]] []] [.box (efC x)]:=by
  intro id hp hc;rw[hk11];refine Za (ld rfl (efLd x)) ?_;refine Yd hc rfl hp (efRo u x) ?_;exact Za rfl rfl
 clear hk11;refine Zc (λh=>?_) (λh=>?_)
 ·have h:0≤x.op∧x.op<9:=by simpa using h
  refine Za rfl (Za (ld rfl (efLd0 x)) ?_);have hcs:x.op=0∨x.op=1∨x.op=2∨x.op=3∨x.op=4∨x.op=5∨x.op=6∨x.op=7∨x.op=8:=by omega
  rcases hcs with e|e|e|e|e|e|e|e|e
  ·have q:=p235 (by omega); rw[e]; exact Za rfl (Za rfl (hk _ g235_ok.plain q))
  ·have q:=p235 (by omega); rw[e]; exact Za rfl (Za rfl (hk _ g235_ok.plain q))
  ·have q:=p235 (by omega); rw[e]; exact Za rfl (Za rfl (hk _ g235_ok.plain q))
  ·have q:=p235 (by omega); rw[e]; exact Za rfl (Za rfl (hk _ g235_ok.plain q))
  ·have q:=p236 (by omega) (by omega) (by omega); rw[e]; exact Za rfl (Za rfl (hk _ g236_ok.plain q))
  ·have q:=p237 e; rw[e]; exact Za rfl (Za rfl (hk _ g237_ok.plain q))
  ·have q:=p236 (by omega) (by omega) (by omega); rw[e]; exact Za rfl (Za rfl (hk _ g236_ok.plain q))
  ·have q:=p236 (by omega) (by omega) (by omega); rw[e]; exact Za rfl (Za rfl (hk _ g236_ok.plain q))
  ·have q:=h238 e; rw[e]; exact Za rfl (Za rfl (hk _ g238_ok.plain q))
 ·have h:0≤x.op→¬x.op<9:=by simpa using h
  exact hk _ g236_ok.plain (p236 (by omega) (by omega) (by omega))
theorem c238(u:Int)(x:Ef)(hf:efFit x=true)(h1:∀u',PC 222 [.agg [iv8 u'],efV x.thn] (.bool (efsL u' x.thn)))(h2:∀u',PC 222 [.agg [iv8 u'],efV x.els] (.bool (efsL u' x.els))) :
  PC 238 [.agg [iv8 u],.agg (efC x)] (.bool (efsL (joinL u (cnL x.c)) x.thn&&efsL (joinL u (cnL x.c)) x.els)):=by
 refine Xd hP g238_ok rfl rfl ?_;unfold g238;refine Zh rfl rfl (Zh (ZbL _ _) rfl (Zj rfl (Xl rfl rfl (Zj rfl (Xl (ld rfl (efLdC x)) rfl ?_)))));refine Xk (c254 _ (ZU hf)) rfl g254_ok.plain (cnRo _) ?_;refine Xk (c250 _ _) rfl g250_ok.plain rfl ?_;refine Zj rfl (Xl rfl rfl (Xl rfl rfl (QC (by kernel_rfl) ?_)));refine Za rfl (Za rfl (Za (ld rfl (Qp x)) ?_));refine Yd (h1 _) rfl g222_ok.plain rfl ?_;rcases YBE (efsL (joinL u (cnL x.c)) x.thn) with h|h
 ·rw[h];refine Xa (Za rfl (Xa (Za rfl (Xa (Za (ld rfl (Zq x)) (Xb ?_))))));refine Yd (h2 _) rfl g222_ok.plain rfl ?_;exact Za rfl rfl
 ·rw[h];exact Zb rfl (Zb rfl (Zb rfl (Yc rfl (Za rfl rfl))))
theorem Ybl(u:Int):∀l,efsL u l=l.all (efL u)
 |[]=>rfl
 |x::l=>by simp[efsL,Ybl u l]
theorem c222':∀(k:Nat) (l:List Ef) (u:Int),SizeOf.sizeOf l≤k→lsFit l=true→PC 222 [.agg [iv8 u],efV l] (.bool (efsL u l))
 |0,l,_,h,_=>by cases l<;>simp at h
 |k+1,l,u,hk,hf=>by
  refine Xd hP g222_ok rfl rfl ?_;unfold g222;refine Zh rfl rfl (Za rfl (Za rfl (Za rfl (Za rfl (Za rfl (Za rfl (Za rfl (Za rfl (Za rfl (Za rfl (Za rfl (Za rfl (Za rfl (Za rfl (Za rfl (Za rfl (Za rfl (Za rfl (Za rfl (Zh rfl rfl (Zh rfl rfl (Za rfl ?_))))))))))))))))))))));have hc:∀x∈l,PC 240 ([]++[.agg (efC x)]++[.rptr [iv8 u] 0,.rptr (asksR u) 0]) (.bool (!efL u x)):=by
   intro x hx;have hfx:=YH hf hx;refine c240 u x hfx (λh8=>?_);have e:efL u x=(efsL (joinL u (cnL x.c)) x.thn&&efsL (joinL u (cnL x.c)) x.els):=by rw[YaX,if_neg (by omega),if_pos h8]
   have hs:=List.sizeOf_lt_of_mem hx;have hs2:=ZY x;rw[e];exact c238 u x hfx (λu'=>c222' k x.thn u' (by omega) (ZH hfx)) (λu'=>c222' k x.els u' (by omega) (QG hfx))
  refine Yy (c239 l (Zz hf) 240 [] [.rptr [iv8 u] 0,.rptr (asksR u) 0] g240_ok.plain (λx=>!efL u x) hc (λx=>by rw[XA]; rfl) rfl) rfl g239_ok.plain rfl rfl ?_;refine Za rfl ?_;rw[Ybl]
  congr 1
  simp only[List.any_eq_not_all_not,Bool.not_not]
theorem c222(l:List Ef)(u:Int)(hf:lsFit l=true):PC 222 [.agg [iv8 u],efV l] (.bool (efsL u l)):=c222' _ l u (Nat.le_refl _) hf
theorem c182(cs:List Cd)(hf:XI cs=true):PC 182 [cdV cs] (.agg [iv (cdsL cs).1,iv (cdsL cs).2]):=by
 simp only[XI,Bool.and_eq_true,decide_eq_true_eq] at hf;obtain⟨f0,f1⟩:=hf;rw[bigE] at f0;refine Xd hP g182_ok rfl rfl ?_;unfold g182;refine Zh rfl rfl (Za rfl (Zh rfl rfl (Zh rfl rfl ?_)));refine Za (v:=iv cs.length) (rd:=[]) (by simp[Qf]) ?_;refine Qi (ι:=Nat) (λi vs σ=>vs=[iv i]∧hget σ 0=.box [iv 0,iv 0]∧hget σ 1=.box [iv8 0]∧0<σ.length∧i≤cs.length∧cdsL cs=cdsL (cs.drop i)) (λi=>cs.length-i) 0 ⟨rfl,rfl,rfl,by simp,by omega,by simp⟩ ?_;rintro i vs σ again ⟨rfl,hz,ho,hz2,hi,hu⟩ hag;refine Za rfl ?_;refine Zc (λh=>?_) (λh=>?_);rotate_left
 ·have h:i=cs.length:=by simp at h; omega
  subst h;rw[List.drop_length,cdsL] at hu;refine Za rfl (Zh (stv hz rfl rfl rfl) (Ys _ hz2) (Zw (XG hz2 rfl) ?_));rw[hu]
 have hi:i<cs.length:=by simpa using h
 have hdr:cs.drop i=cs[i]::cs.drop (i+1):=by rw[YLD hi]
 have hix:=λ(s:List ABlk)=>Zn s cdC false false 12 cs .i64 i hi;have hfi:=List.all_eq_true.1 f1 _ (List.getElem_mem hi);generalize cs[i]=c at hdr hix hfi;rw[hdr,cdsL] at hu;simp only[cdFit,Bool.and_eq_true,decide_eq_true_eq] at hfi;obtain⟨g0,g1,g2,g3⟩:=hfi;refine Za (hix _) (Za (ldr (cdLd _)) (Qs (row:=cdC c) (row':=cdC c) rfl rfl rfl ?_));have hB0:=Yj σ (ABlk.box (cdC c));have hz':hget (σ++[ABlk.box (cdC c)]) 0=.box [iv 0,iv 0]:=Xj _ hz (by simp);have ho':hget (σ++[ABlk.box (cdC c)]) 1=.box [iv8 0]:=Xj _ ho (by simp);have hz2':0<(σ++[ABlk.box (cdC c)]).length:=by simp
 generalize σ++[ABlk.box (cdC c)]=base at hB0 hz' ho' hz2' ⊢;generalize σ.length=b at hB0 ⊢;clear hz hz2 ho;refine Za (ld ho' rfl) (Za rfl (Za (ld hB0 rfl) ?_));refine Yd (c222 _ 0 g1) rfl g222_ok.plain rfl ?_;refine Za rfl ?_;apply cutF (cdL c=false)
 ·intro hR;have good:cdL c=true→VV.rd (Yh .add false [iv i,(.int .i64 1)] base) λt10_26=>again [t10_26] base:=by
   intro hc;rw[hc,if_pos rfl] at hu;refine Za (Qj ..) ?_;rw[Qe (n:=i) (by omega)];exact hag (i+1) _ _ (by omega) ⟨rfl,hz',ho',hz2',by omega,hu⟩
  rcases YBE (!efsL 0 c.played) with a1|a1
  ·rw[a1];repeat first|refine Xa ?_|refine Xb ?_|refine Zb rfl ?_|refine Yc rfl ?_|refine Qc rfl ?_|refine Zd rfl ?_|refine Za (ld hB0 rfl) ?_|refine Za rfl ?_
   refine Ze (hR ?_);have a1:efsL 0 c.played=false:=by simpa using a1
   simp[cdL,a1]
  rw[a1];repeat first|refine Xa ?_|refine Xb ?_|refine Za (ld ho' rfl) ?_|refine Za (ld hB0 rfl) ?_|refine Za rfl ?_
  have a1:efsL 0 c.played=true:=by simpa using a1
  refine Yd (c222 _ 0 g2) rfl g222_ok.plain rfl ?_;repeat first|refine Xa ?_|refine Xb ?_|refine Za (ld ho' rfl) ?_|refine Za (ld hB0 rfl) ?_|refine Za rfl ?_
  rcases YBE (!efsL 0 c.dead) with a2|a2
  ·rw[a2];repeat first|refine Xa ?_|refine Xb ?_|refine Zb rfl ?_|refine Yc rfl ?_|refine Qc rfl ?_|refine Zd rfl ?_|refine Za (ld hB0 rfl) ?_|refine Za rfl ?_
   refine Ze (hR ?_);have a2:efsL 0 c.dead=false:=by simpa using a2
   simp[cdL,a2]
  rw[a2];repeat first|refine Xa ?_|refine Xb ?_|refine Za (ld ho' rfl) ?_|refine Za (ld hB0 rfl) ?_|refine Za rfl ?_
  have a2:efsL 0 c.dead=true:=by simpa using a2
  refine Yd (c222 _ 0 g3) rfl g222_ok.plain rfl ?_;repeat first|refine Xa ?_|refine Xb ?_|refine Za (ld hB0 rfl) ?_|refine Za rfl ?_
  refine Zc (λa3=>hR ?_) (λa3=>good ?_)
  ·have a3:efsL 0 c.dawn=false:=by simpa using a3
   simp[cdL,a3]
  ·have a3:efsL 0 c.dawn=true:=by simpa using a3
   simp[cdL,a1,a2,a3]
 intro hc;rw[hc] at hu
 replace hu:cdsL cs=(140,c.pl):=hu
 refine Za rfl (Za (ld hB0 rfl) (Za rfl (Zh (stv hz' rfl rfl rfl) (Ys _ hz2') (Zw (XG hz2' rfl) ?_))));rw[hu]
theorem c259(l:List Cd)(hl:l.length≤big)(id:FuncId)(fs cs:List AVal)(hp:Xn prog id=true)(f:Cd→Bool)(hc:∀x∈l,PC id (fs++[.agg (cdC x)]++cs) (.bool (f x)))(hr:∀x,roL (fs++[.agg (cdC x)]++cs)=true) :
  PC 259 [cdV l,.func (.func id) fs cs] (iv (idxF f l 0)):=by
 rw[bigE] at hl;refine Xd hP g259_ok rfl rfl ?_;unfold g259;refine Za (v:=iv l.length) (rd:=[]) (by simp[Qf]) ?_;refine Qi (ι:=Nat) (λi vs s=>vs=[iv i]∧i≤l.length∧idxF f l 0=idxF f (l.drop i) i) (λi=>l.length-i) 0 ⟨rfl,by omega,by simp⟩ ?_;rintro i vs s again ⟨rfl,hi,hr'⟩ hag;refine Za rfl (Zc (λh=>?_) (λh=>?_))
 ·have h:i<l.length:=by simpa using h
  refine Za (Zn _ cdC _ _ _ l _ i h) (Za (ldr (cdLd _)) ?_);refine Yd (hc _ (List.getElem_mem h)) rfl hp (hr _) ?_;rw[YLD h,idxF] at hr';refine Zc (λh2=>?_) (λh2=>?_)
  ·rw[if_pos h2] at hr'; rw[hr']; rfl
  ·rw[if_neg (by rw[h2]; simp)] at hr';refine Za (Qj ..) ?_;rw[Qe (n:=i) (by omega)];exact hag (i+1) _ _ (by omega) ⟨rfl,by omega,by rw[hr']; push_cast; rfl⟩
 ·have h:i=l.length:=by simp at h; omega
  subst h;rw[List.drop_length,idxF] at hr';rw[hr']
theorem XbN(t:Tx):∀(l:List Cd) (n:Nat),((fndI n l t).2=true∧n≤(fndI n l t).1∧(fndI n l t).1<n+l.length∧idxF (λc=>c.name==t) l (n:Int)=((fndI n l t).1:Int))∨((fndI n l t)=(0,false)∧idxF (λc=>c.name==t) l (n:Int) = -1)
 |[],n=>.inr ⟨rfl,rfl⟩
 |c::l,n=>by
  by_cases h:c.name==t
  ·left;have e1:fndI n (c::l) t=(n,true):=if_pos h;have e2:idxF (λc:Cd=>c.name==t) (c::l) (n:Int)=n:=if_pos h;rw[e1,e2]; simp
  ·have e1:fndI n (c::l) t=fndI (n+1) l t:=if_neg h;have e2:idxF (λc:Cd=>c.name==t) (c::l) (n:Int)=idxF (λc:Cd=>c.name==t) l ((n+1:Nat):Int):=by
    have:=(if_neg h:(if (c.name==t)=true then (n:Int) else idxF (λc:Cd=>c.name==t) l ((n:Int)+1))=_)
    push_cast; exact this
   rw[e1,e2];rcases XbN t l (n+1) with ⟨q1,q2,q3,q4⟩|q
   ·exact .inl ⟨q1,by omega,by simp; omega,q4⟩
   ·exact .inr q
theorem c244(c:Cd)(t:Tx):PC 244 [.agg (cdC c),.rptr [.str t] 0] (.bool (c.name==t)):=by
 refine Xd hP g244_ok rfl rfl ?_;unfold g244;exact Zh rfl rfl (Za rfl (Za (ld rfl rfl) (Za rfl (Za rfl rfl))))
theorem c243(l:List Cd)(hl:l.length≤big)(t:Tx)(x:ABlk)(K:AVal→List ABlk→Prop)(hK:∀cs σ,cs.all AVal.cell=true→cs.length=12→K (.tup [.agg cs,iv (fndI 0 l t).1,.bool (fndI 0 l t).2]) ([x,.box [.str t]]++σ)) :
  g243 VV [cdV l,.func (.func 244) [] [.bptr 1 0]] [x,.box [.str t]] K:=by
 have hc:=c259 l hl 244 [] [.rptr [.str t] 0] g244_ok.plain (λc=>c.name==t) (λx _=>c244 x t) (λx=>rfl);unfold g243;refine Zh rfl rfl ?_;refine Yy hc rfl g259_ok.plain rfl rfl ?_;clear hc;rcases XbN t l 0 with ⟨q1,q2,q3,q4⟩|⟨q1,q4⟩
 ·rw[Nat.zero_add] at q3;have q4:idxF (λc=>c.name==t) l 0=((fndI 0 l t).1:Int):=q4;rw[q4];rw[q1] at hK;generalize (fndI 0 l t).1=i at q2 q3 hK ⊢;refine Za (Xt ..) ?_;rw[decide_eq_false (by omega)];refine Xi (Za (Zn _ cdC _ _ _ l _ i q3) (Za (ldr (cdLd _)) (Zh rfl rfl (Zw rfl ?_))));exact hK (cdC l[i]) _ rfl rfl
 ·have q4:idxF (λc=>c.name==t) l 0 = -1:=q4;rw[q4];rw[q1] at hK;refine Za rfl ?_;refine Ze (Za rfl (Zh rfl rfl (Zw rfl ?_)));exact hK [.str [],.bool false,iv 0,iv 0,iv 0,iv 0,iv 0,iv 0,.nils,.nils,.nils,iv 0] _ rfl rfl
theorem Zco(cs:List AVal)(h:cs.all AVal.cell=true):cellsOf (.agg cs)=some cs:=by simp[cellsOf,h]
theorem QaJ{α:Type}:∀(a b:List α),a.length=b.length→splice 0 a b=some a
 |[],[],_=>rfl
 |x::a,y::b,h=>by simp only[splice,QaJ a b (by simpa using h)]
theorem c224(b:Bk)(hl:b.cards.length≤big)(t:Tx):PC 224 [bkV b,.str t] (.tup [iv (fndI 0 b.cards t).1,.bool (fndI 0 b.cards t).2]):=by
 refine Xd hP g224_ok rfl rfl ?_;unfold g224;refine Zh rfl rfl (Zh rfl rfl (Za rfl (Za rfl (Za rfl ?_))));refine Qy hP rfl g243_ok rfl (c243 b.cards hl t _ _ (λcs σ h1 h2=>?_));refine Za rfl (Za rfl (Za rfl ?_));refine Qs (row:=cs) (row':=cs) (Zco cs h1) (by rw[h2]; rfl) (QaJ _ _ (by rw[h2]; rfl)) ?_;rfl
theorem Ya5{P:Program}{GL:Globs}{c d:Bool}{K:AVal→Prop}{r1:SRes}{σ:List ABlk}(h1:r1=.ok (.bool d) [] [])(hK:K (.bool (c&&d))) :
  (W P GL).gr (.bool c) true (λk=>(W P GL).rd r1 k) λt1=>(W P GL).rd (Yi [.bool c,t1,.bool false] σ) K:=by
 cases c with
 |true=>exact Xa (Za h1 (Za rfl hK))
 |false=>exact Zb rfl (Za rfl hK)
theorem QbW{P:Program}{GL:Globs}{c d:Bool}{K:AVal→Prop}{r1 r2:SRes}{f3:AVal→AVal→SRes}{f4:AVal→SRes}{σ:List ABlk}{v1 v2 v3:AVal}{q1 q2 q3 q4:List Nat}(h1:r1=.ok v1 q1 [])(h2:r2=.ok v2 q2 [])(h3:f3 v1 v2=.ok v3 q3 [])(h4:f4 v3=.ok (.bool d) q4 [])(hK:K (.bool (c&&d))) :
  (W P GL).gr (.bool c) true (λk=>(W P GL).rd r1 k) λt1=>(W P GL).gr (.bool c) true (λk=>(W P GL).rd r2 k) λt2=>(W P GL).gr (.bool c) true (λk=>(W P GL).rd (f3 t1 t2) k) λt3=>(W P GL).gr (.bool c) true (λk=>(W P GL).rd (f4 t3) k) λt4=>(W P GL).rd (Yi [.bool c,t4,.bool false] σ) K:=by
 cases c with
 |true=>exact Xa (Za h1 (Xa (Za h2 (Xa (Za h3 (Xa (Za h4 (Za rfl hK))))))))
 |false=>exact Zb rfl (Zb rfl (Zb rfl (Zb rfl (Za rfl hK))))
theorem ZbX{P:Program}{GL:Globs}{c d:Bool}{K:AVal→Prop}{r1 r3:SRes}{f2 f4:AVal→SRes}{f5:AVal→AVal→SRes}{σ:List ABlk}{v1 v2 v3 v4:AVal}{q1 q2 q3 q4 q5:List Nat}(h1:r1=.ok v1 q1 [])(h2:f2 v1=.ok v2 q2 [])(h3:r3=.ok v3 q3 [])(h4:f4 v3=.ok v4 q4 [])(h5:f5 v2 v4=.ok (.bool d) q5 [])(hK:K (.bool (c&&d))) :
  (W P GL).gr (.bool c) true (λk=>(W P GL).rd r1 k) λt1=>(W P GL).gr (.bool c) true (λk=>(W P GL).rd (f2 t1) k) λt2=>(W P GL).gr (.bool c) true (λk=>(W P GL).rd r3 k) λt3=>(W P GL).gr (.bool c) true (λk=>(W P GL).rd (f4 t3) k) λt4=>(W P GL).gr (.bool c) true (λk=>(W P GL).rd (f5 t2 t4) k) λt5=>(W P GL).rd (Yi [.bool c,t5,.bool false] σ) K:=by
 cases c with
 |true=>exact Xa (Za h1 (Xa (Za h2 (Xa (Za h3 (Xa (Za h4 (Xa (Za h5 (Za rfl hK))))))))))
 |false=>exact Zb rfl (Zb rfl (Zb rfl (Zb rfl (Zb rfl (Za rfl hK)))))
theorem YbX{P:Program}{GL:Globs}{c d:Bool}{K:AVal→Prop}{r1 r2:SRes}{f3:AVal→SRes}{f4:AVal→AVal→SRes}{f5:AVal→SRes}{σ:List ABlk}{v1 v2 v3 v4:AVal}{q1 q2 q3 q4 q5:List Nat}(h1:r1=.ok v1 q1 [])(h2:r2=.ok v2 q2 [])(h3:f3 v2=.ok v3 q3 [])(h4:f4 v1 v3=.ok v4 q4 [])(h5:f5 v4=.ok (.bool d) q5 [])(hK:K (.bool (c&&d))) :
  (W P GL).gr (.bool c) true (λk=>(W P GL).rd r1 k) λt1=>(W P GL).gr (.bool c) true (λk=>(W P GL).rd r2 k) λt2=>(W P GL).gr (.bool c) true (λk=>(W P GL).rd (f3 t2) k) λt3=>(W P GL).gr (.bool c) true (λk=>(W P GL).rd (f4 t1 t3) k) λt4=>(W P GL).gr (.bool c) true (λk=>(W P GL).rd (f5 t4) k) λt5=>(W P GL).rd (Yi [.bool c,t5,.bool false] σ) K:=by
 cases c with
 |true=>exact Xa (Za h1 (Xa (Za h2 (Xa (Za h3 (Xa (Za h4 (Xa (Za h5 (Za rfl hK))))))))))
 |false=>exact Zb rfl (Zb rfl (Zb rfl (Zb rfl (Zb rfl (Za rfl hK)))))
theorem XbW{P:Program}{GL:Globs}{c d:Bool}{K:List ABlk→AVal→Prop}{r1:SRes}{f2:AVal→SRes}{f3:AVal→(AVal→List ABlk→Prop)→Prop}{g:List ABlk→List ABlk}{σ:List ABlk}{v1 v2:AVal}{q1 q2:List Nat}(h1:r1=.ok v1 q1 [])(h2:f2 v1=.ok v2 q2 [])(h3:∀k:AVal→List ABlk→Prop,k (.bool d) σ→f3 v2 k)(hK:K σ (.bool (c&&d))) :
  (W P GL).gr (.bool c) true (λk=>(W P GL).rd r1 k) λt1=>(W P GL).gr (.bool c) true (λk=>(W P GL).rd (f2 t1) k) λt2=>(W P GL).gw (.bool c) true (λk=>f3 t2 k) σ λt3 σ'=>(W P GL).rd (Yi [.bool c,t3,.bool false] (g σ')) (K σ'):=by
 cases c with
 |true=>exact Xa (Za h1 (Xa (Za h2 (Xb (h3 _ (Za rfl hK))))))
 |false=>exact Zb rfl (Zb rfl (Yc rfl (Za rfl hK)))
def Old(σ σ':List ABlk):Prop:=σ.length≤σ'.length∧∀c,c<σ.length→hget σ' c=hget σ c
theorem Old.trans{a b c:List ABlk}(h:Old a b)(k:Old b c):Old a c:=⟨Nat.le_trans h.1 k.1,λi hi=>by rw[k.2 i (by have:=h.1; omega),h.2 i hi]⟩
theorem Old.app(σ l:List ABlk):Old σ (σ++l):=⟨by simp,λ_ h=>Yt l h⟩
theorem Old.get{σ σ':List ABlk}(h:Old σ σ'){c:Nat}{x:ABlk}(hx:hget σ c=x)(hd:x≠.dead):hget σ' c=x:=by
 rw[h.2 c (Zo hx hd)]; exact hx
theorem Bt.past{σ σ':List ABlk}{x:ABlk}(h:Bt σ.length (σ++[x]) σ'):Old σ σ':=by
 obtain⟨h1,h2⟩:=h;simp only[List.length_append,List.length_singleton] at h1 h2;exact⟨by omega,λc hc=>by rw[h2 c (by omega) (by omega),Yt _ hc]⟩
def SeenT(m:List (Tx×Bool))(l:List Tx):Prop:=∀t,(tlook t m).getD false=l.any λd=>d==t
theorem SeenT.nil:SeenT [] []:=λt=>by simp[tlook]
theorem SeenT.put{m:List (Tx×Bool)}{l:List Tx}(h:SeenT m l)(c:Tx):SeenT (tput c true m) (l++[c]):=by
 intro t;rw[XO,List.any_append,←h t];by_cases h2:t==c
 ·have e:t=c:=by simpa using h2
  simp[e]
 ·have h3:(c==t)=false:=by
   rw[Bool.eq_false_iff]; intro h; apply h2; simp at h; simp[h]
  rw[if_neg h2]; simp[h3]
theorem QbQ{α:Type}(l:List α)(f:α→Bool):(!l.any f)=l.all λx=>!f x:=by
 induction l with
 |nil=>rfl
 |cons x l ih=>simp[←ih]
theorem Qcb(b:Bk)(hc:b.cards.length≤big)(l:List Tx)(hl:l.length≤big)(ok:Bool){σ:List ABlk}(h0':hget σ 0=.box [cdV b.cards,foV b.formats]){K:List AVal→List ABlk→Prop}
 (hK:∀w σ',Old σ σ'→K [w,.bool (ok&&nmsGo b.cards [] l)] σ') :
  VV.loop (λag56 v57 τ=>VV.rd (Yh .lss false [(h0 v57),iv l.length] τ) λt76_58=>VV.test t76_58 (
   VV.rd (Yb 1 [txV l,(h0 v57)] τ) λt77_59=>VV.rd (Xc false 1 [t77_59] τ) λt78_60=>VV.rd (Xc true 2 [.bptr 0 0] τ) λt80_61=>
   VV.call (.call 224) [t80_61,t78_60] τ λt82_62 τ=>VV.rd (Qd 0 [t82_62] τ) λt83_63=>VV.rd (Qd 1 [t82_62] τ) λt84_64=>
   VV.gr (h1 v57) true (λk=>VV.rd (Xh [t84_64] τ) k) λt87_65=>VV.rd (Yi [(h1 v57),t87_65,(.bool false)] τ) λt88_66=>
   VV.gr t88_66 true (λk=>VV.rd (Xh [.map σ.length] τ) k) λt90_67=>VV.gr t88_66 true (λk=>VV.rd (Xh [t78_60] τ) k) λt91_68=>
   VV.gr t88_66 true (λk=>VV.rd (Yo true false (.bool false) [t90_67,t91_68] τ) k) λt92_69=>VV.gr t88_66 true (λk=>VV.rd (Qn .not [t92_69] τ) k) λt93_70=>
   VV.rd (Yi [t88_66,t93_70,(.bool false)] τ) λt94_71=>VV.wr (Xv true [.map σ.length,t78_60,(.bool true)] τ) τ λ_ τ=>
   VV.rd (Yh .add false [(h0 v57),(.int .i64 1)] τ) λt97_72=>ag56 [t97_72,t94_71] τ) (K v57 τ)) [(.int .i64 0),.bool ok] (σ ++ [.map []]):=by
 rw[bigE] at hl;have hnew:hget (σ++[.map []]) σ.length=.map (mpE []):=Yj _ _;have hlen:σ.length<(σ++[ABlk.map []]).length:=by simp
 refine Qi (ι:=Nat) (λi vs s=>∃ok' m,vs=[iv i,.bool ok']∧i≤l.length∧hget s σ.length=.map (mpE m)∧SeenT m (l.take i)∧Bt σ.length (σ++[.map []]) s∧(ok&&nmsGo b.cards [] l)=(ok'&&nmsGo b.cards (l.take i) (l.drop i))) (λi=>l.length-i) 0 ⟨ok,[],rfl,by omega,hnew,by simpa using SeenT.nil,Bt.refl _ _,by simp⟩ ?_;rintro i vs s again ⟨ok',m,rfl,hi,hm,hse,hbt,hr⟩ hag;have h0'':hget s 0=.box [cdV b.cards,foV b.formats]:=hbt.past.get h0' (by simp);refine Za rfl (Zc (λh=>?_) (λh=>?_))
 ·have h:i<l.length:=by simpa using h
  refine Za (Zn _ txC _ _ _ l _ i h) (Za (ldr (txLd _)) (Za (ld h0'' rfl) ?_));refine Yd (c224 b hc _) rfl g224_ok.plain rfl ?_;refine Za rfl (Za rfl (Ya5 rfl ?_));refine QbW rfl rfl (XaM hm _) rfl ?_;refine Zh (ZaX hm _ _) (Ys _ (Zo hm (by simp))) (Za (Qj ..) ?_);rw[Qe (n:=i) (by omega)];have hml:=Zo hm (by simp);refine hag (i+1) _ _ (by omega) ⟨_,_,rfl,by omega,Xp _ hml,by rw[Yw _ _ h]; exact hse.put _,hbt.trans ⟨by simp,λc hc hne=>Yq _ hc hne⟩,?_⟩;rw[hr,YLD h,nmsGo,Yw _ _ h,hse,QbQ];simp only[Bool.and_assoc]
 ·have h:i=l.length:=by simp at h; omega
  subst h;rw[List.drop_length,nmsGo,Bool.and_true] at hr;have:=hK (iv (l.length:Int)) s hbt.past;rw[hr] at this; exact this
def SeenF(m:List (Tx×Bool))(l:List Fo):Prop:=∀t,(tlook t m).getD false=l.any λd=>d.name==t
theorem SeenF.put{m:List (Tx×Bool)}{l:List Fo}(h:SeenF m l)(c:Fo):SeenF (tput c.name true m) (l++[c]):=by
 intro t;rw[XO,List.any_append,←h t];by_cases h2:t==c.name
 ·have e:t=c.name:=by simpa using h2
  simp[e]
 ·have h3:(c.name==t)=false:=by
   rw[Bool.eq_false_iff]; intro h; apply h2; simp at h; simp[h]
  rw[if_neg h2]; simp[h3]
theorem c184(b:Bk)(hf:bkFit b=true):PC 184 [bkV b] (.agg [iv (fmtGo b [] b.formats).1,iv (fmtGo b [] b.formats).2]):=by
 simp only[bkFit,XI,Bool.and_eq_true,decide_eq_true_eq] at hf;obtain⟨⟨fc,_⟩,fl,fa⟩:=hf;have fl':=fl;rw[bigE] at fl';refine Xd hP g184_ok rfl rfl ?_;unfold g184;refine Zh rfl rfl (Zh rfl rfl (Zh rfl rfl (Za rfl (Za rfl ?_))));refine Za (v:=iv b.formats.length) (rd:=[]) (by simp[Qf]) ?_;refine Qi (ι:=Nat) (λi vs σ=>∃m,vs=[iv i]∧i≤b.formats.length∧hget σ 0=.box [cdV b.cards,foV b.formats]∧hget σ 1=.box [iv 0,iv 0]∧hget σ 2=.map (mpE m)∧SeenF m (b.formats.take i)∧fmtGo b [] b.formats=fmtGo b (b.formats.take i) (b.formats.drop i)) (λi=>b.formats.length-i) 0 ⟨[],rfl,by omega,rfl,rfl,rfl,λt=>by simp[tlook],by simp⟩ ?_;rintro i vs σ again ⟨m,rfl,hi,hb0,hb1,hb2,hse,hr⟩ hag;refine Za rfl (Zc (λh=>?_) (λh=>?_));rotate_left
 ·have h:i=b.formats.length:=by simp at h; omega
  subst h;rw[List.drop_length,fmtGo] at hr;refine Za rfl (Zh (stv hb1 rfl rfl rfl) (Ys _ (Zo hb1 (by simp))) (Zw (XG (Zo hb1 (by simp)) rfl) ?_));rw[hr]
 have h:i<b.formats.length:=by simpa using h
 have hix:=λ(s:List ABlk)=>Zn s foC false false 7 b.formats .i64 i h;have hfo:=List.all_eq_true.1 fa _ (List.getElem_mem h);have htk:=Yw _ _ h;rw[YLD h,fmtGo] at hr;generalize b.formats[i]=f at hix hfo htk hr;simp only[foFit,Bool.and_eq_true,decide_eq_true_eq] at hfo;obtain⟨fo1,fo2,fo3⟩:=hfo;refine Za (hix _) (Za (ldr (foLd f)) (Qs (row:=foC f) (row':=foC f) rfl rfl rfl ?_));have hB:=Yj σ (ABlk.box (foC f));have hb0':hget (σ++[ABlk.box (foC f)]) 0=.box [cdV b.cards,foV b.formats]:=Xj _ hb0 (by simp);have hb1':hget (σ++[ABlk.box (foC f)]) 1=.box [iv 0,iv 0]:=Xj _ hb1 (by simp);have hb2':hget (σ++[ABlk.box (foC f)]) 2=.map (mpE m):=Xj _ hb2 (by simp);generalize σ++[ABlk.box (foC f)]=τ at hB hb0' hb1' hb2' ⊢;generalize σ.length=c at hB ⊢;clear hb0 hb1 hb2;refine Za (Xt ..) ?_;refine XbW (g:=λs=>s) (σ:=τ) (d:=nameOk f.name) rfl (ld hB rfl) (λk hk=>Yd (c223 _ fo1) rfl g223_ok.plain rfl hk) ?_;refine YbX rfl rfl (ld hB rfl) (XaM hb2' _) rfl ?_;refine Z7 rfl (ld hB rfl) (Zaa ..) ?_;refine ZbX rfl (ld hB rfl) rfl (ld hB rfl) (Xb3 ..) ?_;refine Z7 rfl (ld hB rfl) (Xb3 ..) ?_;refine Z7 rfl (ld hB rfl) (Zaa ..) ?_;refine Z7 rfl (ld hB rfl) (Xb3 ..) ?_;refine Za rfl (Za (ld hB rfl) (Za rfl (Za (ld hB rfl) (Za rfl ?_))));refine QH 3 (Ym (Za rfl (Ze (Za rfl (Zh rfl (Zy _ _) ?_)))));refine Za (v:=iv f.banned.length) (rd:=[]) (by simp[Qf]) ?_;refine Qcb b fc f.banned fo2 _ hb0' (λw τ2 o2=>?_);refine Za rfl (Ym (Za rfl (Ze (Za rfl (Zh rfl (Zy _ _) ?_)))));refine Za (v:=iv f.single.length) (rd:=[]) (by simp[Qf]) ?_;refine Qcb b fc f.single fo3 _ (o2.get hb0' (by simp)) (λw τ3 o3=>?_);have o:=o2.trans o3;refine Za rfl (Ym (Za rfl (Xi ?_)));have hok:((((((((((decide ((i:Int)<240)&&nameOk f.name) && !(tlook f.name m).getD false)&&decide (0≤f.least))&&decide (f.least≤f.most))&&decide (f.most≤60))&&decide (0≤f.copies))&&decide (f.copies≤999))&&nmsGo b.cards [] f.banned)&&nmsGo b.cards [] f.single))=fmtOk b (b.formats.take i) f:=by
  have hti:(b.formats.take i).length=i:=by rw[List.length_take]; omega
  have e:decide ((i:Int)<240)=decide (i<240):=by congr 1; simp; omega
  rw[fmtOk,hti,hse,e];generalize (List.take i b.formats).any (λg=>g.name==f.name)=x1;generalize decide (i<240)=x2;generalize nameOk f.name=x3;cases x1<;>cases x2<;>cases x3<;>simp[Bool.and_assoc]
 have hb1'':=o.get hb1' (by simp);have hb2'':=o.get hb2' (by simp);have hB'':=o.get hB (by simp);have hb0'':=o.get hb0' (by simp);refine Za (v:=.bool (!fmtOk b (b.formats.take i) f)) (rd:=[]) (by rw[←hok]; rfl) ?_;refine Zc (λh2=>?_) (λh2=>?_)
 ·have h2:fmtOk b (b.formats.take i) f=false:=by simpa using h2
  rw[h2,if_neg (by simp)] at hr;refine Za rfl (Za (ld hB'' rfl) (Za rfl (Zh (stv hb1'' rfl rfl rfl) (Ys _ (Zo hb1'' (by simp))) (Zw (XG (Zo hb1'' (by simp)) rfl) ?_))));rw[hr]
 ·have h2:fmtOk b (b.formats.take i) f=true:=by simpa using h2
  rw[h2,if_pos rfl] at hr;refine Za rfl (Za (ld hB'' rfl) (Zh (ZaX hb2'' _ _) (Ys _ (Zo hb2'' (by simp))) (Za (Qj ..) ?_)));rw[Qe (n:=i) (by omega)];refine hag (i+1) _ _ (by omega) ⟨_,rfl,by omega,?_,?_,Xp _ (Zo hb2'' (by simp)),by rw[htk]; exact hse.put f,by rw[htk]; exact hr⟩
  ·exact Zp hb0'' (by simp) (by omega)
  ·exact Zp hb1'' (by simp) (by omega)
def YG(l:List Cd):Prop:=∀c∈l,(cdP c).length≤500000000
theorem c180'(cs:List Cd)(hf:XI cs=true)(hs:YG cs):PC 180 [cdV cs] (.agg [iv (cdsChk cs).1,iv (cdsChk cs).2]):=by
 refine c180 cs hf (λm hm c hc=>?_);have hfc:cdFit c=true:=by
  simp only[XI,Bool.and_eq_true] at hf;exact List.all_eq_true.1 hf.2 c hc
 have hfc':=hfc;simp only[cdFit,Bool.and_eq_true,decide_eq_true_eq] at hfc';obtain⟨q0,q1,q2,q3⟩:=hfc';exact c221 m cs hm c hfc (c223 _ q0) (c124 c q1 q2 q3 (hs c hc))
theorem c143(b:Bk)(hf:bkFit b=true)(hs:YG b.cards):PC 143 [bkV b] (.agg [iv (bkR b).1,iv (bkR b).2]):=by
 have hf':=hf;simp only[bkFit,Bool.and_eq_true] at hf';have hcf:=hf'.1;have p179:PC 179 [.rptr [cdV b.cards,foV b.formats] 0] (.agg [iv (cdsChk b.cards).1,iv (cdsChk b.cards).2]):=by
  refine Xd hP g179_ok rfl rfl ?_;unfold g179;refine Zh rfl rfl (Za rfl (Za rfl ?_));refine Yd (c180' _ hcf hs) rfl g180_ok.plain rfl ?_;exact Zh rfl rfl (Zw rfl rfl)
 have p181:PC 181 [.rptr [cdV b.cards,foV b.formats] 0] (.agg [iv (cdsL b.cards).1,iv (cdsL b.cards).2]):=by
  refine Xd hP g181_ok rfl rfl ?_;unfold g181;refine Zh rfl rfl (Za rfl (Za rfl ?_));refine Yd (c182 _ hcf) rfl g182_ok.plain rfl ?_;exact Zh rfl rfl (Zw rfl rfl)
 have p183:PC 183 [.rptr [cdV b.cards,foV b.formats] 0] (.agg [iv (fmtGo b [] b.formats).1,iv (fmtGo b [] b.formats).2]):=by
  refine Xd hP g183_ok rfl rfl ?_;unfold g183;refine Zh rfl rfl (Za rfl ?_);refine Yd (c184 b hf) rfl g184_ok.plain rfl ?_;exact Zh rfl rfl (Zw rfl rfl)
 refine Xd hP g143_ok rfl rfl ?_;unfold g143;refine Zh rfl rfl (Zh rfl rfl (Za rfl (Za rfl (Za rfl (Za rfl ?_)))));refine QH 4 (Ym (Za rfl (Ze (Za rfl ?_))));refine Yy p179 rfl g179_ok.plain rfl rfl (Zh rfl rfl (Zh rfl rfl (Za rfl (Za rfl (Za (YF ..) (Zc (λh=>?_) (λh=>Za rfl ?_)))))))
 ·refine Za rfl (Zh rfl rfl (Zw rfl ?_));rw[bkR,if_pos (by simpa using h)]
 refine Ym (Za rfl (Ze (Za rfl ?_)));refine Yy p181 rfl g181_ok.plain rfl rfl (Zh rfl rfl (Zh rfl rfl (Za rfl (Za rfl (Za (YF ..) (Zc (λh2=>?_) (λh2=>Za rfl ?_)))))))
 ·refine Za rfl (Zh rfl rfl (Zw rfl ?_));rw[bkR,if_neg (by simpa using h),if_pos (by simpa using h2)]
 refine Ym (Za rfl (Ze (Za rfl ?_)));refine Yy p183 rfl g183_ok.plain rfl rfl (Zh rfl rfl (Zh rfl rfl (Za rfl (Za rfl (Za (YF ..) (Zc (λh3=>?_) (λh3=>Za rfl ?_)))))))
 ·refine Za rfl (Zh rfl rfl (Zw rfl ?_));rw[bkR,if_neg (by simpa using h),if_neg (by simpa using h2)]
 refine Ym (Za rfl (Xi (Za rfl (Zh rfl rfl (Zw rfl ?_)))));rw[bkR,if_neg (by simpa using h),if_neg (by simpa using h2)];have h3:(fmtGo b [] b.formats).1=0:=by simpa using h3
 have key:∀(l pre:List Fo),(fmtGo b pre l).1=0→(fmtGo b pre l).2=0:=by
  intro l
  induction l with
  |nil=>intro pre _; rfl
  |cons f l ih=>
   intro pre;rw[fmtGo];split
   ·exact ih _
   ·intro h; simp at h
 rw[h3,key _ _ h3]
end Go.Ah.Tz
end
section
namespace Go.Ah.Tz
open Go.Proofs.Tryz (prog)
def ilook{α:Type}(t:Int):List (Int×α)→Option α
 |[]=>none
 |p::l=>if t==p.1 then some p.2 else ilook t l
def mpG{α:Type}(f:α→AVal)(l:List (Int×α)):List (AVal×AVal):=l.map λp=>(iv p.1,f p.2)
theorem QaT{α:Type}(f:α→AVal)(t:Int):∀l:List (Int×α),alook (iv t) (mpG f l)=some ((ilook t l).map f)
 |[]=>rfl
 |p::l=>by
  simp only[mpG,List.map_cons,alook,keyEq,ilook,ikEq,cond_true];cases h:t==p.1 with
  |true=>rfl
  |false=>exact QaT f t l
theorem Zbi{α:Type}(f:α→AVal)(t:Int)(v:α):∀l:List (Int×α),ilook t l=none→aput (iv t) (f v) (mpG f l)=some (mpG f (l++[(t,v)]))
 |[],_=>rfl
 |p::l,h=>by
  rw[ilook] at h;split at h
  ·cases h
  ·rename_i h2;have h2:(t==p.1)=false:=by simpa using h2
   have:=Zbi f t v l h;simp only[mpG] at this;simp only[mpG,List.map_cons,List.cons_append,aput,keyEq,ikEq,cond_true,h2,this]
theorem Yal{α:Type}(t:Int):∀ (a b:List (Int × α)),ilook t (a ++ b)=(match ilook t a with
 |some v=>some v
 | none=>ilook t b)
 |[],b=>rfl
 |p::a,b=>by
  simp only[List.cons_append,ilook];split
  ·rfl
  ·exact Yal t a b
theorem Yah{α:Type}(t:Int):∀l:List (Int×α),(ilook t l).isSome=(l.map (·.1)).contains t
 |[]=>rfl
 |p::l=>by
  simp only[ilook,List.map_cons,List.contains_cons];cases h:t==p.1 with
  |true=>simp
  |false=>simp only[Bool.false_eq_true,if_false,Bool.false_or]; exact Yah t l
theorem Xag{α:Type}(f:α→AVal)(z:AVal)(ok:Bool){σ:List ABlk}{b:Nat}{l:List (Int×α)}(h:hget σ b=.map (mpG f l))(t:Int):Yo false ok z [.map b,iv t] σ=.ok (lookV ok z ((ilook t l).map f)) [b] []:=by
 simp only[Yo,QY,mapOf,h,QaT,cond_true]
theorem QaW{α:Type}(f:α→AVal){σ:List ABlk}{b:Nat}{l:List (Int×α)}(h:hget σ b=.map (mpG f l))(t:Int)(v:α)(hn:ilook t l=none):Xv false [.map b,iv t,f v] σ=.ok .junk [] [(b,.map (mpG f (l++[(t,v)])))]:=by
 simp only[Xv,QY,h,Zbi f t v l hn,cond_true]
structure SdAt (row:List AVal) (j:Nat) (x:Sd):Prop where
 h0:partA false (j+0) 1 row=some (iv x.life)
 h1:partA false (j+1) 1 row=some (iv x.mana)
 h2:partA false (j+2) 1 row=some (iv x.most)
 h3:partA false (j+3) 1 row=some (rowV x.deck)
 h4:partA false (j+4) 1 row=some (rowV x.hand)
 h5:partA false (j+5) 1 row=some (rowV x.grave)
 h6:partA false (j+6) 1 row=some (thV x.units)
 h7:partA false (j+7) 1 row=some (rowV x.told)
theorem sdAt0(s:St):SdAt (stC s) 7 s.s0:=⟨rfl,rfl,rfl,rfl,rfl,rfl,rfl,rfl⟩
theorem sdAt1(s:St):SdAt (stC s) 15 s.s1:=⟨rfl,rfl,rfl,rfl,rfl,rfl,rfl,rfl⟩
attribute [local irreducible] Ans.rd Ans.pu Ans.wr Ans.dr Ans.gr Ans.gw Ans.gl Ans.gd Ans.opt joinK W
set_option maxHeartbeats 2000000
theorem c120(l:List Int)(hl:l.length≤big)(id:FuncId)(fs cs:List AVal)(hp:Xn prog id=true)(f:Int→Bool)(hc:∀x∈l,PC id (fs++[iv x]++cs) (.bool (f x)))(hr:∀x,roL (fs++[iv x]++cs)=true) :
  PC 120 [rowV l,.func (.func id) fs cs] (iv (idxF f l 0)):=by
 rw[bigE] at hl;refine Xd hP g120_ok rfl rfl ?_;unfold g120;refine Za (v:=iv l.length) (rd:=[]) (by simp[Qf]) ?_;refine Qi (ι:=Nat) (λi vs s=>vs=[iv i]∧i≤l.length∧idxF f l 0=idxF f (l.drop i) i) (λi=>l.length-i) 0 ⟨rfl,by omega,by simp⟩ ?_;rintro i vs s again ⟨rfl,hi,hr'⟩ hag;refine Za rfl (Zc (λh=>?_) (λh=>?_))
 ·have h:i<l.length:=by simpa using h
  refine Za (Zn _ cel _ _ _ l _ i h) (Za (ldr rfl) ?_);refine Yd (hc _ (List.getElem_mem h)) rfl hp (hr _) ?_;rw[YLD h,idxF] at hr';refine Zc (λh2=>?_) (λh2=>?_)
  ·rw[if_pos h2] at hr'; rw[hr']; rfl
  ·rw[if_neg (by rw[h2]; simp)] at hr';refine Za (Qj ..) ?_;rw[Qe (n:=i) (by omega)];exact hag (i+1) _ _ (by omega) ⟨rfl,by omega,by rw[hr']; push_cast; rfl⟩
 ·have h:i=l.length:=by simp at h; omega
  subst h;rw[List.drop_length,idxF] at hr';rw[hr']
theorem c185(l:List Int)(hl:l.length≤big)(id:FuncId)(fs cs:List AVal)(hp:Xn prog id=true)(f:Int→Bool)(hc:∀x∈l,PC id (fs++[iv x]++cs) (.bool (f x)))(hr:∀x,roL (fs++[iv x]++cs)=true)(hr2:roL [rowV l,.func (.func id) fs cs]=true) :
  PC 185 [rowV l,.func (.func id) fs cs] (.bool (l.any f)):=by
 refine Xd hP g185_ok rfl rfl ?_;unfold g185;refine Yd (c120 l hl id fs cs hp f hc hr) rfl g120_ok.plain hr2 ?_;refine Za (Zaa ..) ?_;rw[XaN f l 0 (by omega)]
theorem c186(b:Bk)(x:Int):PC 186 [iv x,.rptr [.rptr [cdV b.cards,foV b.formats] 0] 0] (.bool (decide (x<0)||decide ((b.cards.length:Int)≤x))):=by
 refine Xd hP g186_ok rfl rfl ?_;unfold g186;refine Za (Xt ..) ?_;refine Qbs (λ_=>rfl) (λ_=>ldr rfl) (λ_=>rfl) (λ_=>rfl) (λ_=>ldr rfl) (v6:=iv b.cards.length) (q6:=[]) (λ_=>by simp[Qf]) (λ_=>Zaa ..) rfl
theorem Qbu(n:Nat)(l:List Int)(most:Int):(!(decide ((l.length:Int)>most)||l.any λx=>decide (x<0)||decide ((n:Int)≤x)))=Xo n l most:=by
 rw[Xo,Bool.not_or,QbQ]
 congr 1
 ·rw[Bool.eq_iff_iff]; simp
 ·congr 1; funext x
  rw[Bool.eq_iff_iff]; simp
end Go.Ah.Tz
end
section
namespace Go.Ah.Tz
open Go.Proofs.Tryz (prog)
theorem Qb4(f:Int→AVal)(z:AVal)(o:Option Int):lookV true z (o.map f)=.tup [(o.map f).getD z,.bool o.isSome]:=by cases o<;>rfl
theorem XbE{σ:List ABlk}{b:Nat}{row:List AVal}(h:hget σ b=.box [.rptr row 0])(l:List Int)(id:FuncId):Xs σ 1000 [rowV l,.func (.func id) [] [.bptr b 0]]=some ([rowV l,.func (.func id) [] [.rptr [.rptr row 0] 0]],[b]):=by
 show Xs σ (997+1+1+1) _=_;simp[Xs,h,AVal.ro]
attribute [local irreducible] Ans.rd Ans.pu Ans.wr Ans.dr Ans.gr Ans.gw Ans.gl Ans.gd Ans.opt joinK W
set_option maxHeartbeats 4000000
@[reducible] def bkC(b:Bk):List AVal:=[cdV b.cards,foV b.formats]
theorem Zbp(b:Bk)(l:List Int)(hl:l.length≤big)(most:Int){σ:List ABlk}{b4:Nat}(hb:hget σ b4=.box [.rptr (bkC b) 0]){R K:List ABlk→Prop}(hR:Xo b.cards.length l most=false→∀σ',Old σ σ'→R σ')(hK:Xo b.cards.length l most=true→∀σ',Old σ σ'→K σ') :
  VV.wr (Yf [.nils,(.int .i64 0)] [] σ) σ λt11_62 σ=>VV.wr (Qb 2 [t11_62,.agg [rowV l,iv most]] σ) σ λ_ σ=>
  VV.rd (Ya 0 [t11_62] σ) λt88_63=>VV.rd (Xc false 1 [t88_63] σ) λt89_64=>VV.rd (Xe [t89_64] σ) λt90_65=>
  VV.rd (Ya 1 [t11_62] σ) λt91_66=>VV.rd (Xc false 1 [t91_66] σ) λt92_67=>VV.rd (Yh .gtr false [t90_65,t92_67] σ) λt93_68=>
  VV.gr t93_68 false (λk=>VV.rd (Ya 0 [t11_62] σ) k) λt95_69=>VV.gr t93_68 false (λk=>VV.rd (Xc false 1 [t95_69] σ) k) λt96_70=>
  VV.gr t93_68 false (λk=>VV.rd (Yp (.func 186) 0 [.bptr b4 0] σ) k) λt97_71=>VV.gw t93_68 false (λk=>VV.call (.call 185) [t96_70,t97_71] σ k) σ λt98_72 σ=>
  VV.rd (Yi [t93_68,(.bool true),t98_72] σ) λt99_73=>VV.test t99_73 (R σ) (K σ):=by
 refine Qs (row:=[rowV l,iv most]) rfl rfl rfl ?_;have hB:=Yj σ (ABlk.box [rowV l,iv most]);have hb':hget (σ++[ABlk.box [rowV l,iv most]]) b4=.box [.rptr (bkC b) 0]:=Xj _ hb (by simp);have ho:=Old.app σ [ABlk.box [rowV l,iv most]];generalize σ++[ABlk.box [rowV l,iv most]]=τ at hB hb' ho ⊢;generalize σ.length=c at hB ⊢;refine Za rfl (Za (ld hB rfl) (Za (v:=iv l.length) (rd:=[]) (by simp[Qf]) (Za rfl (Za (ld hB rfl) (Za (YD ..) ?_)))));refine QbX (d:=l.any λx=>decide (x<0)||decide ((b.cards.length:Int)≤x)) (λ_=>rfl) (λ_=>ld hB rfl) (λ_=>rfl) (λ_ k hk=>?_) ?_
 ·exact Yy (c185 l hl 186 [] [.rptr [.rptr (bkC b) 0] 0] g186_ok.plain (λx=>decide (x<0)||decide ((b.cards.length:Int)≤x)) (λx _=>c186 b x) (λx=>rfl) rfl) rfl g185_ok.plain (XbE hb' l 186) rfl hk
 have he:=Qbu b.cards.length l most;refine Zc (λh=>hR ?_ _ ho) (λh=>hK ?_ _ ho)
 ·rw[←he,h]; rfl
 ·rw[←he,h]; rfl
theorem Xcv(b:Bk)(next:Int)(u:Th)(met:Bool) :
  (!((((((((met||decide (u.card<0))||decide ((b.cards.length:Int)≤u.card)) || !((b.cards[u.card.toNat]?).getD default).unit)||decide (u.harm<0))||decide (1000000<u.harm))||decide (u.id<1))||decide (next≤u.id))))=(Xw b next u && !met):=by
 rw[Xw];cases met with
 |true=>simp
 |false=>
  by_cases h1:u.card<0
  ·have:¬0≤u.card:=by omega
   simp[h1,this]
  by_cases h2:(b.cards.length:Int)≤u.card
  ·have:¬u.card<b.cards.length:=by omega
   simp[h2,this]
  have e1:0≤u.card:=by omega
  have e2:u.card<b.cards.length:=by omega
  have e3:u.card.toNat<b.cards.length:=by omega
  simp only[h1,h2,e1,e2,decide_true,decide_false,Bool.or_false,Bool.true_and,Bool.not_false,Bool.and_true,Bool.false_or];rw[List.getElem?_eq_getElem e3];simp only[Option.map_some,Option.getD_some];generalize b.cards[u.card.toNat].unit=q;rw[Bool.eq_iff_iff];cases q<;>simp<;>omega
theorem c144(b:Bk)(s:St)(side:Int)(j:Nat)(x:Sd)(hx:SdAt (stC s) j x)(hj:∀σ,Qg 2 8 [.rptr (stC s) (0+7),iv side] σ=.ok (.rptr (stC s) j) [] [])(hs:SdLe 1000000000 x)(ids:List (Int×Int)){m:Nat}{σ:List ABlk}(hm:hget σ m=.map (mpG iv ids)){K:AVal→List ABlk→Prop}
 (hF:(Xm b.cards.length x&&Yr b s.next (ids.map (·.1)) x.units)=false→∀σ',K (.bool false) σ')
 (hT:(Xm b.cards.length x&&Yr b s.next (ids.map (·.1)) x.units)=true→∀σ',Bt m σ σ'→hget σ' m=.map (mpG iv (ids++x.units.map λu=>(u.id,side)))→K (.bool true) σ') :
  g144 VV [.rptr (bkC b) 0,.rptr (stC s) 0,iv side,.map m] σ K:=by
 unfold g144;refine Zh rfl (Zy _ _) ?_;have hB:=Yj σ (ABlk.box [.rptr (bkC b) 0]);have hm':hget (σ++[ABlk.box [.rptr (bkC b) 0]]) m=.map (mpG iv ids):=Xj _ hm (by simp);have ho:=Old.app σ [ABlk.box [.rptr (bkC b) 0]];have hml:=Zo hm (by simp);have hne:m≠σ.length:=by omega
 generalize σ++[ABlk.box [.rptr (bkC b) 0]]=τ at hB hm' ho ⊢;generalize σ.length=c at hB hne ⊢;refine Za rfl (Za rfl (Za (hj _) (Za rfl (Za rfl (Za (ldr hx.h0) ?_)))));refine Yd (c57 _) rfl g57_ok.plain rfl (Za rfl ?_);refine ZaK (λ_=>rfl) (λ_=>rfl) (λ_=>rfl) (λ_=>ldr hx.h1) (λ_=>Xt ..) ?_;refine Za6 (λ_=>rfl) (λ_=>rfl) (λ_=>rfl) (λ_=>ldr hx.h1) (λ_ k hk=>Yd (c57 _) rfl g57_ok.plain rfl hk) (λ_=>rfl) ?_;refine ZaK (λ_=>rfl) (λ_=>rfl) (λ_=>rfl) (λ_=>ldr hx.h2) (λ_=>Xt ..) ?_;refine ZaK (λ_=>rfl) (λ_=>rfl) (λ_=>rfl) (λ_=>ldr hx.h2) (λ_=>YD ..) ?_;refine YaK (λ_=>rfl) (λ_=>rfl) (λ_=>rfl) (λ_=>ldr hx.h6) (v5:=iv x.units.length) (q5:=[]) (λ_=>by simp[Qf]) (λ_=>YD ..) ?_;refine Zc (λh=>hF ?_ _) (λh=>?_)
 ·have:Xm b.cards.length x=false:=by
   rw[Bool.eq_false_iff]; intro hh;simp only[Xm,Bool.and_eq_true,decide_eq_true_eq] at hh;obtain⟨p1,p2,p3,p4,p5,_,_,_,_,p6⟩:=hh;simp only[p1,p3,Bool.not_true,Bool.false_or,Bool.or_false,Bool.or_eq_true,decide_eq_true_eq] at h;omega
  rw[this]; rfl
 simp only[Bool.or_eq_false_iff,Bool.not_eq_false',decide_eq_false_iff_not] at h;obtain⟨⟨⟨⟨⟨p1,p2⟩,p3⟩,p4⟩,p5⟩,p6⟩:=h;have hh:Xm b.cards.length x=(Xo b.cards.length x.deck 60&&(Xo b.cards.length x.hand 10&&(Xo b.cards.length x.grave 1000000&&Xo b.cards.length x.told 1000000))):=by
  have q2:decide (0≤x.mana)=true:=by simp; omega
  have q4:decide (0≤x.most)=true:=by simp; omega
  have q5:decide (x.most≤10)=true:=by simp; omega
  have q6:decide (x.units.length≤7)=true:=by simp; omega
  rw[Xm,p1,p3,q2,q4,q5,q6]; simp
 rw[hh] at hF hT;clear hh p1 p2 p3 p4 p5 p6;refine Za rfl (Za rfl (Za (ldr hx.h3) (Za rfl (Za rfl (Za rfl (Za (ldr hx.h4) (Za rfl (Za rfl (Za rfl (Za (ldr hx.h5) (Za rfl (Za rfl (Za rfl (Za (ldr hx.h7) (Za rfl (Za rfl ?_))))))))))))))));have d1:=hs.deck;have d2:=hs.hand;have d3:=hs.grave;have d4:=hs.told;have d5:=hs.units;refine QH 5 (Ym (Za rfl (Ze (Za rfl ?_))));refine Zbp b x.deck (by rw[bigE]; omega) 60 hB (λh _ _=>hF (by rw[h]; rfl) _) (λa1 σ1 o1=>Za rfl (Ym (Za rfl (Ze (Za rfl ?_)))));refine Zbp b x.hand (by rw[bigE]; omega) 10 (o1.get hB (by simp)) (λh _ _=>hF (by rw[a1,h]; rfl) _) (λa2 σ2 o2=>Za rfl (Ym (Za rfl (Ze (Za rfl ?_)))))
 replace o2:=o1.trans o2
 refine Zbp b x.grave (by rw[bigE]; omega) 1000000 (o2.get hB (by simp)) (λh _ _=>hF (by rw[a1,a2,h]; rfl) _) (λa3 σ3 o3=>Za rfl (Ym (Za rfl (Ze (Za rfl ?_)))))
 replace o3:=o2.trans o3
 refine Zbp b x.told (by rw[bigE]; omega) 1000000 (o3.get hB (by simp)) (λh _ _=>hF (by rw[a1,a2,a3,h]; rfl) _) (λa4 σ4 o4=>Za rfl (Ym (Za rfl (Xi ?_))))
 replace o4:=o3.trans o4
 rw[a1,a2,a3,a4] at hF hT;simp only[Bool.and_self,Bool.true_and] at hF hT;have hB4:=o4.get hB (by simp);have hm4:=o4.get hm' (by simp);have oo:=ho.trans o4;clear o1 o2 o3 o4 ho hB hm' hm;refine Za rfl (Za rfl (Za (ldr hx.h6) (Za (v:=iv x.units.length) (rd:=[]) (by simp[Qf]) ?_)));refine Qi (ι:=Nat) (λi vs τ=>vs=[iv i]∧i≤x.units.length∧hget τ c=.box [.rptr (bkC b) 0]∧hget τ m=.map (mpG iv (ids++(x.units.take i).map λu=>(u.id,side)))∧Bt m σ τ∧Yr b s.next (ids.map (·.1)) x.units=Yr b s.next ((ids++(x.units.take i).map λu=>(u.id,side)).map (·.1)) (x.units.drop i)) (λi=>x.units.length-i) 0
  ⟨rfl,by omega,hB4,by simpa using hm4,⟨oo.1,λc hc _=>oo.2 c hc⟩,by simp⟩ ?_
 clear hB4 hm4 oo;rintro i vs τ1 again ⟨rfl,hi,hB,hm,hbt,hr⟩ hag;refine Za rfl (Zc (λh=>?_) (λh=>?_));rotate_left
 ·have h:i=x.units.length:=by simp at h; omega
  subst h;rw[List.drop_length,Yr] at hr;rw[List.take_length] at hm;exact hT hr _ hbt hm
 have h:i<x.units.length:=by simpa using h
 have hix:=λ(s:List ABlk)=>Zn s thC false false 4 x.units .i64 i h;have htk:=Yw _ _ h;rw[YLD h,Yr] at hr;generalize x.units[i]=u at hix htk hr;generalize hq:ids++(x.units.take i).map (λu=>(u.id,side))=cur at hm hr;have hcur:ids++(x.units.take (i+1)).map (λu=>(u.id,side))=cur++[(u.id,side)]:=by rw[htk,List.map_append,←List.append_assoc,hq]; rfl
 refine Za (hix _) (Za (ldr rfl) (Qs (row:=thC u) (row':=thC u) rfl rfl rfl ?_));have hU:=Yj τ1 (ABlk.box (thC u));have hB':hget (τ1++[ABlk.box (thC u)]) c=.box [.rptr (bkC b) 0]:=Xj _ hB (by simp);have hm':hget (τ1++[ABlk.box (thC u)]) m=.map (mpG iv cur):=Xj _ hm (by simp);have hml':=Zo hm' (by simp);have hbt':Bt m σ (τ1++[ABlk.box (thC u)]):=hbt.trans (Bt.gr m (Old.app _ _).1 (Old.app _ _).2);generalize τ1++[ABlk.box (thC u)]=τ2 at hU hB' hm' hml' hbt' ⊢;generalize τ1.length=d at hU ⊢;refine Za rfl (Za (ld hU rfl) (Za (Xag iv _ _ hm' _) ?_));rw[Qb4];refine Za rfl (Za rfl ?_);refine ZX (λ_=>rfl) (λ_=>ld hU rfl) (λ_=>Xt ..) ?_;refine Yce (λ_=>rfl) (λ_=>ld hU rfl) (λ_=>ld hB' rfl) (λ_=>rfl) (λ_=>rfl) (λ_=>ldr rfl) (v7:=iv b.cards.length) (q7:=[]) (λ_=>by simp[Qf]) (λ_=>Zaa ..) ?_;refine Qcs (d:=!((b.cards[u.card.toNat]?).getD default).unit) (λ_=>ld hB' rfl) (λ_=>rfl) (λ_=>rfl) (λ_=>ldr rfl) (λ_=>rfl) (λ_=>ld hU rfl) (v7:=.rptr (cdC ((b.cards[u.card.toNat]?).getD default)) 0) (q7:=[]) (λhc=>?_) (λ_=>rfl) (λ_=>ldr (cdLd1 _)) (λ_=>rfl) ?_
 ·simp only[Bool.or_eq_false_iff,decide_eq_false_iff_not] at hc;have e3:u.card.toNat<b.cards.length:=by omega
  rw[List.getElem?_eq_getElem e3];exact Ybc _ cdC _ _ _ b.cards _ u.card (by omega) e3
 refine ZX (λ_=>rfl) (λ_=>ld hU rfl) (λ_=>Xt ..) ?_;refine ZX (λ_=>rfl) (λ_=>ld hU rfl) (λ_=>YD ..) ?_;refine ZX (λ_=>rfl) (λ_=>ld hU rfl) (λ_=>Xt ..) ?_;refine Qbs (λ_=>rfl) (λ_=>ld hU rfl) (λ_=>rfl) (λ_=>rfl) (λ_=>rfl) (v6:=iv s.next) (q6:=[]) (λ_=>ldr rfl) (λ_=>Zaa ..) ?_;have hue:=Xcv b s.next u (ilook u.id cur).isSome;have hk:=Yah u.id cur;refine Zc (λh2=>hF ?_ _) (λh2=>?_)
 ·rw[h2] at hue;rw[hr,←hk];have hue:(Xw b s.next u && !(ilook u.id cur).isSome)=false:=hue.symm;cases h5:Xw b s.next u with
  |false=>rfl
  |true=>
   rw[h5] at hue;have:(ilook u.id cur).isSome=true:=by simpa using hue
   rw[this]; rfl
 ·rw[h2] at hue;have hue:(Xw b s.next u && !(ilook u.id cur).isSome)=true:=hue.symm;simp only[Bool.and_eq_true,Bool.not_eq_true'] at hue;have hnone:ilook u.id cur=none:=by
   have:=hue.2;cases h5:ilook u.id cur with
   |none=>rfl
   |some v=>rw[h5] at this; cases this
  rw[hue.1,←hk,hue.2,Bool.not_false,Bool.true_and,Bool.true_and] at hr;refine Za rfl (Za (ld hU rfl) (Zh (QaW iv hm' _ side hnone) (Ys _ hml') (Za (Qj ..) ?_)));rw[Qe (n:=i) (by omega)];refine hag (i+1) _ _ (by omega) ⟨rfl,by omega,Zp hB' (by simp) (λe=>hne e),?_,hbt'.trans ⟨by simp,λc hc hne=>Yq _ hc hne⟩,?_⟩
  ·rw[hcur]; exact Xp _ hml'
  ·rw[hcur,hr,List.map_append]; rfl
end Go.Ah.Tz
end
section
namespace Go.Ah.Tz
open Go.Proofs.Tryz (prog)
theorem YaO(k:Int)(a:Int):∀l:List Th,ilook a (l.map λu=>(u.id,k))=(fnd l a).map λ_=>k
 |[]=>rfl
 |u::l=>by
  have:=YaO k a l;simp only[List.map_cons,ilook,fnd,List.findIdx?_cons];by_cases h:u.id=a
  ·have h2:(a==u.id)=true:=by simp[h]
   simp[h]
  ·have h2:(a==u.id)=false:=by simp; exact λe=>h e.symm
   simp only[h2,Bool.false_eq_true,if_false,decide_eq_false h,this,fnd,Option.map_map];rfl
theorem QbO(s:St)(a:Int):ilook a (s.s0.units.map (λu=>(u.id,(0:Int)))++s.s1.units.map (λu=>(u.id,(1:Int))))=if (unitR s a).2.2=true then some (unitR s a).1 else none:=by
 rw[Yal,YaO,YaO,unitR];cases fnd s.s0.units a with
 |some k=>rfl
 |none=>cases fnd s.s1.units a<;>rfl
attribute [local irreducible] Ans.rd Ans.pu Ans.wr Ans.dr Ans.gr Ans.gw Ans.gl Ans.gd Ans.opt joinK W
set_option maxHeartbeats 4000000
theorem bkLd(b:Bk):partA true 0 2 (bkC b)=some (bkV b):=rfl
theorem Qt{e:Int}{b:Bk}{s:St}{bare:Bool}(h:mayR e b s bare=true):e=0∧1≤s.turn∧s.turn≤4096∧0≤s.mover∧s.mover≤1∧0≤s.phase∧s.phase≤2∧0≤s.result∧s.result≤3∧((s.result==0)==(s.phase != 2))=true∧1≤s.next∧s.next≤1000000∧s.attack.length≤7:=by
 simp only[mayR,Bool.and_eq_true,decide_eq_true_eq] at h;obtain⟨h1,h2,h3,h4,h5,h6,h7,h8,h9,h10,h11,h12,h13,h14⟩:=h;refine⟨h1,h2,h3,h4,h5,h6,h7,h8,h9,h10,h11,h12,?_⟩;by_cases hp:s.phase≠1
 ·rw[if_pos hp] at h14; simp at h14; simp[h14]
 ·rw[if_neg hp] at h14; simp at h14; exact h14.2.2.1
theorem XbO(o:Option Int):lookV true (iv 0) (o.map iv)=.tup [iv (o.getD 0),.bool o.isSome]:=by cases o<;>rfl
theorem YbO(o:Option Bool):lookV false (.bool false) (o.map AVal.bool)=.bool (o.getD false):=by cases o<;>rfl
theorem Qbo(t:Int):∀l:List Int,(ilook t (l.map λa=>(a,true))).getD false=l.contains t
 |[]=>rfl
 |a::l=>by
  simp only[List.map_cons,ilook,List.contains_cons];cases h:t==a with
  |true=>rfl
  |false=>simp only[Bool.false_eq_true,if_false,Bool.false_or]; exact Qbo t l
theorem c111(b:Bk)(hf:bkFit b=true)(hsm:YG b.cards)(s:St)(hs:StLe 1000000000 s)(bare:Bool):PC 111 [.rptr (bkC b) 0,.rptr (stC s) 0,.bool bare] (.bool (mayR (bkR b).1 b s bare)):=by
 have h143:=c143 b hf hsm;generalize (bkR b).1=e at h143 ⊢;generalize (bkR b).2=ep at h143;have hat:=hs.attack;refine Xd hP g111_ok rfl rfl ?_;unfold g111;refine Za rfl (Za rfl (Za (ldr rfl) (Za (Xt ..) ?_)));refine Yk λk4 hk4=>?_;have kbad:(mayR e b s bare=true→False)→k4 [.bool true] []:=by
  intro h; rw[hk4]; refine Ze ?_;rw[Bool.eq_false_iff.2 (λhm=>h hm)]
 apply cutF (R:=k4 [.bool false] []) (1≤s.turn∧s.turn≤4096∧0≤s.mover∧s.mover≤1∧0≤s.phase∧s.phase≤2∧0≤s.result∧s.result≤3∧((s.result==0)==(s.phase != 2))=true∧1≤s.next∧s.next≤1000000∧s.attack.length≤7∧e=0)
 ·intro hR;clear hk4;refine Zc (λh=>by rw[h]; exact kbad (λhm=>by have:=Qt hm; simp at h; omega)) (λb1=>Za rfl (Za rfl (Za (ldr rfl) (Za (YD ..) ?_))));refine Zc (λh=>by rw[h]; exact kbad (λhm=>by have:=Qt hm; simp at h; omega)) (λb2=>Za rfl (Za rfl (Za (ldr rfl) (Za (Xt ..) ?_))));refine Zc (λh=>by rw[h]; exact kbad (λhm=>by have:=Qt hm; simp at h; omega)) (λb3=>Za rfl (Za rfl (Za (ldr rfl) (Za (YD ..) ?_))));refine Zc (λh=>by rw[h]; exact kbad (λhm=>by have:=Qt hm; simp at h; omega)) (λb4=>Za rfl (Za rfl (Za (ldr rfl) (Za (Xt ..) ?_))));refine Zc (λh=>by rw[h]; exact kbad (λhm=>by have:=Qt hm; simp at h; omega)) (λb5=>Za rfl (Za rfl (Za (ldr rfl) (Za (YD ..) ?_))));refine Zc (λh=>by rw[h]; exact kbad (λhm=>by have:=Qt hm; simp at h; omega)) (λb6=>Za rfl (Za rfl (Za (ldr rfl) (Za (Xt ..) ?_))));refine Zc (λh=>by rw[h]; exact kbad (λhm=>by have:=Qt hm; simp at h; omega)) (λb7=>Za rfl (Za rfl (Za (ldr rfl) (Za (YD ..) ?_))));refine Zc (λh=>by rw[h]; exact kbad (λhm=>by have:=Qt hm; simp at h; omega)) (λb8=>Za rfl (Za rfl (Za (ldr rfl) (Za (Zf ..) (Za rfl (Za rfl (Za (ldr rfl) (Za (YF ..) (Za (QcE ..) ?_)))))))));have hx:(!(decide (s.result=0)==decide (s.phase≠2))) = !((s.result==0)==(s.phase != 2)):=by
   congr 1
   have e1:decide (s.result=0)=(s.result==0):=by rw[Bool.eq_iff_iff]; simp
   have e2:decide (s.phase≠2)=(s.phase != 2):=by rw[Bool.eq_iff_iff]; simp
   rw[e1,e2]
  rw[hx];refine Zc (λh=>by rw[h]; exact kbad (λhm=>by have:=(Qt hm).2.2.2.2.2.2.2.2.2.1; rw[this] at h; cases h)) (λb9=>Za rfl (Za rfl (Za (ldr rfl) (Za (Xt ..) ?_))));refine Zc (λh=>by rw[h]; exact kbad (λhm=>by have:=Qt hm; simp at h; omega)) (λb10=>Za rfl (Za rfl (Za (ldr rfl) (Za (YD ..) ?_))));refine Zc (λh=>by rw[h]; exact kbad (λhm=>by have:=Qt hm; simp at h; omega)) (λb11=>Za rfl (Za rfl (Za (ldr rfl) (Za (v:=iv s.attack.length) (rd:=[]) (by simp[Qf]) (Za (YD ..) ?_)))));refine Zc (λh=>by rw[h]; exact kbad (λhm=>by have:=Qt hm; simp at h; omega)) (λb12=>Za rfl (Za (ldr (bkLd b)) ?_));refine Yd h143 rfl g143_ok.plain rfl (Za rfl (Za (YF ..) ?_));by_cases he:e=0
  ·rw[show decide (e≠0)=false by simp[he]];simp at b1 b2 b3 b4 b5 b6 b7 b8 b10 b11 b12;exact hR ⟨by omega,by omega,by omega,by omega,by omega,by omega,by omega,by omega,by simpa using b9,by omega,by omega,by omega,he⟩
  ·rw[show decide (e≠0)=true by simp[he]];exact kbad (λhm=>he (Qt hm).1)
 rintro⟨p1,p2,p3,p4,p5,p6,p7,p8,p9,p10,p11,p12,p13⟩;rw[hk4]; clear hk4 kbad k4;have hmay:mayR e b s bare=(Yu b s&&(if s.phase≠1 then decide (s.attack.length=0) else !(decide (s.attack.length=0) && !bare)&&(s.struck&&attOk s [] s.attack))):=by
  rw[mayR,decide_eq_true p13,decide_eq_true p1,decide_eq_true p2,decide_eq_true p3,decide_eq_true p4,decide_eq_true p5,decide_eq_true p6,decide_eq_true p7,decide_eq_true p8,p9,decide_eq_true p10,decide_eq_true p11,decide_eq_true p12];rfl
 rw[hmay]; clear hmay h143 p1 p2 p3 p4 p5 p6 p7 p8 p9 p10 p11 p13;have w1:IntKind.i64.wrap (0+1)=1:=by decide
 have w2:IntKind.i64.wrap (1+1)=2:=by decide
 refine Xi (Zh rfl rfl (QH 3 (Ym (Za rfl (Ze ?_)))));refine Qy hP rfl g144_ok rfl (c144 b s 0 7 s.s0 (sdAt0 s) (λ_=>rfl) hs.s0 [] (by rfl) (λh σ1=>?_) (λh σ1 t1 m1=>?_))
 ·refine Za rfl (Ze ?_);have h:(Xm b.cards.length s.s0&&Yr b s.next [] s.s0.units)=false:=h;have:Yu b s=false:=by
   rw[Yu,←Bool.and_assoc,h]; rfl
  rw[this]; rfl
 refine Za rfl (Xi (Za rfl ?_));rw[w1];refine Ym (Za rfl (Ze ?_));refine Qy hP rfl g144_ok rfl (c144 b s 1 15 s.s1 (sdAt1 s) (λ_=>rfl) hs.s1 _ m1 (λh2 σ2=>?_) (λh2 σ2 t2 m2=>?_))
 ·refine Za rfl (Ze ?_);have e0:(([]++s.s0.units.map λu=>(u.id,(0:Int))):List (Int×Int)).map (·.1)=s.s0.units.map Th.id:=by simp[Function.comp_def]
  rw[e0] at h2;have:Yu b s=false:=by
   rw[Yu,h2]; simp
  rw[this]; rfl
 have hso:Yu b s=true:=by
  have e0:(([]++s.s0.units.map λu=>(u.id,(0:Int))):List (Int×Int)).map (·.1)=s.s0.units.map Th.id:=by simp[Function.comp_def]
  rw[e0] at h2;have h:(Xm b.cards.length s.s0&&Yr b s.next [] s.s0.units)=true:=h;rw[Yu,←Bool.and_assoc,h,h2]; rfl
 rw[hso,Bool.true_and];clear hso h h2 m1 t1 t2;refine Za rfl (Xi (Za rfl ?_));rw[w2];refine Ym (Za rfl (Xi (Za rfl (Za rfl (Za (ldr rfl) (Za (YF ..) ?_))))));refine Zc (λhp=>?_) (λhp=>?_)
 ·have hp:s.phase≠1:=by simpa using hp
  rw[if_pos hp];refine Za rfl (Za rfl (Za (ldr rfl) (Za (v:=iv s.attack.length) (rd:=[]) (by simp[Qf]) (Za (Zf ..) ?_))))
  congr 1
  rw[Bool.eq_iff_iff]; simp
 have hp:¬s.phase≠1:=by simpa using hp
 rw[if_neg hp];refine Zh rfl (Zy _ _) (Za rfl (Za rfl (Za (ldr rfl) (Za (v:=iv s.attack.length) (rd:=[]) (by simp[Qf]) ?_))));have hnew:hget (σ2++[ABlk.map []]) σ2.length=.map (mpG AVal.bool (([]:List Int).map λa=>(a,true))):=Yj _ _;have hold:=Xj [ABlk.map []] m2 (by simp);have hne:σ2.length≠0:=by have:=Zo m2 (by simp); omega
 generalize σ2++[ABlk.map []]=τ at hnew hold ⊢;generalize σ2.length=mb at hnew hne ⊢;refine Qi (ι:=Nat) (λi vs τ=>vs=[iv i]∧i≤s.attack.length∧hget τ 0=.map (mpG iv (([]++s.s0.units.map λu=>(u.id,(0:Int)))++s.s1.units.map λu=>(u.id,(1:Int))))∧hget τ mb=.map (mpG AVal.bool ((s.attack.take i).map λa=>(a,true)))∧attOk s [] s.attack=attOk s (s.attack.take i) (s.attack.drop i)) (λi=>s.attack.length-i) 0
  ⟨rfl,by omega,hold,by simpa using hnew,by simp⟩ ?_
 clear hnew hold m2;rintro i vs τ1 again ⟨rfl,hi,hm0,hmb,hr⟩ hag;refine Za rfl (Zc (λh=>?_) (λh=>?_));rotate_left
 ·have h:i=s.attack.length:=by simp at h; omega
  subst h;rw[List.drop_length,attOk] at hr;rw[hr,Bool.and_true];refine Za rfl (Za rfl (Za (ldr rfl) ?_));cases hst:s.struck with
  |false=>
   refine Zb rfl (Zb rfl (Qc rfl (Qc rfl (Qc rfl (Qc rfl (Qc rfl (Qc rfl (Zb rfl (Za rfl ?_)))))))));simp
  |true=>
   refine Xa (Za rfl (Xa (Za rfl ?_)));cases bare with
   |true=>
    refine Zb rfl (Zb rfl (Zb rfl (Zb rfl (Zb rfl (Zb rfl (Xa (Za rfl (Za rfl ?_))))))));simp
   |false=>
    refine Xa (Za rfl (Xa (Za rfl (Xa (Za rfl (Xa (Za (ldr rfl) (Xa (Za (v:=iv s.attack.length) (rd:=[]) (by simp[Qf]) (Xa (Za (YD ..) (Xa (Za rfl (Za rfl ?_))))))))))))));show AVal.bool _=_
    congr 1
    rw[Bool.eq_iff_iff];simp[List.length_pos_iff]
 have h:i<s.attack.length:=by simpa using h
 have htk:=Yw _ _ h;rw[YLD h,attOk] at hr;refine Za (Zn _ cel _ _ _ s.attack _ i h) (Za (ldr rfl) (Za (Xag iv _ _ hm0 _) ?_));rw[XbO,List.nil_append,QbO];generalize s.attack[i]=a at htk hr ⊢;generalize ho:(if (unitR s a).2.2=true then some (unitR s a).1 else none)=o;have ho1:o.isSome=(unitR s a).2.2:=by rw[←ho]; cases (unitR s a).2.2<;>rfl
 have ho2:(unitR s a).2.2=true→o.getD 0=(unitR s a).1:=by intro q; rw[←ho,if_pos q]; rfl
 refine Za rfl (Za rfl (Za rfl ?_));refine YaK (λ_=>rfl) (λ_=>rfl) (λ_=>rfl) (λ_=>rfl) (λ_=>ldr rfl) (λ_=>YF ..) ?_;refine ZX (d:=(ilook a ((s.attack.take i).map λa=>(a,true))).getD false) (λ_=>rfl) (λ_=>rfl) (λ_=>by rw[Xag AVal.bool _ _ hmb,YbO]) ?_;have hmet:=Qbo a (s.attack.take i);refine Zc (λh2=>?_) (λh2=>?_)
 ·have:attOk s [] s.attack=false:=by
   rw[hr,Bool.eq_false_iff]; intro q;simp only[Bool.and_eq_true,decide_eq_true_eq,Bool.not_eq_true'] at q;obtain⟨⟨q1,q2⟩,q3,q4⟩:=q;rw[ho1,ho2 q1,q1,q2,hmet,q3] at h2;simp at h2
  rw[this]; simp
 ·simp only[Bool.or_eq_false_iff,Bool.not_eq_false',decide_eq_false_iff_not,Decidable.not_not] at h2;obtain⟨⟨q1,q2⟩,q3⟩:=h2;rw[ho1] at q1;rw[ho2 q1] at q2;have hnone:ilook a ((s.attack.take i).map λa=>(a,true))=none:=by
   have:=Yah a ((s.attack.take i).map λa=>(a,true));simp only[List.map_map,Function.comp_def,List.map_id'] at this;rw[←hmet,q3] at this;cases h5:ilook a ((s.attack.take i).map λa=>(a,true)) with
   |none=>rfl
   |some v=>rw[h5] at this; cases this
  rw[hmet] at q3;rw[q1,q2,q3] at hr;have hml:=Zo hmb (by simp);refine Zh (QaW AVal.bool hmb a true hnone) (Ys _ hml) (Za (Qj ..) ?_);rw[Qe (n:=i) (by omega)];refine hag (i+1) _ _ (by omega) ⟨rfl,by omega,Zp hm0 (by simp) (λe=>hne e),?_,?_⟩
  ·rw[htk,List.map_append]; exact Xp _ hml
  ·rw[htk,hr]; simp
end Go.Ah.Tz
end
section
namespace Go.Ah.Tz
open Go.Proofs.Tryz (prog)
def RI(σ:List ABlk)(rd:List Nat)(v:AVal)(l:List Int):Prop:=Bor (hp σ) rd v (rowV l)
def RT(σ:List ABlk)(rd:List Nat)(v:AVal)(l:List Th):Prop:=Bor (hp σ) rd v (thV l)
theorem ZcA:∀ {l:List Int},∀r∈l.map cel,roL r=true:=by
 intro l r hr;obtain⟨x,_,rfl⟩:=List.mem_map.1 hr; rfl
theorem th_ro:∀ {l:List Th},∀r∈l.map thC,roL r=true:=by
 intro l r hr;obtain⟨x,_,rfl⟩:=List.mem_map.1 hr; rfl
theorem RI.own{σ:List ABlk}{rd:List Nat}{b:Nat}{ex:Bool}{l:List Int}{n:Nat}(hb:hget σ b=.rows 1 (l.map cel))(hin:b∈rd)(hn:n=l.length):RI σ rd (.sl b 0 n ex) l:=
 Bor.own hb hin (by simp[hn]) (XaV _ _ (by simp[hn])) ZcA
theorem RI.nils{σ:List ABlk}{rd:List Nat}:RI σ rd .nils []:=Bor.weak (Bor.ro rfl) (λM u d=>d.nils_rsl 1)
theorem RT.nils{σ:List ABlk}{rd:List Nat}:RT σ rd .nils []:=Bor.weak (Bor.ro rfl) (λM u d=>d.nils_rsl 4)
theorem RT.own{σ:List ABlk}{rd:List Nat}{b:Nat}{ex:Bool}{l:List Th}{n:Nat}(hb:hget σ b=.rows 4 (l.map thC))(hin:b∈rd)(hn:n=l.length):RT σ rd (.sl b 0 n ex) l:=
 Bor.own hb hin (by simp[hn]) (XaV _ _ (by simp[hn])) th_ro
@[reducible] def stQ(s:St)(a d0 h0 g0 u0 t0 d1 h1 g1 u1 t1:AVal):List AVal:=[iv s.turn,iv s.mover,iv8 s.phase,.bool s.struck,iv8 s.result,a,iv s.next,
 iv s.s0.life,iv s.s0.mana,iv s.s0.most,d0,h0,g0,u0,t0,iv s.s1.life,iv s.s1.mana,iv s.s1.most,d1,h1,g1,u1,t1]
def SB(σ:List ABlk)(rd:List Nat)(cs:List AVal)(s:St):Prop:=BorL (hp σ) rd cs (stC s)
theorem SB.mk{σ:List ABlk}{rd:List Nat}{s:St}{a d0 h0 g0 u0 t0 d1 h1 g1 u1 t1:AVal}(x1:RI σ rd a s.attack)(x2:RI σ rd d0 s.s0.deck)(x3:RI σ rd h0 s.s0.hand)(x4:RI σ rd g0 s.s0.grave)(x5:RT σ rd u0 s.s0.units)(x6:RI σ rd t0 s.s0.told)
 (y2:RI σ rd d1 s.s1.deck)(y3:RI σ rd h1 s.s1.hand)(y4:RI σ rd g1 s.s1.grave)(y5:RT σ rd u1 s.s1.units)(y6:RI σ rd t1 s.s1.told):SB σ rd (stQ s a d0 h0 g0 u0 t0 d1 h1 g1 u1 t1) s:=
 .cons (Bor.ro rfl) <| .cons (Bor.ro rfl) <| .cons (Bor.ro rfl) <| .cons (Bor.ro rfl) <| .cons (Bor.ro rfl) <| .cons x1 <| .cons (Bor.ro rfl) <| .cons (Bor.ro rfl) <| .cons (Bor.ro rfl) <| .cons (Bor.ro rfl) <| .cons x2 <| .cons x3 <| .cons x4 <| .cons x5 <| .cons x6 <|
 .cons (Bor.ro rfl) <| .cons (Bor.ro rfl) <| .cons (Bor.ro rfl) <| .cons y2 <| .cons y3 <| .cons y4 <| .cons y5 <| .cons y6 .nil
def zSd:Sd:=⟨0,0,0,[],[],[],[],[]⟩
def zSt:St:=⟨0,0,0,false,0,[],0,zSd,zSd⟩
theorem SB.zero{σ:List ABlk}{rd:List Nat}:SB σ rd (stQ zSt .nils .nils .nils .nils .nils .nils .nils .nils .nils .nils .nils) zSt:=SB.mk .nils .nils .nils .nils .nils .nils .nils .nils .nils .nils .nils
structure Ev where
 kind:Int
 side:Int
 card:Int
 id:Int
 other:Int
 n:Int
 cards:List Int
 deriving DecidableEq,Inhabited
theorem SdLe.mono{n m:Nat}{s:Sd}(h:SdLe n s)(k:n≤m):SdLe m s:=⟨Nat.le_trans h.1 k,Nat.le_trans h.2 k,Nat.le_trans h.3 k,Nat.le_trans h.4 k,Nat.le_trans h.5 k⟩
theorem StLe.mono{n m:Nat}{s:St}(h:StLe n s)(k:n≤m):StLe m s:=⟨Nat.le_trans h.1 k,h.2.mono k,h.3.mono k⟩
def St.side(s:St)(k:Int):Sd:=if k=0 then s.s0 else s.s1
def St.put(s:St)(k:Int)(d:Sd):St:=if k=0 then { s with s0:=d } else { s with s1:=d }
@[reducible] def zStC:List AVal:=stQ zSt .nils .nils .nils .nils .nils .nils .nils .nils .nils .nils .nils
end Go.Ah.Tz
end
section
namespace Go.Ah.Tz
open Go.Proofs.Tryz (prog)
attribute [local irreducible] Ans.rd Ans.pu Ans.wr Ans.dr Ans.gr Ans.gw Ans.gl Ans.gd Ans.opt joinK W
set_option maxHeartbeats 4000000
theorem c118(l:List Th)(hl:l.length≤1000000000)(id:FuncId)(fs cs:List AVal)(hp:Xn prog id=true)(f:Th→Bool)(hc:∀x∈l,PC id (fs++[.agg (thC x)]++cs) (.bool (f x)))(hr:∀x,roL (fs++[.agg (thC x)]++cs)=true) :
  PC 118 [thV l,.func (.func id) fs cs] (iv (idxF f l 0)):=by
 refine Xd hP g118_ok rfl rfl ?_;unfold g118;refine Za (v:=iv l.length) (rd:=[]) (by simp[Qf]) ?_;refine Qi (ι:=Nat) (λi vs s=>vs=[iv i]∧i≤l.length∧idxF f l 0=idxF f (l.drop i) i) (λi=>l.length-i) 0 ⟨rfl,by omega,by simp⟩ ?_;rintro i vs s again ⟨rfl,hi,hr'⟩ hag;refine Za rfl (Zc (λh=>?_) (λh=>?_))
 ·have h:i<l.length:=by simpa using h
  refine Za (Zn _ thC _ _ _ l _ i h) (Za (ldr rfl) ?_);refine Yd (hc _ (List.getElem_mem h)) rfl hp (hr _) ?_;rw[YLD h,idxF] at hr';refine Zc (λh2=>?_) (λh2=>?_)
  ·rw[if_pos h2] at hr'; rw[hr']; rfl
  ·rw[if_neg (by rw[h2]; simp)] at hr';refine Za (Qj ..) ?_;rw[Qe (n:=i) (by omega)];exact hag (i+1) _ _ (by omega) ⟨rfl,by omega,by rw[hr']; push_cast; rfl⟩
 ·have h:i=l.length:=by simp at h; omega
  subst h;rw[List.drop_length,idxF] at hr';rw[hr']
theorem c119(u:Th)(id:Int):PC 119 [.agg (thC u),.rptr [iv id] 0] (.bool (decide (u.id=id))):=by
 refine Xd hP g119_ok rfl rfl ?_;unfold g119;exact Zh rfl rfl (Za rfl (Za (ld rfl rfl) (Za rfl (Za (Zf ..) rfl))))
theorem Ybo(id:Int):∀(l:List Th) (n:Int),idxF (λu:Th=>decide (u.id=id)) l n=match fnd l id with
  |some k=>n+k
  |none=>-1
 |[],n=>rfl
 |u::l,n=>by
  have ih:=Ybo id l (n+1);simp only[idxF,fnd,List.findIdx?_cons] at ih ⊢;by_cases h:u.id=id
  ·simp[h]
  ·simp only[decide_eq_false h,Bool.false_eq_true,if_false,ih];cases List.findIdx? (λu=>decide (u.id=id)) l with
   |none=>rfl
   |some k=>show n+1+(k:Int)=n+((k+1:Nat):Int); omega
theorem c71(s:St)(hs:StLe 1000000000 s)(id:Int):PC 71 [stV s,iv id] (unitV s id):=by
 have h0:=c118 s.s0.units hs.s0.units 119 [] [.rptr [iv id] 0] g119_ok.plain (λu=>decide (u.id=id)) (λx _=>c119 x id) (λx=>rfl);have h1:=c118 s.s1.units hs.s1.units 119 [] [.rptr [iv id] 0] g119_ok.plain (λu=>decide (u.id=id)) (λx _=>c119 x id) (λx=>rfl);have w1:IntKind.i64.wrap (0+1)=1:=by decide
 have w2:IntKind.i64.wrap (1+1)=2:=by decide
 rw[Ybo] at h0 h1;refine Xd hP g71_ok rfl rfl ?_;unfold g71;refine Zh rfl rfl (Zh rfl rfl ?_);refine QH 3 (Ym ?_);refine Za rfl (Ze (Za rfl (Za rfl (Za rfl (Za rfl (Za rfl ?_))))));refine Yy h0 rfl g118_ok.plain rfl rfl ?_;simp only[unitV,unitR];cases q0:fnd s.s0.units id with
 |some k=>
  simp only[q0];refine Za (Zaa ..) ?_;rw[decide_eq_true (by omega)];exact Ze (by simp)
 |none=>
  simp only[q0];refine Za rfl (Xi (Za rfl ?_));rw[w1];refine Ym ?_;refine Za rfl (Ze (Za rfl (Za rfl (Za rfl (Za rfl (Za rfl ?_))))));refine Yy h1 rfl g118_ok.plain rfl rfl ?_;cases q1:fnd s.s1.units id with
  |some k=>
   simp only[q1];refine Za (Zaa ..) ?_;rw[decide_eq_true (by omega)];exact Ze (by simp)
  |none=>
   simp only[q1];refine Za rfl (Xi (Za rfl ?_));rw[w2];refine Ym ?_;exact Za rfl (Xi (by simp))
end Go.Ah.Tz
end
section
namespace Go.Ah.Tz
open Go.Proofs.Tryz (prog)
theorem Xbm{l:List Th}{id:Int}{k:Nat}(h:fnd l id=some k):∃u,l[k]?=some u∧u.id=id:=by
 obtain⟨hk,h2,_⟩:=List.findIdx?_eq_some_iff_getElem.1 h;exact⟨l[k],by simp[hk],by simpa using h2⟩
end Go.Ah.Tz
end
section
namespace Go.Ah.Tz
open Go.Proofs.Tryz (prog)
attribute [local irreducible] Ans.rd Ans.pu Ans.wr Ans.dr Ans.gr Ans.gw Ans.gl Ans.gd Ans.opt joinK W
set_option maxHeartbeats 4000000
theorem c15(s:St):∃q:Bool,PC 15 [stV s] (.bool q):=by
 apply Exists.intro;refine Xd hP g15_ok rfl rfl ?_;unfold g15;refine Zh rfl rfl (Za rfl (Za rfl (Za (v:=iv s.attack.length) (rd:=[]) (by simp[Qf]) ?_)));have w1:IntKind.i64.wrap (0+1)=1:=by decide
 have w2:IntKind.i64.wrap (1+1)=2:=by decide
 refine QH 3 (Ym ?_);refine Za rfl (Ze ?_);refine Za rfl (Za rfl (Za rfl (Zh rfl rfl (Zh rfl rfl ?_))));refine Za rfl (Za rfl (Za (v:=iv s.s0.deck.length) (rd:=[]) (by simp[Qf]) ?_));refine Za rfl (Za rfl (Za (v:=iv s.s0.hand.length) (rd:=[]) (by simp[Qf]) (Za (Qj ..) ?_)));refine Za rfl (Za rfl (Za (v:=iv s.s0.grave.length) (rd:=[]) (by simp[Qf]) (Za (Qj ..) ?_)));refine Za rfl (Za rfl (Za (v:=iv s.s0.units.length) (rd:=[]) (by simp[Qf]) (Za (Qj ..) ?_)));refine Za rfl (Za rfl (Za (v:=iv s.s0.told.length) (rd:=[]) (by simp[Qf]) (Za (Qj ..) ?_)));refine Za (Qj ..) (Za rfl ?_);rw[w1];refine Ym ?_;refine Za rfl (Ze ?_);refine Za rfl (Za rfl (Za rfl (Zh rfl rfl (Zh rfl rfl ?_))));refine Za rfl (Za rfl (Za (v:=iv s.s1.deck.length) (rd:=[]) (by simp[Qf]) ?_));refine Za rfl (Za rfl (Za (v:=iv s.s1.hand.length) (rd:=[]) (by simp[Qf]) (Za (Qj ..) ?_)));refine Za rfl (Za rfl (Za (v:=iv s.s1.grave.length) (rd:=[]) (by simp[Qf]) (Za (Qj ..) ?_)));refine Za rfl (Za rfl (Za (v:=iv s.s1.units.length) (rd:=[]) (by simp[Qf]) (Za (Qj ..) ?_)));refine Za rfl (Za rfl (Za (v:=iv s.s1.told.length) (rd:=[]) (by simp[Qf]) (Za (Qj ..) ?_)));refine Za (Qj ..) (Za rfl ?_);rw[w2];refine Ym ?_;exact Za rfl (Xi (Za (YD ..) rfl))
theorem c52(cs:List Cd)(hf:XI cs=true)(σ:List ABlk)(K:AVal→List ABlk→Prop)(hK:∀q,K (.bool q) σ):g52 VV [cdV cs] σ K:=by
 simp only[XI,Bool.and_eq_true,decide_eq_true_eq] at hf;obtain⟨f0,f1⟩:=hf;rw[bigE] at f0;have hlen:∀τ,Xe [cdV cs] τ=.ok (iv cs.length) [] []:=λτ=>by simp[Qf]
 unfold g52;refine Za (hlen _) ?_;refine Qi (ι:=Nat) (λi vs τ=>(∃a:Int,vs=[iv i,iv a])∧τ=σ∧i≤cs.length) (λi=>cs.length-i) 0 ⟨⟨0,rfl⟩,rfl,by omega⟩ ?_;rintro i vs τ again ⟨⟨a,rfl⟩,rfl,hi⟩ hag;refine Za rfl (Zc (λh=>?_) (λh=>?_))
 ·have h:i<cs.length:=by simpa using h
  have hfc:cdFit cs[i]=true:=List.all_eq_true.1 f1 _ (List.getElem_mem h);have hix:=Zn τ cdC false false 12 cs .i64 i h;generalize cs[i]=c at hfc hix;simp only[cdFit,Bool.and_eq_true] at hfc;refine Za hix (Za (ldr (cdLd _)) ?_);refine Yd (c110 c hfc.2.1 hfc.2.2.1 hfc.2.2.2) rfl g110_ok.plain rfl (Za (Qj ..) (Za (YD ..) ?_));refine Qbs (λ_=>rfl) (λ_=>rfl) (λ_=>hix) (λ_=>rfl) (λ_=>ldr (cdLd0 _)) (λ_=>rfl) (λ_=>YD ..) ?_;have nxt:VV.rd (Yh .add false [iv i,(.int .i64 1)] τ) λt37_25=>again [t37_25,iv (IntKind.i64.wrap (a+(min (efsW 0 c.played+efsW 0 c.dead+efsW 0 c.dawn) 1073741824)))] τ:=by
   refine Za (Qj ..) ?_;rw[Qe (n:=i) (by omega)];exact hag (i+1) _ _ (by omega) ⟨⟨_,rfl⟩,rfl,by omega⟩
  generalize (_||_:Bool)=q;cases q with
  |true=>
   refine Zb rfl (Zb rfl (Zb rfl ?_));refine Qc rfl (Qc rfl (Qc rfl (Zb rfl (Za rfl ?_))));exact Ze (hK _)
  |false=>
   refine Xa (Za rfl (Xa (Za (YD ..) (Xa (Za rfl ?_)))));generalize decide ((60:Int)<(i:Int))=q2;cases q2 with
   |true=>
    refine Xa (Za rfl (Xa (Za (hlen _) (Xa (Za (Xb3 ..) (Xa (Za rfl (Za rfl ?_))))))));exact Zc (λ_=>hK _) (λ_=>nxt)
   |false=>
    refine Zb rfl (Zb rfl (Zb rfl (Xa (Za rfl (Za rfl ?_)))));exact Xi nxt
 ·refine Za (hlen _) (Za (YD ..) ?_);exact hK _
theorem c14(b:Bk)(hf:bkFit b=true)(σ:List ABlk)(K:AVal→List ABlk→Prop)(hK:∀q,K (.bool q) (σ++[.box (bkC b)])):g14 VV [bkV b] σ K:=by
 simp only[bkFit,Bool.and_eq_true,decide_eq_true_eq] at hf;obtain⟨f0,f1,f2⟩:=hf;rw[bigE] at f1;unfold g14;refine Zh (v:=.bptr σ.length 0) (rd:=[]) (up:=[(σ.length,.box (bkC b))]) rfl (Zy _ _) ?_;have hB:=Yj σ (.box (bkC b));generalize σ.length=n at hB ⊢;generalize σ++[ABlk.box (bkC b)]=τ at hB hK ⊢;refine Za rfl (Za (ld hB rfl) (Za (v:=iv b.formats.length) (rd:=[]) (by simp[Qf]) ?_));refine Qi (ι:=Nat) (λi vs τ'=>(∃a:Int,vs=[iv i,iv a])∧τ'=τ∧i≤b.formats.length) (λi=>b.formats.length-i) 0 ⟨⟨0,rfl⟩,rfl,by omega⟩ ?_;rintro i vs τ' again ⟨⟨a,rfl⟩,rfl,hi⟩ hag;refine Za rfl (Zc (λh=>?_) (λh=>?_))
 ·have h:i<b.formats.length:=by simpa using h
  have hix:=Zn τ' foC false false 7 b.formats .i64 i h;generalize b.formats[i]=f at hix;refine Za rfl (Za (ld hB rfl) (Za hix (Za rfl (Za (v:=txV f.banned) (rd:=[]) (ldr rfl) (Za (v:=iv f.banned.length) (rd:=[]) (by simp[Qf]) (Za (Qj ..) ?_))))));refine Za rfl (Za (ld hB rfl) (Za hix (Za rfl (Za (v:=txV f.single) (rd:=[]) (ldr rfl) (Za (v:=iv f.single.length) (rd:=[]) (by simp[Qf]) (Za (Qj ..) ?_))))));refine Za (Qj ..) (Za (Qj ..) ?_);rw[Qe (n:=i) (by omega)];exact hag (i+1) _ _ (by omega) ⟨⟨_,rfl⟩,rfl,by omega⟩
 ·refine Za (YD ..) ?_;generalize decide ((600:Int)<a)=q;cases q with
  |true=>
   refine Zb rfl (Zb rfl (Yc rfl (Za rfl ?_)));exact hK _
  |false=>
   refine Xa (Za rfl (Xa (Za (ld hB rfl) (Xb ?_))));refine Qy hP rfl g52_ok rfl (c52 b.cards f0 _ _ (λq=>Za rfl ?_));exact hK _
end Go.Ah.Tz
end
section
namespace Go.Ah.Tz
open Go.Proofs.Tryz (prog)
theorem Qas{e:Int}{b:Bk}{s:St}(h:mayR e b s false=true):mayR e b s true=true:=by
 simp only[mayR,Bool.and_eq_true] at h ⊢;obtain⟨h1,h2,h3,h4,h5,h6,h7,h8,h9,h10,h11,h12,h13,h14⟩:=h;refine⟨h1,h2,h3,h4,h5,h6,h7,h8,h9,h10,h11,h12,h13,?_⟩;by_cases hp:s.phase≠1
 ·rw[if_pos hp] at h14 ⊢; exact h14
 ·rw[if_neg hp] at h14 ⊢;simp only[Bool.and_eq_true] at h14 ⊢;exact⟨by simp,h14.2⟩
theorem ldp{σ:List ABlk}{b i j n sz:Nat}{agg:Bool}{rs:List (List AVal)}{row:List AVal}{v:AVal}(hb:hget σ b=.rows sz rs)(hi:rs[i]?=some row)(hv:partA agg j n row=some v):Xc agg n [.ptr b i j] σ=.ok v [b] []:=by
 show (match hget σ b with
   |.rows _ rs=>match nth rs i with
    |some row=>match partA agg j n row with
     |some v=>SRes.ok v [b] []
     |none=>.stop
    |none=>.stop
   | _=>.stop)=_
 rw[hb];simp only[XW,hi,hv]
theorem Gr.ri{σ0 σ:List ABlk}{l:List Int}{v:AVal}(h:Gr σ0 1 (l.map cel) l.length v σ):∃rd,RI σ rd v l:=by
 rcases h.2.2 with ⟨h1,h2,_⟩|⟨_,b,_,h2,h3,_⟩
 ·have:l=[]:=List.length_eq_zero_iff.1 h1;subst this; subst h2;exact⟨[],RI.nils⟩
 ·subst h2;exact⟨[b],RI.own h3 (by simp) rfl⟩
end Go.Ah.Tz
end
section
namespace Go.Ah.Tz
open Go.Proofs.Tryz (prog)
attribute [local irreducible] Ans.rd Ans.pu Ans.wr Ans.dr Ans.gr Ans.gw Ans.gl Ans.gd Ans.opt joinK W
set_option maxHeartbeats 4000000
theorem Qbk{σ:List ABlk}{b m:Nat}{L:List Int}(hb:hget σ b=.rows 1 (L.map cel))(hm:m<L.length)(x:Int):Qb 1 [.ptr b m 0,iv x] σ=.ok .junk [] [(b,.rows 1 ((L.set m x).map cel))]:=by
 have hl:m<(L.map cel).length:=by simpa using hm
 have h1:nth (L.map cel) m=some (cel L[m]):=by rw[XW,List.getElem?_map,List.getElem?_eq_getElem hm]; rfl
 have h2:QD m [iv x] (L.map cel)=some ((L.set m x).map cel):=by
  rw[XaB hl,List.map_set]; rfl
 show (match hget σ b with
   |.rows sz rs=>match nth rs m with
    |some row=>match cellsOf (iv x) with
     | some cs=>bif Nat.beq cs.length 1 then (match splice 0 cs row with
      |some row'=>match QD m row' rs with
       |some rs'=>SRes.ok .junk [] [(b,.rows sz rs')]
       |none=>.stop
      | none=>.stop) else .stop
     |none=>.stop
    |none=>.stop
   | _=>.stop)=_
 rw[hb];simp only[h1];show (match QD m [iv x] (L.map cel) with
  |some rs'=>SRes.ok .junk [] [(b,.rows 1 rs')]
  | none=>.stop)=_
 rw[h2]
end Go.Ah.Tz
end
section
namespace Go.Ah.Tz
open Go.Proofs.Tryz (prog)
abbrev YcA(x:St)(g0 g1:Nat):List AVal:=[iv x.turn,iv x.mover,iv8 x.phase,.bool x.struck,iv8 x.result,.sl 3 0 x.attack.length false,iv x.next,iv x.s0.life,iv x.s0.mana,iv x.s0.most,.sl 4 0 x.s0.deck.length false,.sl 5 0 x.s0.hand.length false,.sl g0 0 x.s0.grave.length false,.sl 7 0 x.s0.units.length false,.sl 8 0 x.s0.told.length false,iv x.s1.life,iv x.s1.mana,iv x.s1.most,.sl 9 0 x.s1.deck.length false,.sl 10 0 x.s1.hand.length false,.sl g1 0 x.s1.grave.length false,.sl 12 0 x.s1.units.length false,.sl 13 0 x.s1.told.length false]
def Agr(τ τ':List ABlk)(ex:List Nat):Prop:=τ.length≤τ'.length∧∀c,c<τ.length→c∉ex→hget τ' c=hget τ c
theorem Agr.get{a b:List ABlk}{e:List Nat}(h:Agr a b e){c:Nat}{x:ABlk}(hx:hget a c=x)(hd:x≠.dead)(hn:c∉e):hget b c=x:=by
 rw[h.2 c (Zo hx hd) hn]; exact hx
structure BMem (b:Bk) (s x:St) (g0 g1:Nat) (τ:List ABlk):Prop where
 k0:hget τ 0=.box (bkC b)
 k1:hget τ 1=.box (stC s)
 k2:hget τ 2=.box zStC
 mv:hget τ 14=.box (.bptr 0 0::YcA x g0 g1)
 at_:∃r,hget τ 3=.rows 1 ((x.attack++r).map cel)
 r4:hget τ 4=.rows 1 (x.s0.deck.map cel)
 r5:hget τ 5=.rows 1 (x.s0.hand.map cel)
 gr0:hget τ g0=.rows 1 (x.s0.grave.map cel)
 r7:∃r,hget τ 7=.rows 4 ((x.s0.units++r).map thC)
 r8:hget τ 8=.rows 1 (x.s0.told.map cel)
 r9:hget τ 9=.rows 1 (x.s1.deck.map cel)
 r10:hget τ 10=.rows 1 (x.s1.hand.map cel)
 gr1:hget τ g1=.rows 1 (x.s1.grave.map cel)
 r12:∃r,hget τ 12=.rows 4 ((x.s1.units++r).map thC)
 r13:hget τ 13=.rows 1 (x.s1.told.map cel)
 n0:g0=6∨15≤g0
 n1:g1=11∨15≤g1
 ne:g0≠g1
end Go.Ah.Tz
end
section
namespace Go.Ah.Tz
theorem Zu{n:Nat}{l:List Int}{most:Int}:Xo n l most=true↔(l.length:Int)≤most∧∀c∈l,0≤c∧c<n:=by
 simp[Xo,List.all_eq_true]
structure SideP (b:Bk) (x:Sd):Prop where
 life:wIn x.life=true
 mana:0≤x.mana∧wIn x.mana=true
 most:0≤x.most∧x.most≤10
 deck:Xo b.cards.length x.deck 60=true
 hand:Xo b.cards.length x.hand 10=true
 grave:Xo b.cards.length x.grave 1000000=true
 told:Xo b.cards.length x.told 1000000=true
 units:x.units.length≤7
theorem ZbW{b:Bk}{x:Sd}:Xm b.cards.length x=true↔SideP b x:=by
 simp only[Xm,Bool.and_eq_true,decide_eq_true_eq];constructor
 ·rintro⟨h1,h2,h3,h4,h5,h6,h7,h8,h9,h10⟩;exact⟨h1,⟨h2,h3⟩,⟨h4,h5⟩,h6,h7,h8,h9,by omega⟩
 ·rintro⟨h1,⟨h2,h3⟩,⟨h4,h5⟩,h6,h7,h8,h9,h10⟩;exact⟨h1,h2,h3,h4,h5,h6,h7,h8,h9,by omega⟩
theorem Zac{b:Bk}{next:Int}:∀ {l:List Th} {ids:List Int},Yr b next ids l=true↔(∀u∈l,Xw b next u=true)∧(l.map Th.id).Nodup∧∀u∈l,u.id∉ids
 |[],ids=>by simp[Yr]
 |u::l,ids=>by
  simp only[Yr,Bool.and_eq_true,Zac (l:=l),Bool.not_eq_true',List.map_cons,List.nodup_cons,List.mem_cons,forall_eq_or_imp,List.mem_append,not_or];have hc:ids.contains u.id=false↔u.id∉ids:=by simp
  rw[hc];constructor
  ·rintro⟨h1,h2,h3,h4,h5⟩;refine⟨⟨h1,h3⟩,⟨?_,h4⟩,h2,λv hv=>(h5 v hv).1⟩;intro hm;obtain⟨v,hv,e⟩:=List.mem_map.1 hm;exact(h5 v hv).2.1 e
  ·rintro⟨⟨h1,h3⟩,⟨h6,h4⟩,h2,h5⟩;exact⟨h1,h2,h3,h4,λv hv=>⟨h5 v hv,λe=>h6 (List.mem_map.2 ⟨v,hv,e⟩),by simp⟩⟩
def UnP(b:Bk)(s:St):Prop:=(∀u∈s.s0.units++s.s1.units,Xw b s.next u=true)∧((s.s0.units++s.s1.units).map Th.id).Nodup
theorem XbZ{b:Bk}{s:St}:(Yr b s.next [] s.s0.units=true∧Yr b s.next (s.s0.units.map Th.id) s.s1.units=true)↔UnP b s:=by
 rw[Zac,Zac,UnP,List.map_append,List.nodup_append];constructor
 ·rintro⟨⟨h1,h2,_⟩,h3,h4,h5⟩;refine⟨λu hu=>?_,h2,h4,λa ha c hc e=>?_⟩
  ·rcases List.mem_append.1 hu with hu|hu
   ·exact h1 u hu
   ·exact h3 u hu
  ·subst e;obtain⟨v,hv,rfl⟩:=List.mem_map.1 hc;exact h5 v hv ha
 ·rintro⟨h1,h2,h3,h4⟩;refine⟨⟨λu hu=>h1 u (List.mem_append_left _ hu),h2,by simp⟩,λu hu=>h1 u (List.mem_append_right _ hu),h3,λu hu hm=>h4 _ hm _ (List.mem_map.2 ⟨u,hu,rfl⟩) rfl⟩
theorem Qau{s:St}:∀ {l prev:List Int},attOk s prev l=true↔(∀a∈l,(unitR s a).2.2=true∧(unitR s a).1=s.mover)∧l.Nodup∧∀a∈l,a∉prev
 |[],prev=>by simp[attOk]
 |a::l,prev=>by
  simp only[attOk,Bool.and_eq_true,Qau (l:=l),decide_eq_true_eq,Bool.not_eq_true',List.nodup_cons,List.mem_cons,forall_eq_or_imp,List.mem_append,not_or];have hc:prev.contains a=false↔a∉prev:=by simp
  rw[hc];constructor
  ·rintro⟨h1,h2,h3,h4,h5⟩;exact⟨⟨h1,h3⟩,⟨λhm=>(h5 a hm).2.1 rfl,h4⟩,h2,λc hc=>(h5 c hc).1⟩
  ·rintro⟨⟨h1,h3⟩,⟨h6,h4⟩,h2,h5⟩;exact⟨h1,h2,h3,h4,λc hc=>⟨h5 c hc,λe=>h6 (e▸hc),by simp⟩⟩
def AtP(s:St):Prop:=(s.phase≠1→s.attack=[])∧(s.phase=1→s.struck=true∧s.attack.length≤7∧s.attack.Nodup∧∀a∈s.attack,(unitR s a).2.2=true∧(unitR s a).1=s.mover)
def HdP(s:St):Prop:=1≤s.turn∧s.turn≤4096∧0≤s.mover∧s.mover≤1∧0≤s.phase∧s.phase≤2∧0≤s.result∧s.result≤3∧((s.result==0)==(s.phase != 2))=true∧1≤s.next∧s.next≤1000000
structure MayP (b:Bk) (s:St):Prop where
 hd:HdP s
 s0:SideP b s.s0
 s1:SideP b s.s1
 un:UnP b s
 at_:AtP s
theorem XaO{e:Int}{b:Bk}{s:St}:mayR e b s true=true↔e=0∧MayP b s:=by
 simp only[mayR,Yu,Bool.and_eq_true,decide_eq_true_eq,ZbW];constructor
 ·rintro⟨h1,h2,h3,h4,h5,h6,h7,h8,h9,h10,h11,h12,⟨k1,k2,k3,k4⟩,h14⟩;refine⟨h1,⟨h2,h3,h4,h5,h6,h7,h8,h9,h10,h11,h12⟩,k1,k3,XbZ.1 ⟨k2,k4⟩,?_,?_⟩
  ·intro hp;rw[if_pos hp] at h14;exact List.length_eq_zero_iff.1 (of_decide_eq_true h14)
  ·intro hp;rw[if_neg (by simpa using hp)] at h14;simp only[Bool.and_eq_true,decide_eq_true_eq] at h14;obtain⟨_,q1,q2,q3⟩:=h14;obtain⟨r1,r2,_⟩:=Qau.1 q3;exact⟨q1,by omega,r2,r1⟩
 ·rintro⟨h1,⟨h2,h3,h4,h5,h6,h7,h8,h9,h10,h11,h12⟩,k1,k3,hu,ha1,ha2⟩;obtain⟨k2,k4⟩:=XbZ.2 hu;refine⟨h1,h2,h3,h4,h5,h6,h7,h8,h9,h10,h11,h12,⟨k1,k2,k3,k4⟩,?_⟩;by_cases hp:s.phase≠1
  ·rw[if_pos hp,ha1 hp]; rfl
  ·rw[if_neg hp];obtain⟨q1,q2,q3,q4⟩:=ha2 (by simpa using hp);simp only[Bool.and_eq_true,decide_eq_true_eq];exact⟨by simp,q1,by omega,Qau.2 ⟨q4,q3,by simp⟩⟩
end Go.Ah.Tz
end
section
namespace Go.Ah.Tz
open Go.Proofs.Tryz (prog)
structure Kp (b:Bk) (s:St) (τ:List ABlk) (n:Nat):Prop where
 len:τ.length=n
 lo:15≤n
 h0:hget τ 0=.box (bkC b)
 h1:hget τ 1=.box (stC s)
 hc:hget τ 14=.box (stO s 3)
 kk:∀i x,(stB s)[i]?=some x→hget τ (3+i)=x
end Go.Ah.Tz
end
section
namespace Go.Ah.Tz
open Go.Proofs.Tryz (prog)
open Go.Proofs.YtflcpnaigpgciaaGreatDoor.Rows (uptoBulk uptoBulkAll)
variable {H:Type}
theorem ZN(b:List UInt8):uptoBulk (DataW.lit (H:=H) (.string b))=b.length+1:=by simp only[uptoBulk]
theorem XK(ds:List (DataW H)):uptoBulk (.agg ds)=uptoBulkAll ds+1:=by simp only[uptoBulk]
theorem Ycl(es sp:List (DataW H)):uptoBulk (.slice es sp)=uptoBulkAll es+uptoBulkAll sp+1:=by simp only[uptoBulk]
theorem Qx(d:DataW H)(ds:List (DataW H)):uptoBulkAll (d::ds)=uptoBulk d+uptoBulkAll ds:=by simp only[uptoBulkAll]
theorem Xb2(d:DataW H):1≤uptoBulk d:=by
 cases d with
 |lit l=>cases l<;>simp[uptoBulk]
 |_=>simp[uptoBulk]
def Zs(P:Program)(t:TypeId):Option (List TypeId):=match P.underlying t with
 |some (.struct fs)=>some (fs.toList.map (·.type))
 |_=>none
theorem ZI{P:Program}{fuel:Nat}{t:TypeId}{xs:List AVal}{d:DataW H}{ts:List TypeId}(h:Typed P fuel t xs d)(hs:Zs P t=some ts):∃f parts ds,fuel=f+1∧xs=parts.flatten∧d=.agg ds∧Tri (Typed P f) ts parts ds:=by
 cases fuel with
 |zero=>exact h.elim
 |succ f=>
  unfold Typed at h;unfold Zs at hs;split at hs
  ·rename_i fs e;rw[e] at h;cases hs;obtain⟨parts,ds,h1,h2,h3⟩:=h;exact⟨f,parts,ds,rfl,h1,h2,h3⟩
  ·cases hs
theorem Qu{P:Program}{fuel:Nat}{t:TypeId}{xs:List AVal}{d:DataW H}{k:IntKind}(h:Typed P fuel t xs d)(hu:P.underlying t=some (.int k)):∃n,xs=[.int k n]∧(Lit.int k n).wf=true∧d=.lit (.int k n):=by
 cases fuel with
 |zero=>exact h.elim
 |succ f=>unfold Typed at h; rw[hu] at h; exact h
theorem Ybg{P:Program}{fuel:Nat}{t:TypeId}{xs:List AVal}{d:DataW H}(h:Typed P fuel t xs d)(hu:P.underlying t=some .bool):∃b,xs=[.bool b]∧d=.lit (.bool b):=by
 cases fuel with
 |zero=>exact h.elim
 |succ f=>unfold Typed at h; rw[hu] at h; exact h
theorem Za8{P:Program}{fuel:Nat}{t:TypeId}{xs:List AVal}{d:DataW H}(h:Typed P fuel t xs d)(hu:P.underlying t=some .string):∃s,xs=[.str s]∧d=.lit (.string s):=by
 cases fuel with
 |zero=>exact h.elim
 |succ f=>unfold Typed at h; rw[hu] at h; exact h
theorem ZbZ{P:Program}{fuel:Nat}{e:TypeId}{X:Type}(toC:X→List AVal)(m:X→Nat)(Q:X→Prop){B:Nat}(hx:∀xs (d:DataW H),Typed P fuel e xs d→uptoBulk d≤B→∃x,xs=toC x∧Q x∧m x≤uptoBulk d) :
  ∀ {rows:List (List AVal)} {es:List (DataW H)},Two (Typed P fuel e) rows es→uptoBulkAll es≤B→∃l:List X,rows=l.map toC∧(∀x∈l,Q x)∧(l.map m).sum≤uptoBulkAll es∧l.length≤uptoBulkAll es
 |[],[],_,_=>⟨[],rfl,by simp,by simp,by simp⟩
 |r::rows,d::es,h,hb=>by
  rw[Qx] at hb;obtain⟨x,e1,q1,m1⟩:=hx r d h.1 (by omega);obtain⟨l,e2,q2,s2,l2⟩:=ZbZ toC m Q hx h.2 (by omega);refine⟨x::l,by rw[e1,e2]; rfl,λy hy=>?_,?_,?_⟩
  ·rcases List.mem_cons.1 hy with rfl|hy
   ·exact q1
   ·exact q2 y hy
  ·rw[List.map_cons,List.sum_cons,Qx]; omega
  ·have:=Xb2 d;rw[List.length_cons,Qx]; omega
 |[],_::_,h,_=>h.elim
 |_::_,[],h,_=>h.elim
theorem QE{P:Program}{fuel:Nat}{t e:TypeId}{n:Nat}{xs:List AVal}{d:DataW H}{X:Type}(toC:X→List AVal)(m:X→Nat)(Q:X→Prop){B:Nat}(h:Typed P fuel t xs d)(hu:P.underlying t=some (.slice e))(hn:P.cellsOf e=n)
 (hx:∀f,f<fuel→∀xs (d:DataW H),Typed P f e xs d→uptoBulk d≤B→∃x,xs=toC x∧Q x∧m x≤uptoBulk d)(hb:uptoBulk d≤B) :
  ∃l:List X,xs=[.rsl false false n (l.map toC)]∧(∀x∈l,Q x)∧(l.map m).sum≤uptoBulk d∧l.length≤uptoBulk d:=by
 cases fuel with
 |zero=>exact h.elim
 |succ f=>
  unfold Typed at h;rw[hu] at h;subst hn;obtain⟨rows,rfl,⟨rfl,rfl⟩|⟨es,sp,rfl,h2⟩⟩:=h
  ·exact⟨[],rfl,by simp,by simp,by simp⟩
  ·rw[Ycl] at hb ⊢;obtain⟨l,rfl,q,s,k⟩:=ZbZ toC m Q (hx f (by omega)) h2 (by omega);exact⟨l,rfl,q,by omega,by omega⟩
theorem Zcv{P:Program}{fuel:Nat}{t e:TypeId}{xs:List AVal}{d:DataW H}(h:Typed P fuel t xs d)(hu:P.underlying t=some (.array 2 e)):∃f p q a b,fuel=f+1∧xs=p++q∧d=.agg [a,b]∧Typed P f e p a∧Typed P f e q b:=by
 cases fuel with
 |zero=>exact h.elim
 |succ f=>
  unfold Typed at h;rw[hu] at h;obtain⟨parts,ds,rfl,rfl,hl,h2⟩:=h
  match parts,hl,h2 with
  |[p,q],_,h2=>
   obtain⟨a,ds,rfl,ha,h2⟩:=h2.cons;obtain⟨b,ds,rfl,hb,h2⟩:=h2.cons
   match ds,h2 with
   |[],_=>exact⟨f,p,q,a,b,rfl,by simp,rfl,ha,hb⟩
theorem wf8{n:Int}(h:(Lit.int .i8 n).wf=true):i8B n=true:=by
 have h1:IntKind.i8.min = -128:=by decide
 have h2:IntKind.i8.max=127:=by decide
 simp only[Lit.wf,h1,h2] at h;exact h
theorem wf64{n:Int}(h:(Lit.int .i64 n).wf=true):i64B n=true:=by
 have h1:IntKind.i64.min = -9223372036854775808:=by decide
 have h2:IntKind.i64.max=9223372036854775807:=by decide
 simp only[Lit.wf,h1,h2] at h;exact h
theorem Ya1{l:List Nm}(h:∀x∈l,nmFit x=true):Qay l=true:=by
 induction l with
 |nil=>rfl
 |cons x l ih=>simp only[Qay,Bool.and_eq_true]; exact⟨h x (List.mem_cons_self ..),ih λy hy=>h y (List.mem_cons_of_mem _ hy)⟩
theorem ZbH{l:List Cn}(h:∀x∈l,cnFit x=true):QaD l=true:=by
 induction l with
 |nil=>rfl
 |cons x l ih=>simp only[QaD,Bool.and_eq_true]; exact⟨h x (List.mem_cons_self ..),ih λy hy=>h y (List.mem_cons_of_mem _ hy)⟩
theorem Yaw{l:List Ef}(h:∀x∈l,efFit x=true):Yak l=true:=by
 induction l with
 |nil=>rfl
 |cons x l ih=>simp only[Yak,Bool.and_eq_true]; exact⟨h x (List.mem_cons_self ..),ih λy hy=>h y (List.mem_cons_of_mem _ hy)⟩
theorem ZaP:∀l:List Nm,(nmPs l).length=(l.map λx=>(nmP x).length).sum
 |[]=>rfl
 |x::l=>by simp only[nmPs,List.length_append,List.map_cons,List.sum_cons,ZaP l]
theorem Ybj:∀l:List Cn,(cnPs l).length=(l.map λx=>(cnP x).length).sum
 |[]=>rfl
 |x::l=>by simp only[cnPs,List.length_append,List.map_cons,List.sum_cons,Ybj l]
theorem Yar:∀l:List Ef,(efPs l).length=(l.map λx=>(efP x).length).sum
 |[]=>rfl
 |x::l=>by simp only[efPs,List.length_append,List.map_cons,List.sum_cons,Yar l]
theorem bigLe{n k:Nat}(h:n≤k)(hk:k≤1048576):decide (n≤big)=true:=decide_eq_true (Nat.le_trans h (Nat.le_trans hk (by decide)))
abbrev Zb0:TypeId:=26
abbrev ZD:TypeId:=3
abbrev Qa6:TypeId:=4
abbrev ZaS:TypeId:=9
abbrev Ycw:TypeId:=64
abbrev Xb9:TypeId:=62
abbrev Zcw:TypeId:=137
abbrev Xct:TypeId:=135
abbrev YcJ:TypeId:=192
abbrev Za7:TypeId:=80
abbrev ZcJ:TypeId:=82
abbrev Yct:TypeId:=22
abbrev XcJ:TypeId:=96
abbrev Qct:TypeId:=23
abbrev Qb9:TypeId:=94
abbrev YbY:TypeId:=25
abbrev ZcK:TypeId:=51
abbrev Ycu:TypeId:=28
abbrev Xao:TypeId:=27
abbrev QcN:TypeId:=30
abbrev Zcu:TypeId:=31
abbrev XbY:TypeId:=33
theorem Xce:prog.underlying Zb0=some (.int .i8):=by kernel_rfl
theorem ZS:prog.underlying ZD=some (.int .i64):=by kernel_rfl
theorem Ya8:prog.underlying Qa6=some .bool:=by kernel_rfl
theorem YbZ:prog.underlying ZaS=some .string:=by kernel_rfl
theorem QcL:prog.underlying Xb9=some (.slice Ycw):=by kernel_rfl
theorem u_cns:prog.underlying Xct=some (.slice Zcw):=by kernel_rfl
theorem Ycv:prog.underlying Za7=some (.slice YcJ):=by kernel_rfl
theorem u_cds:prog.underlying Yct=some (.slice ZcJ):=by kernel_rfl
theorem u_fos:prog.underlying Qct=some (.slice XcJ):=by kernel_rfl
theorem ZcM:prog.underlying Qb9=some (.slice ZaS):=by kernel_rfl
theorem u_ths:prog.underlying Ycu=some (.slice ZcK):=by kernel_rfl
theorem XcL:prog.underlying Xao=some (.slice ZD):=by kernel_rfl
theorem u_sds:prog.underlying Zcu=some (.array 2 QcN):=by kernel_rfl
theorem n_nm:prog.cellsOf Ycw=4:=by kernel_rfl
theorem n_cn:prog.cellsOf Zcw=5:=by kernel_rfl
theorem n_ef:prog.cellsOf YcJ=14:=by kernel_rfl
theorem n_cd:prog.cellsOf ZcJ=12:=by kernel_rfl
theorem n_fo:prog.cellsOf XcJ=7:=by kernel_rfl
theorem XcH:prog.cellsOf ZaS=1:=by kernel_rfl
theorem n_th:prog.cellsOf ZcK=4:=by kernel_rfl
theorem n_int:prog.cellsOf ZD=1:=by kernel_rfl
theorem s_nm:Zs prog Ycw=some [Zb0,ZD,Zb0,Xb9]:=by kernel_rfl
theorem s_cn:Zs prog Zcw=some [Zb0,Zb0,ZaS,Xb9,Xct]:=by kernel_rfl
theorem s_ef:Zs prog YcJ=some [Zb0,Zb0,Ycw,ZaS,Zcw,Za7,Za7]:=by kernel_rfl
theorem s_cd:Zs prog ZcJ=some [ZaS,Qa6,ZD,ZD,ZD,ZD,ZD,ZD,Za7,Za7,Za7,ZD]:=by kernel_rfl
theorem s_fo:Zs prog XcJ=some [ZaS,ZD,ZD,ZD,Qb9,Qb9,ZD]:=by kernel_rfl
theorem s_bk:Zs prog YbY=some [Yct,Qct]:=by kernel_rfl
theorem s_th:Zs prog ZcK=some [ZD,ZD,ZD,Qa6]:=by kernel_rfl
theorem s_sd:Zs prog QcN=some [ZD,ZD,ZD,Xao,Xao,Xao,Ycu,Xao]:=by kernel_rfl
theorem s_st:Zs prog XbY=some [ZD,ZD,Zb0,Qa6,Zb0,Xao,ZD,Zcu]:=by kernel_rfl
theorem QcK(fuel:Nat):∀xs (d:DataW H),Typed prog fuel Ycw xs d→uptoBulk d≤1048576→∃x,xs=nmC x∧nmFit x=true∧(nmP x).length≤uptoBulk d:=by
 induction fuel using Nat.strongRecOn with
 |_ fuel ih=>
 intro xs d h hb;obtain⟨f,parts,ds,rfl,rfl,rfl,r⟩:=ZI h s_nm;obtain⟨p0,parts,d0,ds,rfl,rfl,h0,r⟩:=r.cons;obtain⟨p1,parts,d1,ds,rfl,rfl,h1,r⟩:=r.cons;obtain⟨p2,parts,d2,ds,rfl,rfl,h2,r⟩:=r.cons;obtain⟨p3,parts,d3,ds,rfl,rfl,h3,r⟩:=r.cons;obtain⟨rfl,rfl⟩:=r.nil;obtain⟨v0,rfl,w0,rfl⟩:=Qu h0 Xce;obtain⟨v1,rfl,w1,rfl⟩:=Qu h1 ZS;obtain⟨v2,rfl,w2,rfl⟩:=Qu h2 Xce;simp only[XK,Qx,ZN] at hb ⊢;obtain⟨l,rfl,q,s,k⟩:=QE nmC (λx=>(nmP x).length) (λx=>nmFit x=true) h3 QcL n_nm (λf' hf=>ih f' (by omega)) (show uptoBulk d3≤1048576 by omega);refine⟨.mk v0 v1 v2 l,by rw[ZC]; rfl,?_,?_⟩
 ·simp only[nmFit,bigLe k (show uptoBulk d3≤1048576 by omega),Ya1 q,wf8 w0,wf64 w1,Bool.and_self]
 ·simp only[nmP,List.length_cons,ZaP]; omega
theorem ty_cn(fuel:Nat):∀xs (d:DataW H),Typed prog fuel Zcw xs d→uptoBulk d≤1048576→∃x,xs=cnC x∧cnFit x=true∧(cnP x).length≤uptoBulk d:=by
 induction fuel using Nat.strongRecOn with
 |_ fuel ih=>
 intro xs d h hb;obtain⟨f,parts,ds,rfl,rfl,rfl,r⟩:=ZI h s_cn;obtain⟨p0,parts,d0,ds,rfl,rfl,h0,r⟩:=r.cons;obtain⟨p1,parts,d1,ds,rfl,rfl,h1,r⟩:=r.cons;obtain⟨p2,parts,d2,ds,rfl,rfl,h2,r⟩:=r.cons;obtain⟨p3,parts,d3,ds,rfl,rfl,h3,r⟩:=r.cons;obtain⟨p4,parts,d4,ds,rfl,rfl,h4,r⟩:=r.cons;obtain⟨rfl,rfl⟩:=r.nil;obtain⟨v0,rfl,w0,rfl⟩:=Qu h0 Xce;obtain⟨v1,rfl,w1,rfl⟩:=Qu h1 Xce;obtain⟨v2,rfl,rfl⟩:=Za8 h2 YbZ;simp only[XK,Qx,ZN] at hb ⊢;obtain⟨l,rfl,q,s,k⟩:=QE nmC (λx=>(nmP x).length) (λx=>nmFit x=true) h3 QcL n_nm (λf' _=>QcK f') (show uptoBulk d3≤1048576 by omega);obtain⟨l2,rfl,q2,s2,k2⟩:=QE cnC (λx=>(cnP x).length) (λx=>cnFit x=true) h4 u_cns n_cn (λf' hf=>ih f' (by omega)) (show uptoBulk d4≤1048576 by omega);refine⟨.mk v0 v1 v2 l l2,by rw[YL]; rfl,?_,?_⟩
 ·simp only[cnFit,bigLe k (show uptoBulk d3≤1048576 by omega),Ya1 q,bigLe k2 (show uptoBulk d4≤1048576 by omega),ZbH q2,wf8 w0,Bool.and_self]
 ·simp only[cnP,List.length_cons,List.length_append,ZaP,Ybj]; omega
theorem ty_ef(fuel:Nat):∀xs (d:DataW H),Typed prog fuel YcJ xs d→uptoBulk d≤1048576→∃x,xs=efC x∧efFit x=true∧(efP x).length≤uptoBulk d:=by
 induction fuel using Nat.strongRecOn with
 |_ fuel ih=>
 intro xs d h hb;obtain⟨f,parts,ds,rfl,rfl,rfl,r⟩:=ZI h s_ef;obtain⟨p0,parts,d0,ds,rfl,rfl,h0,r⟩:=r.cons;obtain⟨p1,parts,d1,ds,rfl,rfl,h1,r⟩:=r.cons;obtain⟨p2,parts,d2,ds,rfl,rfl,h2,r⟩:=r.cons;obtain⟨p3,parts,d3,ds,rfl,rfl,h3,r⟩:=r.cons;obtain⟨p4,parts,d4,ds,rfl,rfl,h4,r⟩:=r.cons;obtain⟨p5,parts,d5,ds,rfl,rfl,h5,r⟩:=r.cons;obtain⟨p6,parts,d6,ds,rfl,rfl,h6,r⟩:=r.cons;obtain⟨rfl,rfl⟩:=r.nil;obtain⟨v0,rfl,w0,rfl⟩:=Qu h0 Xce;obtain⟨v1,rfl,w1,rfl⟩:=Qu h1 Xce;obtain⟨v3,rfl,rfl⟩:=Za8 h3 YbZ;simp only[XK,Qx,ZN] at hb ⊢;obtain⟨n,rfl,qn,kn⟩:=QcK _ _ _ h2 (by omega);obtain⟨c,rfl,qc,kc⟩:=ty_cn _ _ _ h4 (by omega);obtain⟨l,rfl,q,s,k⟩:=QE efC (λx=>(efP x).length) (λx=>efFit x=true) h5 Ycv n_ef (λf' hf=>ih f' (by omega)) (show uptoBulk d5≤1048576 by omega);obtain⟨l2,rfl,q2,s2,k2⟩:=QE efC (λx=>(efP x).length) (λx=>efFit x=true) h6 Ycv n_ef (λf' hf=>ih f' (by omega)) (show uptoBulk d6≤1048576 by omega);refine⟨.mk v0 v1 n v3 c l l2,by rw[XA,ZC,YL]; rfl,?_,?_⟩
 ·simp only[efFit,qn,qc,bigLe k (show uptoBulk d5≤1048576 by omega),Yaw q,bigLe k2 (show uptoBulk d6≤1048576 by omega),Yaw q2,wf8 w0,Bool.and_self]
 ·have e1:(if cntOp v0 then nmP n else []).length≤(nmP n).length:=by split<;>simp
  have e2:(if v0=8 then cnP c++(efPs l++efPs l2) else []).length≤(cnP c).length+(efPs l).length+(efPs l2).length:=by
   split
   ·simp only[List.length_append]; omega
   ·simp
  rw[Yar,Yar] at e2;simp only[efP,List.length_cons,List.length_append];omega
theorem QbY{fuel:Nat}{xs:List AVal}{d:DataW H}(h:Typed prog fuel Za7 xs d)(hb:uptoBulk d≤1048576):∃l,xs=[efV l]∧lsFit l=true∧(efPs l).length≤uptoBulk d:=by
 obtain⟨l,rfl,q,s,k⟩:=QE efC (λx=>(efP x).length) (λx=>efFit x=true) h Ycv n_ef (λf' _=>ty_ef f') hb;exact⟨l,rfl,by simp only[lsFit,bigLe k hb,Yaw q,Bool.and_self],by rw[Yar]; exact s⟩
theorem ty_cd(fuel:Nat)(xs:List AVal)(d:DataW H)(h:Typed prog fuel ZcJ xs d)(hb:uptoBulk d≤1048576):∃x,xs=cdC x∧(cdFit x=true∧(cdP x).length≤1048576)∧0≤uptoBulk d:=by
 obtain⟨f,parts,ds,rfl,rfl,rfl,r⟩:=ZI h s_cd;obtain⟨p0,parts,d0,ds,rfl,rfl,h0,r⟩:=r.cons;obtain⟨p1,parts,d1,ds,rfl,rfl,h1,r⟩:=r.cons;obtain⟨p2,parts,d2,ds,rfl,rfl,h2,r⟩:=r.cons;obtain⟨p3,parts,d3,ds,rfl,rfl,h3,r⟩:=r.cons;obtain⟨p4,parts,d4,ds,rfl,rfl,h4,r⟩:=r.cons;obtain⟨p5,parts,d5,ds,rfl,rfl,h5,r⟩:=r.cons;obtain⟨p6,parts,d6,ds,rfl,rfl,h6,r⟩:=r.cons;obtain⟨p7,parts,d7,ds,rfl,rfl,h7,r⟩:=r.cons;obtain⟨p8,parts,d8,ds,rfl,rfl,h8,r⟩:=r.cons;obtain⟨p9,parts,d9,ds,rfl,rfl,h9,r⟩:=r.cons;obtain⟨p10,parts,d10,ds,rfl,rfl,h10,r⟩:=r.cons;obtain⟨p11,parts,d11,ds,rfl,rfl,h11,r⟩:=r.cons;obtain⟨rfl,rfl⟩:=r.nil;obtain⟨v0,rfl,rfl⟩:=Za8 h0 YbZ;obtain⟨v1,rfl,rfl⟩:=Ybg h1 Ya8;obtain⟨v2,rfl,w2,rfl⟩:=Qu h2 ZS;obtain⟨v3,rfl,w3,rfl⟩:=Qu h3 ZS;obtain⟨v4,rfl,w4,rfl⟩:=Qu h4 ZS;obtain⟨v5,rfl,w5,rfl⟩:=Qu h5 ZS;obtain⟨v6,rfl,w6,rfl⟩:=Qu h6 ZS;obtain⟨v7,rfl,w7,rfl⟩:=Qu h7 ZS;obtain⟨v11,rfl,w11,rfl⟩:=Qu h11 ZS;simp only[XK,Qx,ZN] at hb ⊢;obtain⟨a,rfl,qa,ka⟩:=QbY h8 (by omega);obtain⟨b,rfl,qb,kb⟩:=QbY h9 (by omega);obtain⟨c,rfl,qc,kc⟩:=QbY h10 (by omega);refine⟨⟨v0,v1,v2,v3,v4,v5,v6,v7,a,b,c,v11⟩,rfl,⟨?_,?_⟩,by omega⟩
 ·simp only[cdFit,bigLe (Nat.le_refl v0.length) (by omega),qa,qb,qc,Bool.and_self]
 ·simp only[cdP,List.length_append]; omega
theorem YcL(fuel:Nat)(xs:List AVal)(d:DataW H)(h:Typed prog fuel ZaS xs d)(_:uptoBulk d≤1048576):∃x,xs=txC x∧True∧0≤uptoBulk d:=by
 obtain⟨s,rfl,rfl⟩:=Za8 h YbZ;exact⟨s,rfl,trivial,by omega⟩
theorem ty_fo(fuel:Nat)(xs:List AVal)(d:DataW H)(h:Typed prog fuel XcJ xs d)(hb:uptoBulk d≤1048576):∃x,xs=foC x∧foFit x=true∧0≤uptoBulk d:=by
 obtain⟨f,parts,ds,rfl,rfl,rfl,r⟩:=ZI h s_fo;obtain⟨p0,parts,d0,ds,rfl,rfl,h0,r⟩:=r.cons;obtain⟨p1,parts,d1,ds,rfl,rfl,h1,r⟩:=r.cons;obtain⟨p2,parts,d2,ds,rfl,rfl,h2,r⟩:=r.cons;obtain⟨p3,parts,d3,ds,rfl,rfl,h3,r⟩:=r.cons;obtain⟨p4,parts,d4,ds,rfl,rfl,h4,r⟩:=r.cons;obtain⟨p5,parts,d5,ds,rfl,rfl,h5,r⟩:=r.cons;obtain⟨p6,parts,d6,ds,rfl,rfl,h6,r⟩:=r.cons;obtain⟨rfl,rfl⟩:=r.nil;obtain⟨v0,rfl,rfl⟩:=Za8 h0 YbZ;obtain⟨v1,rfl,w1,rfl⟩:=Qu h1 ZS;obtain⟨v2,rfl,w2,rfl⟩:=Qu h2 ZS;obtain⟨v3,rfl,w3,rfl⟩:=Qu h3 ZS;obtain⟨v6,rfl,w6,rfl⟩:=Qu h6 ZS;simp only[XK,Qx,ZN] at hb ⊢;obtain⟨a,rfl,_,_,ka⟩:=QE txC (λ_=>0) (λ_=>True) h4 ZcM XcH (λf' _=>YcL f') (show uptoBulk d4≤1048576 by omega);obtain⟨b,rfl,_,_,kb⟩:=QE txC (λ_=>0) (λ_=>True) h5 ZcM XcH (λf' _=>YcL f') (show uptoBulk d5≤1048576 by omega);refine⟨⟨v0,v1,v2,v3,a,b,v6⟩,rfl,?_,by omega⟩;simp only[foFit,bigLe (Nat.le_refl v0.length) (by omega),bigLe ka (show uptoBulk d4≤1048576 by omega),bigLe kb (show uptoBulk d5≤1048576 by omega),Bool.and_self]
theorem ty_bk{fuel:Nat}{xs:List AVal}{d:DataW H}(h:Typed prog fuel YbY xs d)(hb:uptoBulk d≤1048576):∃x,xs=bkC x∧bkFit x=true∧YG x.cards:=by
 obtain⟨f,parts,ds,rfl,rfl,rfl,r⟩:=ZI h s_bk;obtain⟨p0,parts,d0,ds,rfl,rfl,h0,r⟩:=r.cons;obtain⟨p1,parts,d1,ds,rfl,rfl,h1,r⟩:=r.cons;obtain⟨rfl,rfl⟩:=r.nil;simp only[XK,Qx,ZN] at hb ⊢;obtain⟨a,rfl,q,_,k⟩:=QE cdC (λ_=>0) (λx=>cdFit x=true∧(cdP x).length≤1048576) h0 u_cds n_cd (λf' _=>ty_cd f') (show uptoBulk d0≤1048576 by omega);obtain⟨b,rfl,q2,_,k2⟩:=QE foC (λ_=>0) (λx=>foFit x=true) h1 u_fos n_fo (λf' _=>ty_fo f') (show uptoBulk d1≤1048576 by omega);refine⟨⟨a,b⟩,rfl,?_,λc hc=>Nat.le_trans (q c hc).2 (by decide)⟩;simp only[bkFit,XI,bigLe k (show uptoBulk d0≤1048576 by omega),bigLe k2 (show uptoBulk d1≤1048576 by omega),Bool.true_and,Bool.and_eq_true,List.all_eq_true];exact⟨λc hc=>(q c hc).1,q2⟩
theorem ty_th(fuel:Nat)(xs:List AVal)(d:DataW H)(h:Typed prog fuel ZcK xs d)(hb:uptoBulk d≤1048576):∃x,xs=thC x∧True∧0≤uptoBulk d:=by
 obtain⟨f,parts,ds,rfl,rfl,rfl,r⟩:=ZI h s_th;obtain⟨p0,parts,d0,ds,rfl,rfl,h0,r⟩:=r.cons;obtain⟨p1,parts,d1,ds,rfl,rfl,h1,r⟩:=r.cons;obtain⟨p2,parts,d2,ds,rfl,rfl,h2,r⟩:=r.cons;obtain⟨p3,parts,d3,ds,rfl,rfl,h3,r⟩:=r.cons;obtain⟨rfl,rfl⟩:=r.nil;obtain⟨v0,rfl,w0,rfl⟩:=Qu h0 ZS;obtain⟨v1,rfl,w1,rfl⟩:=Qu h1 ZS;obtain⟨v2,rfl,w2,rfl⟩:=Qu h2 ZS;obtain⟨v3,rfl,rfl⟩:=Ybg h3 Ya8;simp only[XK,Qx,ZN] at hb ⊢;exact⟨⟨v0,v1,v2,v3⟩,rfl,trivial,by omega⟩
theorem ty_i(fuel:Nat)(xs:List AVal)(d:DataW H)(h:Typed prog fuel ZD xs d)(_:uptoBulk d≤1048576):∃x,xs=cel x∧True∧0≤uptoBulk d:=by
 obtain⟨s,rfl,_,rfl⟩:=Qu h ZS;exact⟨s,rfl,trivial,by omega⟩
theorem Qa7{fuel:Nat}{xs:List AVal}{d:DataW H}(h:Typed prog fuel Xao xs d)(hb:uptoBulk d≤1048576):∃l,xs=[rowV l]∧l.length≤2000000:=by
 obtain⟨l,rfl,_,_,k⟩:=QE cel (λ_=>0) (λ_=>True) h XcL n_int (λf' _=>ty_i f') hb;exact⟨l,rfl,by omega⟩
theorem ZcL{fuel:Nat}{xs:List AVal}{d:DataW H}(h:Typed prog fuel QcN xs d)(hb:uptoBulk d≤1048576):∃x,xs=sdC x∧SdLe 2000000 x:=by
 obtain⟨f,parts,ds,rfl,rfl,rfl,r⟩:=ZI h s_sd;obtain⟨p0,parts,d0,ds,rfl,rfl,h0,r⟩:=r.cons;obtain⟨p1,parts,d1,ds,rfl,rfl,h1,r⟩:=r.cons;obtain⟨p2,parts,d2,ds,rfl,rfl,h2,r⟩:=r.cons;obtain⟨p3,parts,d3,ds,rfl,rfl,h3,r⟩:=r.cons;obtain⟨p4,parts,d4,ds,rfl,rfl,h4,r⟩:=r.cons;obtain⟨p5,parts,d5,ds,rfl,rfl,h5,r⟩:=r.cons;obtain⟨p6,parts,d6,ds,rfl,rfl,h6,r⟩:=r.cons;obtain⟨p7,parts,d7,ds,rfl,rfl,h7,r⟩:=r.cons;obtain⟨rfl,rfl⟩:=r.nil;obtain⟨v0,rfl,w0,rfl⟩:=Qu h0 ZS;obtain⟨v1,rfl,w1,rfl⟩:=Qu h1 ZS;obtain⟨v2,rfl,w2,rfl⟩:=Qu h2 ZS;simp only[XK,Qx,ZN] at hb ⊢;obtain⟨a,rfl,ka⟩:=Qa7 h3 (by omega);obtain⟨b,rfl,kb⟩:=Qa7 h4 (by omega);obtain⟨c,rfl,kc⟩:=Qa7 h5 (by omega);obtain⟨u,rfl,_,_,ku⟩:=QE thC (λ_=>0) (λ_=>True) h6 u_ths n_th (λf' _=>ty_th f') (show uptoBulk d6≤1048576 by omega);obtain⟨t,rfl,kt⟩:=Qa7 h7 (by omega);exact⟨⟨v0,v1,v2,a,b,c,u,t⟩,rfl,ka,kb,kc,by show u.length≤_; omega,kt⟩
theorem ty_st{fuel:Nat}{xs:List AVal}{d:DataW H}(h:Typed prog fuel XbY xs d)(hb:uptoBulk d≤1048576):∃x,xs=stC x∧StLe 2000000 x:=by
 obtain⟨f,parts,ds,rfl,rfl,rfl,r⟩:=ZI h s_st;obtain⟨p0,parts,d0,ds,rfl,rfl,h0,r⟩:=r.cons;obtain⟨p1,parts,d1,ds,rfl,rfl,h1,r⟩:=r.cons;obtain⟨p2,parts,d2,ds,rfl,rfl,h2,r⟩:=r.cons;obtain⟨p3,parts,d3,ds,rfl,rfl,h3,r⟩:=r.cons;obtain⟨p4,parts,d4,ds,rfl,rfl,h4,r⟩:=r.cons;obtain⟨p5,parts,d5,ds,rfl,rfl,h5,r⟩:=r.cons;obtain⟨p6,parts,d6,ds,rfl,rfl,h6,r⟩:=r.cons;obtain⟨p7,parts,d7,ds,rfl,rfl,h7,r⟩:=r.cons;obtain⟨rfl,rfl⟩:=r.nil;obtain⟨v0,rfl,w0,rfl⟩:=Qu h0 ZS;obtain⟨v1,rfl,w1,rfl⟩:=Qu h1 ZS;obtain⟨v2,rfl,w2,rfl⟩:=Qu h2 Xce;obtain⟨v3,rfl,rfl⟩:=Ybg h3 Ya8;obtain⟨v4,rfl,w4,rfl⟩:=Qu h4 Xce;obtain⟨v6,rfl,w6,rfl⟩:=Qu h6 ZS;simp only[XK,Qx,ZN] at hb ⊢;obtain⟨a,rfl,ka⟩:=Qa7 h5 (by omega);obtain⟨f',p,q,da,db,rfl,rfl,rfl,hp,hq⟩:=Zcv h7 u_sds;simp only[XK,Qx] at hb;obtain⟨x,rfl,kx⟩:=ZcL hp (by omega);obtain⟨y,rfl,ky⟩:=ZcL hq (by omega);exact⟨⟨v0,v1,v2,v3,v4,a,v6,x,y⟩,rfl,ka,kx,ky⟩
end Go.Ah.Tz
end
section
namespace Go.Proofs.YtflcpnaigpgciaaGreatDoor
open Go.ChangeShapes Go.WideShapes Go.ChangeAt Go.RowKit Go.Ah Go.Ah.Tz
theorem YaP{H:Type}{enc:TypeId×Value→H}{P:Program}{f:Func}{s:ChangeSpec}{apart fresh handsOn again:Bool}{W W':World}{args:Array Value}{v:Value}{ds gs:List (DataW H)}{before pa pv:List MemPlace}
 (hW:DataW.Whole enc P f.params.toList s.vars apart W args.toList ds gs before)
 (hres:∀(b:Nat) (sp:Nat→Bool) (hd:Bool),DataW.TrodAll enc P W' b sp hd f.resultTypes.toList (v.resultList f.resultTypes.size) (s.fn H (ds++gs)).results [])
 (hargs:∀sp:Nat→Bool,(∀p∈before,sp p.block=true)→DataW.TrodAll enc P W' 0 sp true f.params.toList args.toList (s.fn H (ds++gs)).args pa)
 (hvars:∀sp:Nat→Bool,(∀p∈before,sp p.block=true)→DataW.TrodVars enc P W' sp s.vars (s.fn H (ds++gs)).vars pv)
 (hps:before=pa++pv)(hb:Below W.heap.size W W')
 (hok:∀(j:Nat) (t:TypeId) (r:Value),f.resultTypes[j]?=some t→(v.resultList f.resultTypes.size)[j]?=some r→Value.okWide P W' .any 0 t r) :
  s.post enc P f apart fresh handsOn again W args v W':=by
 have hold:∀p∈before,(λb=>decide (b<W.heap.size)) p.block=true:=λp hp=>by simpa using hW.lt p hp
 refine⟨ds,gs,before,[],pa,pv,hW,hres _ _ _,hargs _ hold,hvars _ hold,World.keptBut_mono (λp hp=>⟨hp,?_⟩) (hb.frame (·∈before)),λ_=>?_⟩
 ·rw[hps,List.mem_append] at hp;exact Or.inr hp
 ·have hlt:=hW.lt;obtain⟨_,_,_,_,_,hz,hn⟩:=hW;refine⟨hok,_,_,([]++pa)++pv,⟨[]++pa,pv,trodAll_append (hargs _ (λ_ _=>rfl)) (hres _ _ _),hvars _ (λ_ _=>rfl),rfl,?_,?_⟩,?_⟩
  ·intro b off hp;have hin:MemPlace.cell b off∈before:=by rw[hps]; simpa using hp
   rw[hb.frozen (p:=⟨b,off,none⟩) (show b<W.heap.size from hlt _ hin)];exact hz b off hin
  ·intro ha;have:=hn ha;rw[hps] at this;simpa using this
  ·intro p hp _;rw[hps];simpa using hp
set_option maxRecDepth 100000
abbrev t_u8:TypeId:=5
abbrev QcJ:TypeId:=318
theorem d_own:ownKnob Tryz.prog.godebug=none:=by kernel_rfl
theorem ZcD:Tryz.prog.globalNamed "strings.asciiSpace" = some 0:=by kernel_rfl
theorem QbJ:(Tryz.prog.globals[0]?).map (·.type)=some QcJ:=by kernel_rfl
theorem YbJ:laidOutB Tryz.prog=true:=by kernel_rfl
def spaces:List Int:=(List.range 256).map λi=>match (Nat.ble 9 i&&Nat.ble i 13)||Nat.beq i 32 with|true=>1|false=>0
theorem Xcn{l:List (String×DataW Unit)}{x:String×DataW Unit}(hl:l=[x,("strings.asciiSpace",Lib.tabData .u8 spaces)]){W:World}(h:laidMet Tryz.prog l W):∀p∈GL0,Den (λb=>W.heap[b]?) noOwn (.rptr p.2 0) (.pointer (some ⟨p.1,0,none⟩)):=by
 subst hl;have ht:Lib.TabIs Tryz.prog W "strings.asciiSpace" .u8 spaces:=Lib.tabIs_of_head (rest:=[]) ZcD QbJ (show Tryz.prog.underlying QcJ=some (.array 256 t_u8) by kernel_rfl) (show Tryz.prog.underlying t_u8=some (.int .u8) by kernel_rfl) (by kernel_rfl) (by kernel_rfl) h.tail;have hlen:spaces.length=256:=by simp[spaces]
 have hrow:row0=spaces.map (AVal.int .u8):=by rw[row0,spaces,List.map_map]; rfl
 intro p hp;simp only[GL0,List.mem_singleton] at hp;subst hp;refine .rptr _ row0 0 0 0 (λk=>.int .u8 (spaces.getD k 0)) (λk hk=>?_) (λk y hy=>?_)
 ·have hk':k<spaces.length:=by rw[hrow,List.length_map] at hk; exact hk
  have:=(ZbF (ht.cell ZcD k hk')).2;rw[Nat.zero_add]; exact this
 ·rw[hrow,List.getElem?_map] at hy;obtain⟨z,hz,rfl⟩:=Option.map_eq_some_iff.1 hy;have:spaces.getD k 0=z:=by simp[List.getD,hz]
  rw[this]; exact .int _ _ _
def YaM:List TypeId:=[Zb0,ZD,Qa6,ZaS,Ycw,Xb9,Zcw,Xct,YcJ,Za7,ZcJ,Yct,XcJ,Qct,Qb9,YbY,ZcK,Ycu,Xao,QcN,Zcu,XbY]
theorem QaV:YaM.all (tyOk Tryz.prog YaM)=true:=by kernel_rfl
theorem XcC{M:Nat→Option Obj}{xs:List AVal}{cs:Array Value}(h:DL M xs cs.toList):Den M noOwn (.agg xs) (.agg cs):=
 .agg _ _ _ (by have:=h.1; simpa using this.symm) (λi x v h1 h2=>h.2 i x v h1 (by simpa using h2))
theorem Xa6{P:Program}{t:TypeId}{ts:List TypeId}(h:Zs P t=some ts):∃fs,P.underlying t=some (.struct fs):=by
 unfold Zs at h;split at h
 ·rename_i fs e; exact⟨fs,e⟩
 ·cases h
section
variable {H:Type} {enc:TypeId×Value→H} {W:World} {base:Nat} {v:Value} {d:DataW H} {ps:List MemPlace}
theorem QcC(ho:Value.okWide Tryz.prog W .any base YbY v)(h:DataW.Trod enc Tryz.prog W 0 (λ_=>true) true YbY v d ps)(hb:Rows.uptoBulk d≤1048576):∃b:Bk,bkFit b=true∧YG b.cards∧Den (λk=>W.heap[k]?) noOwn (bkV b) v:=by
 obtain⟨fs,hfs⟩:=Xa6 s_bk;obtain⟨cs,rfl,_⟩:=okWide_struct hfs ho;obtain⟨fuel,hf⟩:=h;obtain⟨_,xs,h1,h2⟩:=QaB (S:=YaM) QaV fuel YbY (by decide) _ _ ⟨_,hf⟩;obtain⟨b,rfl,k1,k2⟩:=ty_bk h2 hb;exact⟨b,k1,k2,XcC h1⟩
theorem Qcn(ho:Value.okWide Tryz.prog W .any base XbY v)(h:DataW.Trod enc Tryz.prog W 0 (λ_=>true) true XbY v d ps)(hb:Rows.uptoBulk d≤1048576):∃s:St,StLe 2000000 s∧Den (λk=>W.heap[k]?) noOwn (stV s) v:=by
 obtain⟨fs,hfs⟩:=Xa6 s_st;obtain⟨cs,rfl,_⟩:=okWide_struct hfs ho;obtain⟨fuel,hf⟩:=h;obtain⟨_,xs,h1,h2⟩:=QaB (S:=YaM) QaV fuel XbY (by decide) _ _ ⟨_,hf⟩;obtain⟨s,rfl,k⟩:=ty_st h2 hb;exact⟨s,k,XcC h1⟩
theorem d_int(ho:Value.okWide Tryz.prog W .any base ZD v)(h:DataW.Trod enc Tryz.prog W 0 (λ_=>true) true ZD v d ps):∃n:Int,Den (λk=>W.heap[k]?) noOwn (iv n) v:=by
 obtain⟨n,rfl,_⟩:=open_int ZS ho h;exact⟨n,.int _ _ _⟩
end
theorem Qba{H:Type}{enc:TypeId×Value→H}{t:TypeId}(hr:Tryz.prog.readableRec t=true)(hrow:t<Tryz.prog.types.size){W W':World}{v:Value}{d:DataW H}{ps all:List MemPlace}(h:DataW.Trod enc Tryz.prog W 0 (λ_=>true) true t v d ps)(hb:Below W.heap.size W W')(hlt:∀p∈all,p.block<W.heap.size)(hin:∀p∈ps,p∈all){sp:Nat→Bool}(hs:∀p∈all,sp p.block=true):DataW.Trod enc Tryz.prog W' 0 sp true t v d ps:=
 WideElems.Trod_stays YbJ hr hrow h (λp hp=>hb.same (hlt p (hin p hp))) (λp hp=>hs p (hin p hp))
theorem XbJ(t:TypeId)(h:(Tryz.prog.readableRec t&&decide (t<Tryz.prog.types.size))=true):Tryz.prog.readableRec t=true∧t<Tryz.prog.types.size:=by simpa using h
theorem r_bk:Tryz.prog.readableRec YbY=true∧YbY<Tryz.prog.types.size:=XbJ YbY (by kernel_rfl)
theorem r_st:Tryz.prog.readableRec XbY=true∧XbY<Tryz.prog.types.size:=XbJ XbY (by kernel_rfl)
theorem ZcI:Tryz.prog.readableRec ZD=true∧ZD<Tryz.prog.types.size:=XbJ ZD (by kernel_rfl)
def Yb3:List Int:=[9,13,1,32,133,101,160,5760,5600,8192,8202,1,8232,8233,1,8239,8287,48,12288,12288,1]
noncomputable def Zbb (os:Os):World:=
 let w0:=World.holding Tryz.prog os ⟨#[],#[],[]⟩
 let put (h:Array Obj) (g:Nat) (cs:Array Value):Array Obj:=h.modify g fun
  |.cells _ t frozen=>.cells cs t frozen
  |o=>o
 let h1:=put w0.heap 0 (spaces.map λz=>Value.int .u8 z).toArray
 let h2:=put h1 1 #[.pointer (some ⟨w0.heap.size,0,none⟩)]
 { w0 with heap:=(h2.push (.cells #[.slice (some ⟨w0.heap.size+1,0,none⟩) 7 7,.slice none 0 0,.int .i64 2] 328 (0,0))).push (.cells (Yb3.map λz=>Value.int .u16 z).toArray 331 (0,0)) }
theorem Qm{a b:Bool}(h:a=true)(k:b=true):(a&&b)=true:=by rw[h,k]; rfl
end Go.Proofs.YtflcpnaigpgciaaGreatDoor
end
section
namespace Go.Ah.Tz
open Go.Proofs.Tryz (prog)
def ptQ:Pt→Bool
 |.ef x=>decide (x.who=2)&&(decide (x.op=0)||decide (x.op=1))
 |.nm x=>decide (x.op=7)
 |.cn _=>false
theorem Ycr(x:Nm):(nmP x).any ptQ=((nmPs x.kids).any ptQ||decide (x.op=7)):=by
 cases x; simp[nmP,ptQ,Nm.kids,Nm.op,Bool.or_comm]
theorem QaO:∀l:List Nm,(nmPs l).any ptQ=l.any λx=>(nmP x).any ptQ
 |[]=>rfl
 |x::l=>by simp[nmPs,QaO l]
theorem Zcn(x:Cn):(cnP x).any ptQ=((nmPs x.nums).any ptQ||(cnPs x.kids).any ptQ):=by
 cases x; simp[cnP,ptQ,Cn.nums,Cn.kids]
theorem Zbj:∀l:List Cn,(cnPs l).any ptQ=l.any λx=>(cnP x).any ptQ
 |[]=>rfl
 |x::l=>by simp[cnPs,Zbj l]
theorem Ycp(x:Ef):(efP x).any ptQ=(((decide (x.who=2)&&(decide (x.op=0)||decide (x.op=1)))||(cntOp x.op&&(nmP x.n).any ptQ))||(decide (x.op=8)&&(((cnP x.c).any ptQ||(efPs x.thn).any ptQ)||(efPs x.els).any ptQ))):=by
 cases x with
 |mk op who n name c thn els=>
  simp only[efP,List.any_cons,List.any_append,ptQ,Ef.who,Ef.op,Ef.n,Ef.c,Ef.thn,Ef.els];generalize cntOp op=q;by_cases h2:op=8<;>cases q<;>simp[h2,Bool.or_assoc]
theorem Zbl:∀l:List Ef,(efPs l).any ptQ=l.any λx=>(efP x).any ptQ
 |[]=>rfl
 |x::l=>by simp[efPs,Zbl l]
attribute [local irreducible] Ans.rd Ans.pu Ans.wr Ans.dr Ans.gr Ans.gw Ans.gl Ans.gd Ans.opt joinK W
set_option maxHeartbeats 1000000
theorem c131':∀(k:Nat) (x:Nm),SizeOf.sizeOf x≤k→nmFit x=true→PC 131 [.agg (nmC x)] (.bool ((nmP x).any ptQ))
 |0,x,h,_=>by cases x; simp at h
 |k+1,x,hk,hf=>by
  rw[ZC];refine Xd hP g131_ok rfl rfl ?_;unfold g131;refine Zh rfl rfl ?_;have hlen:=YW hf;rw[bigE] at hlen;generalize hB:([]++[ABlk.box [iv8 x.op,iv x.n,iv8 x.who,.rsl false false 4 (x.kids.map nmC)]]:List ABlk)=base;have hB0:hget base 0=.box [iv8 x.op,iv x.n,iv8 x.who,.rsl false false 4 (x.kids.map nmC)]:=by rw[←hB]; rfl
  clear hB;refine Qi (ι:=Nat) (λi vs σ=>vs=[iv i]∧σ=base∧i≤x.kids.length∧(nmP x).any ptQ=(((x.kids.drop i).any λy=>(nmP y).any ptQ)||decide (x.op=7))) (λi=>x.kids.length-i) 0 ⟨rfl,rfl,by omega,by rw[Ycr,QaO]; simp⟩ ?_;rintro i vs σ again ⟨rfl,rfl,hi,hu⟩ hag;refine Za rfl (Za (ld hB0 rfl) (Za rfl (Za rfl ?_)));refine Zc (λh=>?_) (λh=>?_)
  ·have h:i<x.kids.length:=by simpa using h
   have hdr:x.kids.drop i=x.kids[i]::x.kids.drop (i+1):=by rw[YLD h]
   rw[hdr,List.any_cons] at hu;have hm:x.kids[i]∈x.kids:=List.getElem_mem h;have hix:=λ(s:List ABlk)=>Zn s nmC false false 4 x.kids .i64 i h;have hsz:=Qaa hm;have hfk:=ZR hf hm;generalize x.kids[i]=y at hu hix hsz hfk;refine Za rfl (Za (ld hB0 rfl) (Za (hix _) (Za (ldr (nmLd _)) ?_)));refine Yd (c131' k y (by omega) hfk) rfl g131_ok.plain (nmRo _) ?_;refine Zc (λhy=>?_) (λhy=>?_)
   ·rw[hu,hy]; rfl
   refine Za (Qj ..) ?_;rw[Qe (n:=i) (by omega)];exact hag (i+1) _ _ (by omega) ⟨rfl,rfl,by omega,by rw[hu,hy,Bool.false_or]⟩
  ·have h:i=x.kids.length:=by simp at h; omega
   subst h;rw[List.drop_length] at hu;refine Za rfl (Za (ld hB0 rfl) (Za (Zf ..) ?_));rw[hu]; rfl
theorem c131(x:Nm)(hf:nmFit x=true):PC 131 [.agg (nmC x)] (.bool ((nmP x).any ptQ)):=c131' _ x (Nat.le_refl _) hf
theorem c132':∀(k:Nat) (x:Cn),SizeOf.sizeOf x≤k→cnFit x=true→PC 132 [.agg (cnC x)] (.bool ((cnP x).any ptQ))
 |0,x,h,_=>by cases x; simp at h
 |k+1,x,hk,hf=>by
  rw[YL];refine Xd hP g132_ok rfl rfl ?_;unfold g132;refine Zh rfl rfl ?_;have hl1:=XJ hf;have hl2:=YJ hf;rw[bigE] at hl1 hl2;generalize hB:([]++[ABlk.box [iv8 x.op,iv8 x.who,.str x.name,.rsl false false 4 (x.nums.map nmC),.rsl false false 5 (x.kids.map cnC)]]:List ABlk)=base;have hB0:hget base 0=.box [iv8 x.op,iv8 x.who,.str x.name,.rsl false false 4 (x.nums.map nmC),.rsl false false 5 (x.kids.map cnC)]:=by rw[←hB]; rfl
  clear hB;refine Qi (ι:=Nat) (λi vs σ=>vs=[iv i]∧σ=base∧i≤x.nums.length∧(cnP x).any ptQ=(((x.nums.drop i).any λy=>(nmP y).any ptQ)||(cnPs x.kids).any ptQ)) (λi=>x.nums.length-i) 0 ⟨rfl,rfl,by omega,by rw[Zcn,QaO]; simp⟩ ?_;rintro i vs σ again ⟨rfl,rfl,hi,hu⟩ hag;refine Za rfl (Za (ld hB0 rfl) (Za rfl (Za rfl ?_)));refine Zc (λh=>?_) (λh=>?_)
  ·have h:i<x.nums.length:=by simpa using h
   have hdr:x.nums.drop i=x.nums[i]::x.nums.drop (i+1):=by rw[YLD h]
   rw[hdr,List.any_cons] at hu;have hm:x.nums[i]∈x.nums:=List.getElem_mem h;have hix:=λ(s:List ABlk)=>Zn s nmC false false 4 x.nums .i64 i h;have hfk:=QP hf hm;generalize x.nums[i]=y at hu hix hfk;refine Za rfl (Za (ld hB0 rfl) (Za (hix _) (Za (ldr (nmLd _)) ?_)));refine Yd (c131 y hfk) rfl g131_ok.plain (nmRo _) ?_;refine Zc (λhy=>?_) (λhy=>?_)
   ·rw[hu,hy]; rfl
   refine Za (Qj ..) ?_;rw[Qe (n:=i) (by omega)];exact hag (i+1) _ _ (by omega) ⟨rfl,rfl,by omega,by rw[hu,hy,Bool.false_or]⟩
  ·have h:i=x.nums.length:=by simp at h; omega
   subst h;rw[List.drop_length,List.any_nil,Bool.false_or,Zbj] at hu;clear hag hi;refine Qi (ι:=Nat) (λi vs s=>vs=[iv i]∧s=σ∧i≤x.kids.length∧(cnP x).any ptQ=((x.kids.drop i).any λy=>(cnP y).any ptQ)) (λi=>x.kids.length-i) 0 ⟨rfl,rfl,by omega,by rw[hu]; simp⟩ ?_;rintro i vs s again ⟨rfl,rfl,hi,hu⟩ hag;refine Za rfl (Za (ld hB0 rfl) (Za rfl (Za rfl ?_)));refine Zc (λh=>?_) (λh=>?_)
   ·have h:i<x.kids.length:=by simpa using h
    have hdr:x.kids.drop i=x.kids[i]::x.kids.drop (i+1):=by rw[YLD h]
    rw[hdr,List.any_cons] at hu;have hm:x.kids[i]∈x.kids:=List.getElem_mem h;have hix:=λ(s:List ABlk)=>Zn s cnC false false 5 x.kids .i64 i h;have hsz:=X9 hm;have hfk:=XP hf hm;generalize x.kids[i]=y at hu hix hsz hfk;refine Za rfl (Za (ld hB0 rfl) (Za (hix _) (Za (ldr (cnLd _)) ?_)));refine Yd (c132' k y (by omega) hfk) rfl g132_ok.plain (cnRo _) ?_;refine Zc (λhy=>?_) (λhy=>?_)
    ·rw[hu,hy]; rfl
    refine Za (Qj ..) ?_;rw[Qe (n:=i) (by omega)];exact hag (i+1) _ _ (by omega) ⟨rfl,rfl,by omega,by rw[hu,hy,Bool.false_or]⟩
   ·have h:i=x.kids.length:=by simp at h; omega
    subst h;rw[List.drop_length] at hu;rw[hu]; rfl
theorem c132(x:Cn)(hf:cnFit x=true):PC 132 [.agg (cnC x)] (.bool ((cnP x).any ptQ)):=c132' _ x (Nat.le_refl _) hf
theorem XcB(x:Ef){σ:List ABlk}{p:Nat}(hB:hget σ p=.box (efC x)){K:AVal→Prop}(hK:K (.bool (decide (x.who=2)&&(decide (x.op=0)||decide (x.op=1))))) :
  VV.gr (.bool (decide (x.who=2))) true (λk=>VV.rd (Ya 0 [.bptr p 0] σ) k) λt19_10=>
  VV.gr (.bool (decide (x.who=2))) true (λk=>VV.rd (Xc false 1 [t19_10] σ) k) λt20_11=>
  VV.gr (.bool (decide (x.who=2))) true (λk=>VV.rd (Yh .eql false [t20_11,(.int .i8 0)] σ) k) λt21_12=>
  VV.gr (.bool (decide (x.who=2))) true (λk=>VV.rd (Xh [t21_12] σ) k) λt22_13=>
  VV.gr t22_13 false (λk=>VV.rd (Ya 0 [.bptr p 0] σ) k) λt23_14=>
  VV.gr t22_13 false (λk=>VV.rd (Xc false 1 [t23_14] σ) k) λt24_15=>
  VV.gr t22_13 false (λk=>VV.rd (Yh .eql false [t24_15,(.int .i8 1)] σ) k) λt25_16=>
  VV.gr (.bool (decide (x.who=2))) true (λk=>VV.rd (Yi [t22_13,(.bool true),t25_16] σ) k) λt26_17=>
  VV.rd (Yi [(.bool (decide (x.who=2))),t26_17,(.bool false)] σ) K:=by
 rcases YBE (decide (x.who=2)) with h|h
 ·rw[h] at hK ⊢;refine Xa (Za rfl (Xa (Za (ld hB (efLd0 x)) (Xa (Za (Zf ..) (Xa (Za rfl ?_)))))));rcases YBE (decide (x.op=0)) with h0|h0
  ·rw[h0] at hK ⊢;repeat first|refine Zb rfl ?_|refine Qc rfl ?_|refine Yc rfl ?_|refine Zd rfl ?_
   exact Xa (Za rfl (Za rfl hK))
  ·rw[h0] at hK ⊢;exact Xa (Za rfl (Xa (Za (ld hB (efLd0 x)) (Xa (Za (Zf ..) (Xa (Za rfl (Za rfl hK))))))))
 ·rw[h] at hK ⊢;repeat first|refine Zb rfl ?_|refine Qc rfl ?_|refine Yc rfl ?_|refine Zd rfl ?_
  exact Za rfl hK
theorem QcB(x:Ef)(hf:efFit x=true){c:Bool}{σ:List ABlk}{p:Nat}(hB:hget σ p=.box (efC x)){K:List ABlk→AVal→Prop}(hK:K σ (.bool (c||(cntOp x.op&&(nmP x.n).any ptQ)))) :
  VV.gr (.bool c) false (λk=>VV.rd (Ya 0 [.bptr p 0] σ) k) λt29_19=>
  VV.gr (.bool c) false (λk=>VV.rd (Xc false 1 [t29_19] σ) k) λt30_20=>
  VV.gw (.bool c) false (λk=>VV.call (.call 130) [t30_20] σ k) σ λt31_21 σ=>
  VV.gr (.bool c) false (λk=>VV.rd (Xh [t31_21] σ) k) λt32_22=>
  VV.gr t32_22 true (λk=>VV.rd (Ya 2 [.bptr p 0] σ) k) λt33_23=>
  VV.gr t32_22 true (λk=>VV.rd (Xc true 4 [t33_23] σ) k) λt34_24=>
  VV.gw t32_22 true (λk=>VV.call (.call 131) [t34_24] σ k) σ λt35_25 σ=>
  VV.gr (.bool c) false (λk=>VV.rd (Yi [t32_22,t35_25,(.bool false)] σ) k) λt36_26=>
  VV.rd (Yi [(.bool c),(.bool true),t36_26] σ) (K σ):=by
 cases c with
 |true=>
  repeat first|refine Zb rfl ?_|refine Qc rfl ?_|refine Yc rfl ?_|refine Zd rfl ?_
  exact Za rfl hK
 |false=>
  refine Xa (Za rfl (Xa (Za (ld hB (efLd0 x)) (Xb (Yd (c130 _) rfl g130_ok.plain rfl (Xa (Za rfl ?_)))))));rcases YBE (cntOp x.op) with h|h
  ·rw[h] at hK ⊢;exact Xa (Za rfl (Xa (Za (ld hB (efLdN x)) (Xb (Yd (c131 _ (QX hf)) rfl g131_ok.plain (nmRo _) (Xa (Za rfl (Za rfl hK))))))))
  ·rw[h] at hK ⊢;repeat first|refine Zb rfl ?_|refine Qc rfl ?_|refine Yc rfl ?_|refine Zd rfl ?_
   exact Xa (Za rfl (Za rfl hK))
theorem ZcC(x:Ef)(hf:efFit x=true)(h1:PC 91 [efV x.thn] (.bool ((efPs x.thn).any ptQ)))(h2:PC 91 [efV x.els] (.bool ((efPs x.els).any ptQ))){σ:List ABlk}{p:Nat}(hB:hget σ p=.box (efC x)){K:List ABlk→AVal→Prop}(hK:K σ (.bool (decide (x.op=8)&&(((cnP x.c).any ptQ||(efPs x.thn).any ptQ)||(efPs x.els).any ptQ)))) :
  VV.gr (.bool (decide (x.op=8))) true (λk=>VV.rd (Ya 7 [.bptr p 0] σ) k) λt42_31=>
  VV.gr (.bool (decide (x.op=8))) true (λk=>VV.rd (Xc true 5 [t42_31] σ) k) λt43_32=>
  VV.gw (.bool (decide (x.op=8))) true (λk=>VV.call (.call 132) [t43_32] σ k) σ λt44_33 σ=>
  VV.gr (.bool (decide (x.op=8))) true (λk=>VV.rd (Xh [t44_33] σ) k) λt45_34=>
  VV.gr t45_34 false (λk=>VV.rd (Ya 12 [.bptr p 0] σ) k) λt46_35=>
  VV.gr t45_34 false (λk=>VV.rd (Xc false 1 [t46_35] σ) k) λt47_36=>
  VV.gw t45_34 false (λk=>VV.call (.call 91) [t47_36] σ k) σ λt48_37 σ=>
  VV.gr (.bool (decide (x.op=8))) true (λk=>VV.rd (Yi [t45_34,(.bool true),t48_37] σ) k) λt49_38=>
  VV.gr (.bool (decide (x.op=8))) true (λk=>VV.rd (Xh [t49_38] σ) k) λt50_39=>
  VV.gr t50_39 false (λk=>VV.rd (Ya 13 [.bptr p 0] σ) k) λt51_40=>
  VV.gr t50_39 false (λk=>VV.rd (Xc false 1 [t51_40] σ) k) λt52_41=>
  VV.gw t50_39 false (λk=>VV.call (.call 91) [t52_41] σ k) σ λt53_42 σ=>
  VV.gr (.bool (decide (x.op=8))) true (λk=>VV.rd (Yi [t50_39,(.bool true),t53_42] σ) k) λt54_43=>
  VV.rd (Yi [(.bool (decide (x.op=8))),t54_43,(.bool false)] σ) (K σ):=by
 rcases YBE (decide (x.op=8)) with h|h
 rotate_left
 ·rw[h] at hK ⊢;repeat first|refine Zb rfl ?_|refine Qc rfl ?_|refine Yc rfl ?_|refine Zd rfl ?_
  exact Za rfl hK
 rw[h] at hK ⊢;refine Xa (Za rfl (Xa (Za (ld hB (efLdC x)) (Xb (Yd (c132 _ (ZU hf)) rfl g132_ok.plain (cnRo _) (Xa (Za rfl ?_)))))));rcases YBE ((cnP x.c).any ptQ) with hc|hc
 ·rw[hc] at hK ⊢;repeat first|refine Zb rfl ?_|refine Qc rfl ?_|refine Yc rfl ?_|refine Zd rfl ?_
  refine Xa (Za rfl (Xa (Za rfl ?_)));repeat first|refine Zb rfl ?_|refine Qc rfl ?_|refine Yc rfl ?_|refine Zd rfl ?_
  exact Xa (Za rfl (Za rfl hK))
 rw[hc] at hK ⊢;refine Xa (Za rfl (Xa (Za (ld hB (Qp x)) (Xb (Yd h1 rfl g91_ok.plain rfl (Xa (Za rfl (Xa (Za rfl ?_)))))))));rcases YBE ((efPs x.thn).any ptQ) with ht|ht
 ·rw[ht] at hK ⊢;repeat first|refine Zb rfl ?_|refine Qc rfl ?_|refine Yc rfl ?_|refine Zd rfl ?_
  exact Xa (Za rfl (Za rfl hK))
 rw[ht] at hK ⊢;exact Xa (Za rfl (Xa (Za (ld hB (Zq x)) (Xb (Yd h2 rfl g91_ok.plain rfl (Xa (Za rfl (Za rfl hK))))))))
theorem c91':∀(k:Nat) (l:List Ef),SizeOf.sizeOf l≤k→lsFit l=true→PC 91 [efV l] (.bool ((efPs l).any ptQ))
 |0,l,h,_=>by cases l<;>simp at h
 |k+1,l,hk,hf=>by
  refine Xd hP g91_ok rfl rfl ?_;unfold g91;have hlen:=Zz hf;rw[bigE] at hlen;refine Qi (ι:=Nat) (λi vs σ=>vs=[iv i]∧i≤l.length∧(efPs l).any ptQ=(l.drop i).any λy=>(efP y).any ptQ) (λi=>l.length-i) 0 ⟨rfl,by omega,by rw[Zbl]; simp⟩ ?_;rintro i vs σ again ⟨rfl,hi,hu⟩ hag;refine Za rfl (Za rfl ?_);refine Zc (λh=>?_) (λh=>?_)
  ·have h:i<l.length:=by simpa using h
   have hdr:l.drop i=l[i]::l.drop (i+1):=by rw[YLD h]
   rw[hdr,List.any_cons] at hu;have hm:l[i]∈l:=List.getElem_mem h;have hsz:=List.sizeOf_lt_of_mem hm;have hfx:=YH hf hm;have ix:=λ(s:List ABlk)=>Zn s efC false false 14 l .i64 i h;generalize l[i]=x at hu hsz hfx ix;rw[Ycp] at hu;have hs2:=ZY x;refine Za (ix _) (Za (ldr (efLd _)) ?_);refine Qs (row:=efC x) (row':=efC x) (by rw[XA]; rfl) (by rw[XA]; rfl) (by rw[XA]; rfl) ?_;have hB:=Yj σ (ABlk.box (efC x));generalize σ++[ABlk.box (efC x)]=τ at hB ⊢;generalize σ.length=p at hB;refine Za rfl (Za (ld hB (efLd1 x)) (Za (Zf ..) (XcB x hB (QcB x hfx hB ?_))));refine Zc (λhy=>?_) (λhy=>?_)
   ·rw[hu,hy]; rfl
   rw[hy,Bool.false_or] at hu;refine Za rfl (Za (ld hB (efLd0 x)) (Za (Zf ..) (ZcC x hfx (c91' k _ (by omega) (ZH hfx)) (c91' k _ (by omega) (QG hfx)) hB ?_)));refine Zc (λhy=>?_) (λhy=>?_)
   ·rw[hu,hy]; rfl
   rw[hy,Bool.false_or] at hu;refine Za (Qj ..) ?_;rw[Qe (n:=i) (by omega)];exact hag (i+1) _ _ (by omega) ⟨rfl,by omega,hu⟩
  ·have h:i=l.length:=by simp at h; omega
   subst h;rw[List.drop_length] at hu;rw[hu]; rfl
theorem c91(l:List Ef)(hf:lsFit l=true):PC 91 [efV l] (.bool ((efPs l).any ptQ)):=c91' _ l (Nat.le_refl _) hf
theorem c42(c:Cd)(f1:lsFit c.played=true)(f2:lsFit c.dead=true)(f3:lsFit c.dawn=true):PC 42 [.agg (cdC c)] (.bool ((cdP c).any ptQ)):=by
 refine Xd hP g42_ok rfl rfl ?_;unfold g42;refine Zh rfl rfl (Za rfl (Za rfl (Yd (c91 _ f1) rfl g91_ok.plain rfl ?_)));rw[show (cdP c).any ptQ=(((efPs c.played).any ptQ||(efPs c.dead).any ptQ)||(efPs c.dawn).any ptQ) by simp[cdP,Bool.or_assoc]];rcases YBE ((efPs c.played).any ptQ) with h|h
 ·rw[h];repeat first|refine Zb rfl ?_|refine Qc rfl ?_|refine Yc rfl ?_|refine Zd rfl ?_
  refine Za rfl ?_;repeat first|refine Zb rfl ?_|refine Qc rfl ?_|refine Yc rfl ?_|refine Zd rfl ?_
  exact Za rfl rfl
 rw[h];refine Xa (Za rfl (Xa (Za rfl (Xb (Yd (c91 _ f2) rfl g91_ok.plain rfl (Za rfl ?_))))));rcases YBE ((efPs c.dead).any ptQ) with h2|h2
 ·rw[h2];repeat first|refine Zb rfl ?_|refine Qc rfl ?_|refine Yc rfl ?_|refine Zd rfl ?_
  exact Za rfl rfl
 rw[h2];exact Xa (Za rfl (Xa (Za rfl (Xb (Yd (c91 _ f3) rfl g91_ok.plain rfl (Za rfl rfl))))))
end Go.Ah.Tz
end
section
namespace Go.Ah.Tz
open Go.Proofs.Tryz (prog)
attribute [local irreducible] Ans.rd Ans.pu Ans.wr Ans.dr Ans.gr Ans.gw Ans.gl Ans.gd Ans.opt joinK W
set_option maxHeartbeats 1000000
def stepN(f:Bool)(p:Pt):Bool×Bool:=(f||ptQ p,!(f||ptQ p))
theorem YcI:∀(l:List Pt) (f:Bool),f=false→(runL stepN f l).1=l.any ptQ
 |[],f,h=>by subst h; rfl
 |p::l,f,h=>by
  subst h;simp only[runL,stepN,Bool.false_or,List.any_cons];cases h:ptQ p
  ·simp only[Bool.not_false,if_true,Bool.false_or]; exact YcI l false rfl
  ·simp
theorem clo233(b:Nat):Clo (.func (.func 233) [] [.bptr b 0]) b (λf:Bool=>[.bool f]) stepN:=by
 intro p v hv f σ K hb hK;refine Qy hP rfl g233_ok rfl ?_;show g233 VV [v,.bptr b 0] σ K;unfold g233;have hlt:=Zo hb (by simp);have hend:∀τ,Bt b σ τ→hget τ b=.box [.bool (f||ptQ p)]→VV.rd (Xc false 1 [.bptr b 0] τ) λt=>VV.rd (Qn .not [t] τ) λu=>K u τ:=λτ h1 h2=>Za (ld h2 rfl) (Za rfl (hK _ h1 h2));have hb0:∀x,hget (σ++[ABlk.box x]) b=.box [.bool f]:=λx=>Xj _ hb (by simp);have bt0:∀x,Bt b σ (σ++[ABlk.box x]):=λx=>⟨by simp,λc hc _=>Yt _ hc⟩;cases hv with
 |ef x=>
  refine Za rfl (Za rfl (Za rfl ?_));refine Qs (row:=[.rptr (efC x) 0]) (row':=[.rptr (efC x) 0]) rfl rfl rfl ?_;refine Yk λk4 hk4=>Ze ?_;have hx:=Yj σ (ABlk.box [.rptr (efC x) 0]);have k4d:∀τ,Bt b σ τ→hget τ b=.box [.bool (f||ptQ (.ef x))]→k4 [] τ:=by
   intro τ h1 h2;rw[hk4];refine Za rfl (Za rfl (Za rfl ?_));refine Qs (row:=[.nilp]) (row':=[.nilp]) rfl rfl rfl ?_;refine XM (Xi (hend _ (h1.trans ⟨by simp,λc hc _=>Yt _ hc⟩) (Xj _ h2 (by simp))))
  clear hk4;refine Za (ld (hb0 _) rfl) ?_;have hst:∀q,q=(f||ptQ (.ef x))→VV.wr (Qb 1 [.bptr b 0,.bool q] (σ++[ABlk.box [.rptr (efC x) 0]])) (σ++[ABlk.box [.rptr (efC x) 0]]) λ_ τ=>k4 [] τ:=by
   rintro q rfl;exact Zh (stv (hb0 _) rfl rfl rfl) (Ys _ (by simp; omega)) (k4d _ ((bt0 _).trans ⟨by simp,λc hc hne=>Yq _ hc hne⟩) (Xp _ (by simp; omega)))
  cases f with
  |true=>
   repeat first|refine Zb rfl ?_|refine Qc rfl ?_|refine Yc rfl ?_|refine Zd rfl ?_
   exact Za rfl (hst _ rfl)
  |false=>
   refine Xa (Za rfl (Xa (Za (ld hx rfl) (Xa (Za rfl (Xa (Za rfl (Xa (Za (ldr (efLd1 x)) (Xa (Za (Zf ..) (Xa (Za rfl ?_)))))))))))));rcases YBE (decide (x.who=2)) with h|h
   rotate_left
   ·rw[h];repeat first|refine Zb rfl ?_|refine Qc rfl ?_|refine Yc rfl ?_|refine Zd rfl ?_
    exact Xa (Za rfl (Za rfl (hst _ (by simp[ptQ,h]))))
   rw[h];refine Xa (Za rfl (Xa (Za (ld hx rfl) (Xa (Za rfl (Xa (Za rfl (Xa (Za (ldr (efLd0 x)) (Xa (Za (Zf ..) (Xa (Za rfl ?_)))))))))))));rcases YBE (decide (x.op=0)) with h0|h0
   ·rw[h0];repeat first|refine Zb rfl ?_|refine Qc rfl ?_|refine Yc rfl ?_|refine Zd rfl ?_
    exact Xa (Za rfl (Xa (Za rfl (Za rfl (hst _ (by simp[ptQ,h,h0]))))))
   rw[h0];exact Xa (Za rfl (Xa (Za (ld hx rfl) (Xa (Za rfl (Xa (Za rfl (Xa (Za (ldr (efLd0 x)) (Xa (Za (Zf ..) (Xa (Za rfl (Xa (Za rfl (Za rfl (hst _ (by simp[ptQ,h,h0]))))))))))))))))))
 |nm row j x hx=>
  refine Za rfl (Za rfl (Za rfl ?_));refine Qs (row:=[.nilp]) (row':=[.nilp]) rfl rfl rfl ?_;refine XM (Xi ?_);have hb1:=hb0 [.nilp];have bt1:=bt0 [.nilp];generalize σ++[ABlk.box [.nilp]]=τ at hb1 bt1 ⊢;have hlt1:=Zo hb1 (by simp);refine Za rfl (Za rfl (Za rfl ?_));refine Qs (row:=[.rptr row j]) (row':=[.rptr row j]) rfl rfl rfl ?_;refine Yk λk34 hk34=>Ze ?_;have hy:=Yj τ (ABlk.box [.rptr row j]);have hb2:hget (τ++[ABlk.box [.rptr row j]]) b=.box [.bool f]:=Xj _ hb1 (by simp);refine Za (ld hb2 rfl) ?_;have hst:∀q,q=(f||ptQ (.nm x))→VV.wr (Qb 1 [.bptr b 0,.bool q] (τ++[ABlk.box [.rptr row j]])) (τ++[ABlk.box [.rptr row j]]) λ_ τ=>k34 [] τ:=by
   rintro q rfl;refine Zh (stv hb2 rfl rfl rfl) (Ys _ (by simp; omega)) ?_;rw[hk34];exact hend _ ((bt1.trans ⟨by simp,λc hc _=>Yt _ hc⟩).trans ⟨by simp,λc hc hne=>Yq _ hc hne⟩) (Xp _ (by simp; omega))
  cases f with
  |true=>
   repeat first|refine Zb rfl ?_|refine Qc rfl ?_|refine Yc rfl ?_|refine Zd rfl ?_
   exact Za rfl (hst _ rfl)
  |false=>
   exact Xa (Za rfl (Xa (Za (ld hy rfl) (Xa (Za rfl (Xa (Za rfl (Xa (Za (ldr hx.h0) (Xa (Za (Zf ..) (Za rfl (hst _ rfl)))))))))))))
 |cn row j x hx=>
  refine Za rfl (Za rfl (Za rfl ?_));refine Qs (row:=[.nilp]) (row':=[.nilp]) rfl rfl rfl ?_;refine XM (Xi ?_);refine Za rfl (Za rfl (Za rfl ?_));refine Qs (row:=[.nilp]) (row':=[.nilp]) rfl rfl rfl ?_;refine XM (Xi (hend _ ((bt0 _).trans ⟨by simp,λc hc _=>Yt _ hc⟩) ?_));rw[show (f||ptQ (.cn x))=f by simp[ptQ]];exact Xj _ (hb0 _) (by simp)
theorem c214(c:Cd)(f1:lsFit c.played=true)(f2:lsFit c.dead=true)(f3:lsFit c.dawn=true)(hN:(cdP c).length≤500000000):PC 214 [.agg (cdC c)] (.bool ((cdP c).any ptQ)):=by
 refine Xd hP g214_ok rfl rfl ?_;unfold g214;refine Zh rfl rfl (Zh rfl rfl (Zh rfl rfl (Za rfl ?_)));refine Qy hP rfl g155_ok rfl ?_;refine c155 (clo233 1) c f1 f2 f3 hN (s:=false) rfl rfl (λσ' _ hb=>?_);rw[YcI _ false rfl] at hb;exact Za (ld hb rfl) rfl
end Go.Ah.Tz
end
section
namespace Go.Ah.Tz
open Go.Proofs.Tryz (prog)
attribute [local irreducible] Ans.rd Ans.pu Ans.wr Ans.dr Ans.gr Ans.gw Ans.gl Ans.gd Ans.opt joinK W
set_option maxHeartbeats 4000000
@[reducible] def aR(y0 y1 y2:AVal)(side place target:Int):List AVal:=[y0,iv side,iv place,iv target,y1,y2]
def QM(b:Bk)(x:Sd)(place:Int):Cd:=(b.cards[((x.hand[place.toNat]?).getD 0).toNat]?).getD default
def aimF(s:St)(target:Int):Bool:=decide (target = -2)||(decide (target = -3)||(decide (target>0)&&(unitR s target).2.2))
def playF(b:Bk)(s:St)(x:Sd)(place target:Int):Bool:=
 (decide (s.phase=0)&&(decide (0≤place)&&decide (place<(x.hand.length:Int))))&&(!(decide ((QM b x place).cost>x.mana)||((QM b x place).unit&&decide ((x.units.length:Int) ≥ 7)))&&(if (cdP (QM b x place)).any ptQ=true then aimF s target else decide (target = -1)))
@[reducible] def zCdC:List AVal:=[.str [],.bool false,iv 0,iv 0,iv 0,iv 0,iv 0,iv 0,.nils,.nils,.nils,iv 0]
theorem Zcm{row:List AVal}{j:Nat}{x:Sd}(hx:SdAt row j x)(u:Bool){σ:List ABlk}{K:AVal→Prop}(hK:K (.bool (u&&decide ((x.units.length:Int) ≥ 7)))) :
  VV.gr (.bool u) true (λk=>VV.rd (Xh [.rptr row j] σ) k) λt74_74=>
  VV.gr (.bool u) true (λk=>VV.rd (Qa [t74_74] σ) k) λt75_75=>
  VV.gr (.bool u) true (λk=>VV.rd (Ya 6 [t75_75] σ) k) λt76_76=>
  VV.gr (.bool u) true (λk=>VV.rd (Xc false 1 [t76_76] σ) k) λt77_77=>
  VV.gr (.bool u) true (λk=>VV.rd (Xe [t77_77] σ) k) λt78_78=>
  VV.gr (.bool u) true (λk=>VV.rd (Yh .geq false [t78_78,(.int .i64 7)] σ) k) λt79_79=>
  VV.gr (.bool false) false (λk=>VV.rd (Yi [(.bool u),t79_79,(.bool false)] σ) k) λt80_80=>
  VV.rd (Yi [(.bool false),(.bool true),t80_80] σ) K:=by
 cases u with
 |false=>
  repeat first|refine Zb rfl ?_|refine Qc rfl ?_|refine Yc rfl ?_|refine Zd rfl ?_
  exact Xa (Za rfl (Za rfl hK))
 |true=>
  exact Xa (Za rfl (Xa (Za rfl (Xa (Za rfl (Xa (Za (ldr hx.h6) (Xa (Za (v:=iv x.units.length) (rd:=[]) (by simp[Qf]) (Xa (Za (Zaa ..) (Xa (Za rfl (Za rfl hK))))))))))))))
theorem Ycm{y1 y2 z0 z1 z2:AVal}{side place target:Int}{c ok:Bool}{σ:List ABlk}(hB:hget σ 0=.box [y1,y2,.rptr (aR z0 z1 z2 side place target) 0]){K:AVal→Prop}(hK:K (.bool (c||(decide (target>0)&&ok)))) :
  VV.gr (.bool c) false (λk=>VV.rd (Ya 2 [.bptr 0 0] σ) k) λt120_122=>
  VV.gr (.bool c) false (λk=>VV.rd (Xc false 1 [t120_122] σ) k) λt121_123=>
  VV.gr (.bool c) false (λk=>VV.rd (Qa [t121_123] σ) k) λt122_124=>
  VV.gr (.bool c) false (λk=>VV.rd (Ya 3 [t122_124] σ) k) λt123_125=>
  VV.gr (.bool c) false (λk=>VV.rd (Xc false 1 [t123_125] σ) k) λt124_126=>
  VV.gr (.bool c) false (λk=>VV.rd (Yh .gtr false [t124_126,(.int .i64 0)] σ) k) λt125_127=>
  VV.gr (.bool c) false (λk=>VV.rd (Xh [t125_127] σ) k) λt126_128=>
  VV.gr t126_128 true (λk=>VV.rd (Xh [(.bool ok)] σ) k) λt127_129=>
  VV.gr (.bool c) false (λk=>VV.rd (Yi [t126_128,t127_129,(.bool false)] σ) k) λt128_130=>
  VV.rd (Yi [(.bool c),(.bool true),t128_130] σ) K:=by
 cases c with
 |true=>
  repeat first|refine Zb rfl ?_|refine Qc rfl ?_|refine Yc rfl ?_|refine Zd rfl ?_
  exact Za rfl hK
 |false=>
  refine Xa (Za rfl (Xa (Za (ld hB rfl) (Xa (Za rfl (Xa (Za rfl (Xa (Za (ldr rfl) (Xa (Za (YD ..) (Xa (Za rfl ?_)))))))))))));generalize decide (target>0)=p at hK ⊢;cases p with
  |true=>exact Xa (Za rfl (Xa (Za rfl (Za rfl hK))))
  |false=>
   repeat first|refine Zb rfl ?_|refine Qc rfl ?_|refine Yc rfl ?_|refine Zd rfl ?_
   exact Xa (Za rfl (Za rfl hK))
theorem c158(b:Bk)(hf:bkFit b=true)(hsm:YG b.cards)(s:St)(hs:StLe 1000000000 s)(side:Int)(j:Nat)(x:Sd)(hx:SdAt (stC s) j x)(hj:∀σ,Qg 2 8 [.rptr (stC s) (0+7),iv side] σ=.ok (.rptr (stC s) j) [] [])(hc:∀c∈x.hand,0≤c∧c.toNat<b.cards.length)(place target:Int){y0 y1 y2:AVal}:PC 158 [.agg [.rptr (bkC b) 0,.rptr (stC s) 0,.rptr (aR y0 y1 y2 side place target) 0]] (.bool (playF b s x place target)):=by
 refine Xd hP g158_ok rfl rfl ?_;unfold g158;refine Zh (v:=.bptr 0 0) (rd:=[]) (up:=[(0,.box [.rptr (bkC b) 0,.rptr (stC s) 0,.rptr (aR y0 y1 y2 side place target) 0])]) rfl rfl ?_;refine Za rfl (Za rfl (Za rfl (Za rfl (Za rfl (Za rfl (Za rfl (Za rfl (Za rfl (Za (hj _) ?_)))))))));refine Za rfl (Za rfl (Za rfl (Za rfl (Za rfl (Za (YF ..) ?_)))));refine YaK (λ_=>rfl) (λ_=>rfl) (λ_=>rfl) (λ_=>rfl) (λ_=>rfl) (λ_=>Xt ..) ?_;refine Zct (λ_=>rfl) (λ_=>rfl) (λ_=>rfl) (λ_=>rfl) (λ_=>rfl) (λ_=>rfl) (λ_=>rfl) (λ_=>rfl) (λ_=>ldr hx.h4) (v10:=iv x.hand.length) (q10:=[]) (λ_=>by simp[Qf]) (λ_=>Zaa ..) ?_;refine Zc (λh=>?_) (λh=>?_)
 ·refine congrArg AVal.bool (Eq.symm ?_);have h:¬(s.phase=0∧0≤place∧place<(x.hand.length:Int)):=by simp at h; omega
  unfold playF;rw[show (decide (s.phase=0)&&(decide (0≤place)&&decide (place<(x.hand.length:Int))))=false by simpa using h,Bool.false_and]
 have h:s.phase=0∧0≤place∧place<(x.hand.length:Int):=by simp at h; omega
 have hpl:playF b s x place target=(!(decide ((QM b x place).cost>x.mana)||((QM b x place).unit&&decide ((x.units.length:Int) ≥ 7)))&&(if (cdP (QM b x place)).any ptQ=true then aimF s target else decide (target = -1))):=by
  unfold playF;rw[show (decide (s.phase=0)&&(decide (0≤place)&&decide (place<(x.hand.length:Int))))=true by simpa using h,Bool.true_and]
 obtain⟨_,h0,h1⟩:=h;have h2:place.toNat<x.hand.length:=by omega
 have hcc:=hc _ (List.getElem_mem h2);have hcard:QM b x place=b.cards[(x.hand[place.toNat]).toNat]'hcc.2:=by simp[QM,List.getElem?_eq_getElem h2,List.getElem?_eq_getElem hcc.2]
 rw[hcard] at hpl;have hfc:cdFit (b.cards[(x.hand[place.toNat]).toNat]'hcc.2)=true:=by
  simp only[bkFit,XI,Bool.and_eq_true,List.all_eq_true] at hf;exact hf.1.2 _ (List.getElem_mem hcc.2)
 have hsc:=hsm _ (List.getElem_mem hcc.2);have hix:=λ(τ:List ABlk)=>Ybc τ cel false false 1 x.hand .i64 place h0 h2;have hix2:=λ(τ:List ABlk)=>Ybc τ cdC false false 12 b.cards .i64 _ hcc.1 hcc.2;generalize b.cards[(x.hand[place.toNat]).toNat]'hcc.2=cd at hpl hfc hsc hix2;generalize x.hand[place.toNat]=cn at hix hix2;clear hcard hcc h1 h2;refine Zj rfl (Xl rfl rfl (Zj rfl (Zj rfl (Xl rfl rfl (Zj rfl (Zj rfl (Xl (ldr hx.h4) (Zl _) ?_)))))));refine Zj rfl (Xl rfl rfl (Zj rfl (Zj rfl (Xl rfl rfl (Xl (hix _) (Zl _) (Xl (ldr rfl) (Zl _) (Xl (hix2 _) (Zl _) (Xl (ldr (cdLd _)) (Zl _) ?_))))))));refine Xl (v:=.bptr 1 0) (rd:=[]) (up:=[(1,.box zCdC)]) rfl rfl ?_;refine Xl (v:=.junk) (rd:=[]) (up:=[(1,.box (cdC cd))]) rfl rfl (QC (by rfl) ?_);refine Za rfl (Za rfl (Za rfl (Za rfl (Za (ldr hx.h1) (Za (YD ..) ?_)))));have hend:playF b s x place target=false→(.bool false:AVal)=.bool (playF b s x place target):=λh=>by rw[h]
 generalize decide (cd.cost>x.mana)=c1 at hpl ⊢;cases c1 with
 |true=>
  repeat first|refine Zb rfl ?_|refine Qc rfl ?_|refine Yc rfl ?_|refine Zd rfl ?_
  exact Za rfl (Ze (hend (by rw[hpl]; simp)))
 |false=>
 refine Xa (Za rfl (Xa (Za (v:=.bool cd.unit) (rd:=[1]) rfl (Xa (Za rfl ?_)))));refine Zcm hx cd.unit (Zc (λh=>?_) (λh=>?_))
 ·exact hend (by rw[hpl,h]; simp)
 rw[h,Bool.or_false,Bool.not_false,Bool.true_and] at hpl;clear h;simp only[cdFit,Bool.and_eq_true] at hfc;refine Za (v:=.agg (cdC cd)) (rd:=[1]) rfl (Yd (c214 cd hfc.2.1 hfc.2.2.1 hfc.2.2.2 hsc) rfl g214_ok.plain rfl (Za rfl ?_));generalize (cdP cd).any ptQ=q at hpl ⊢;cases q with
 |false=>
  rw[if_neg (by simp)] at hpl;rw[hpl];exact Ze (Za rfl (Za rfl (Za rfl (Za rfl (Za (ldr rfl) (Za (Zf ..) rfl))))))
 |true=>
  rw[if_pos rfl] at hpl;rw[hpl];refine Xi (Zj rfl (Xl rfl rfl (Zj rfl (Xl (v:=stV s) (rd:=[]) rfl rfl (Zj rfl (Xl rfl rfl (Zj rfl (Zj rfl (Xl (ldr rfl) rfl ?_)))))))));refine Xk (c71 s hs target) rfl g71_ok.plain rfl (Zj rfl (Zj rfl (Zj rfl (QC (by rfl) ?_))));refine Za rfl (Za rfl (Za rfl (Za rfl (Za (ldr rfl) (Za (Zf ..) ?_)))));refine YaK (λ_=>rfl) (λ_=>rfl) (λ_=>rfl) (λ_=>rfl) (λ_=>ldr rfl) (λ_=>Zf ..) ?_;refine Ycm rfl ?_;exact congrArg AVal.bool (by rw[aimF,Bool.or_assoc])
def whoF(s:St):Int:=if s.phase=0 then s.mover else if s.phase=1 then 1-s.mover else 0
theorem c37(s:St)(hm:s.mover=0∨s.mover=1):PC 37 [stV s] (iv (whoF s)):=by
 refine Xd hP g37_ok rfl rfl ?_;unfold g37;refine Zh rfl rfl (Za rfl (Za rfl ?_));refine Za (v:=iv s.mover) (rd:=[]) (by rcases hm with h|h<;>rw[h]<;>rfl) ?_;refine Za rfl (Za rfl (Za (Zf ..) ?_));refine Zc (λh=>?_) (λh=>?_)
 ·exact congrArg iv (by rw[whoF,if_pos (by simpa using h)])
 have h0:¬s.phase=0:=by simpa using h
 refine Za (Zf ..) (Zc (λh=>?_) (λh=>?_))
 ·refine Za (v:=iv (1-s.mover)) (rd:=[]) (by rcases hm with h|h<;>rw[h]<;>rfl) ?_;exact congrArg iv (by rw[whoF,if_neg h0,if_pos (by simpa using h)])
 ·exact congrArg iv (by rw[whoF,if_neg h0,if_neg (by simpa using h)])
theorem c127:PC 127 [] (.agg [.func (.func 158) [] [],.func (.func 159) [] [],.func (.func 160) [] [],.func (.func 161) [] [],.func (.func 162) [] []]):=by
 refine Xd hP g127_ok rfl rfl ?_;unfold g127;exact Zh rfl rfl (Za rfl (Zh rfl rfl (Zw rfl rfl)))
theorem c55(b:Bk)(hf:bkFit b=true)(hsm:YG b.cards)(s:St)(hs:StLe 1000000000 s):PC 55 [bkV b,stV s] (iv (bif mayR (bkR b).1 b s false then 0 else 170)):=by
 refine Xd hP g55_ok rfl rfl ?_;unfold g55;refine Zh (v:=.bptr 0 0) (rd:=[]) (up:=[(0,.box (bkC b))]) rfl rfl ?_;refine Zh (v:=.bptr 1 0) (rd:=[]) (up:=[(1,.box (stC s))]) rfl rfl ?_;refine Qbg (rd:=[0,1]) (c111 b hf hsm s hs false) rfl g111_ok.plain (.cons (Bor.box (row:=bkC b) rfl (by simp) (BorL.ro rfl)) <| .cons (Bor.box (row:=stC s) rfl (by simp) (BorL.ro rfl)) <| .cons (Bor.ro rfl) .nil) rfl ?_;generalize mayR (bkR b).1 b s false=q;cases q with
 |true=>exact Za rfl (Xi rfl)
 |false=>exact Za rfl (Ze rfl)
end Go.Ah.Tz
end
section
namespace Go.Ah.Tz
open Go.Proofs.Tryz (prog)
structure Ac where
 op:Int
 side:Int
 place:Int
 target:Int
 ids:List Int
 prs:List (Int×Int)
def prC(p:Int×Int):List AVal:=[iv p.1,iv p.2]
@[reducible] def prV(l:List (Int×Int)):AVal:=.rsl false false 2 (l.map prC)
@[reducible] def acC(a:Ac):List AVal:=[iv8 a.op,iv a.side,iv a.place,iv a.target,rowV a.ids,prV a.prs]
def okU(s:St)(side id:Int):Bool:=(unitR s id).2.2&&(decide ((unitR s id).1=side) && !(((if (unitR s id).1=0 then s.s0.units else s.s1.units)[(unitR s id).2.1.toNat]?).getD default).tired)
def attGo(s:St)(side:Int):List Int→List Int→Bool
 |_,[]=>true
 |prev,a::l=>okU s side a&&(!prev.contains a&&attGo s side (prev++[a]) l)
def blkGo(s:St)(side:Int):List (Int×Int)→List (Int×Int)→Bool
 |_,[]=>true
 |prev,p::l=>((s.attack.any λx=>decide (x=p.1))&&((unitR s p.2).2.2&&decide ((unitR s p.2).1=side)))&&(!(prev.any λq=>decide (q.1=p.1)||decide (q.2=p.2))&&blkGo s side (prev++[p]) l)
def bareF(a:Ac):Bool:=!(decide (a.op≠0)&&(decide (a.place≠0)||decide (a.target≠-1)))&&((decide (a.op=1)||decide ((a.ids.length:Int)=0))&&(decide (a.op=2)||decide ((a.prs.length:Int)=0)))
attribute [local irreducible] Ans.rd Ans.pu Ans.wr Ans.dr Ans.gr Ans.gw Ans.gl Ans.gd Ans.opt joinK W
set_option maxHeartbeats 4000000
theorem c38(s:St)(hm:s.mover=0∨s.mover=1):PC 38 [stV s] (iv (whoF s)):=by
 refine Xd hP g38_ok rfl rfl ?_;unfold g38;refine Zh rfl rfl (Za rfl (Za rfl ?_));refine Za (v:=iv s.mover) (rd:=[]) (by rcases hm with h|h<;>rw[h]<;>rfl) ?_;refine Za rfl (Za rfl (Za (Zf ..) ?_));refine Zc (λh=>?_) (λh=>?_)
 ·exact congrArg iv (by rw[whoF,if_pos (by simpa using h)])
 have h0:¬s.phase=0:=by simpa using h
 refine Za rfl (Za rfl (Za (Zf ..) (Zc (λh=>?_) (λh=>?_))))
 ·refine Za (v:=iv (1-s.mover)) (rd:=[]) (by rcases hm with h|h<;>rw[h]<;>rfl) ?_;exact congrArg iv (by rw[whoF,if_neg h0,if_pos (by simpa using h)])
 ·exact congrArg iv (by rw[whoF,if_neg h0,if_neg (by simpa using h)])
theorem XcA(a:Ac){σ:List ABlk}(hB:hget σ 0=.box (acC a)){K:AVal→Prop}(hK:K (.bool (decide (a.op≠0)&&(decide (a.place≠0)||decide (a.target≠-1))))) :
  VV.gr (.bool (decide (a.op≠0))) true (λk=>VV.rd (Ya 2 [.bptr 0 0] σ) k) λt7_4=>
  VV.gr (.bool (decide (a.op≠0))) true (λk=>VV.rd (Xc false 1 [t7_4] σ) k) λt8_5=>
  VV.gr (.bool (decide (a.op≠0))) true (λk=>VV.rd (Yh .neq false [t8_5,(.int .i64 0)] σ) k) λt9_6=>
  VV.gr (.bool (decide (a.op≠0))) true (λk=>VV.rd (Xh [t9_6] σ) k) λt10_7=>
  VV.gr t10_7 false (λk=>VV.rd (Ya 3 [.bptr 0 0] σ) k) λt11_8=>
  VV.gr t10_7 false (λk=>VV.rd (Xc false 1 [t11_8] σ) k) λt12_9=>
  VV.gr t10_7 false (λk=>VV.rd (Yh .neq false [t12_9,(.int .i64 (-1))] σ) k) λt13_10=>
  VV.gr (.bool (decide (a.op≠0))) true (λk=>VV.rd (Yi [t10_7,(.bool true),t13_10] σ) k) λt14_11=>
  VV.rd (Yi [(.bool (decide (a.op≠0))),t14_11,(.bool false)] σ) K:=by
 generalize decide (a.op≠0)=c0 at hK ⊢;cases c0 with
 |false=>
  repeat first|refine Zb rfl ?_|refine Qc rfl ?_|refine Yc rfl ?_|refine Zd rfl ?_
  exact Za rfl hK
 |true=>
  refine Xa (Za rfl (Xa (Za (ld hB rfl) (Xa (Za (YF ..) (Xa (Za rfl ?_)))))));generalize decide (a.place≠0)=c1 at hK ⊢;cases c1 with
  |true=>
   repeat first|refine Zb rfl ?_|refine Qc rfl ?_|refine Yc rfl ?_|refine Zd rfl ?_
   exact Xa (Za rfl (Za rfl hK))
  |false=>
   exact Xa (Za rfl (Xa (Za (ld hB rfl) (Xa (Za (YF ..) (Xa (Za rfl (Za rfl hK))))))))
theorem QcA(a:Ac){σ:List ABlk}(hB:hget σ 0=.box (acC a))(c:Bool){K:AVal→Prop}(hK:K (.bool (c&&(decide (a.op=2)||decide ((a.prs.length:Int)=0))))) :
  VV.gr (.bool c) true (λk=>VV.rd (Ya 0 [.bptr 0 0] σ) k) λt26_21=>
  VV.gr (.bool c) true (λk=>VV.rd (Xc false 1 [t26_21] σ) k) λt27_22=>
  VV.gr (.bool c) true (λk=>VV.rd (Yh .eql false [t27_22,(.int .i8 2)] σ) k) λt28_23=>
  VV.gr (.bool c) true (λk=>VV.rd (Xh [t28_23] σ) k) λt29_24=>
  VV.gr t29_24 false (λk=>VV.rd (Ya 5 [.bptr 0 0] σ) k) λt30_25=>
  VV.gr t29_24 false (λk=>VV.rd (Xc false 1 [t30_25] σ) k) λt31_26=>
  VV.gr t29_24 false (λk=>VV.rd (Xe [t31_26] σ) k) λt32_27=>
  VV.gr t29_24 false (λk=>VV.rd (Yh .eql false [t32_27,(.int .i64 0)] σ) k) λt33_28=>
  VV.gr (.bool c) true (λk=>VV.rd (Yi [t29_24,(.bool true),t33_28] σ) k) λt34_29=>
  VV.rd (Yi [(.bool c),t34_29,(.bool false)] σ) K:=by
 cases c with
 |false=>
  repeat first|refine Zb rfl ?_|refine Qc rfl ?_|refine Yc rfl ?_|refine Zd rfl ?_
  exact Za rfl hK
 |true=>
  refine Xa (Za rfl (Xa (Za (ld hB rfl) (Xa (Za (Zf ..) (Xa (Za rfl ?_)))))));generalize decide (a.op=2)=c1 at hK ⊢;cases c1 with
  |true=>
   repeat first|refine Zb rfl ?_|refine Qc rfl ?_|refine Yc rfl ?_|refine Zd rfl ?_
   exact Xa (Za rfl (Za rfl hK))
  |false=>
   exact Xa (Za rfl (Xa (Za (ld hB rfl) (Xa (Za (v:=iv a.prs.length) (rd:=[]) (by simp[Qf]) (Xa (Za (Zf ..) (Xa (Za rfl (Za rfl hK))))))))))
theorem Xcl(a:Ac){σ:List ABlk}{K:AVal→Prop}(hK:K (.bool (decide (a.op≠0)&&(decide (a.place≠0)||decide (a.target≠-1))))) :
  VV.gr (.bool (decide (a.op≠0))) true (λk=>VV.rd (Xh [.rptr (acC a) 0] σ) k) λt9_4=>
  VV.gr (.bool (decide (a.op≠0))) true (λk=>VV.rd (Qa [t9_4] σ) k) λt10_5=>
  VV.gr (.bool (decide (a.op≠0))) true (λk=>VV.rd (Ya 2 [t10_5] σ) k) λt11_6=>
  VV.gr (.bool (decide (a.op≠0))) true (λk=>VV.rd (Xc false 1 [t11_6] σ) k) λt12_7=>
  VV.gr (.bool (decide (a.op≠0))) true (λk=>VV.rd (Yh .neq false [t12_7,(.int .i64 0)] σ) k) λt13_8=>
  VV.gr (.bool (decide (a.op≠0))) true (λk=>VV.rd (Xh [t13_8] σ) k) λt14_9=>
  VV.gr t14_9 false (λk=>VV.rd (Xh [.rptr (acC a) 0] σ) k) λt15_10=>
  VV.gr t14_9 false (λk=>VV.rd (Qa [t15_10] σ) k) λt16_11=>
  VV.gr t14_9 false (λk=>VV.rd (Ya 3 [t16_11] σ) k) λt17_12=>
  VV.gr t14_9 false (λk=>VV.rd (Xc false 1 [t17_12] σ) k) λt18_13=>
  VV.gr t14_9 false (λk=>VV.rd (Yh .neq false [t18_13,(.int .i64 (-1))] σ) k) λt19_14=>
  VV.gr (.bool (decide (a.op≠0))) true (λk=>VV.rd (Yi [t14_9,(.bool true),t19_14] σ) k) λt20_15=>
  VV.rd (Yi [(.bool (decide (a.op≠0))),t20_15,(.bool false)] σ) K:=by
 generalize decide (a.op≠0)=c0 at hK ⊢;cases c0 with
 |false=>
  repeat first|refine Zb rfl ?_|refine Qc rfl ?_|refine Yc rfl ?_|refine Zd rfl ?_
  exact Za rfl hK
 |true=>
  refine Xa (Za rfl (Xa (Za rfl (Xa (Za rfl (Xa (Za (ldr rfl) (Xa (Za (YF ..) (Xa (Za rfl ?_)))))))))));generalize decide (a.place≠0)=c1 at hK ⊢;cases c1 with
  |true=>
   repeat first|refine Zb rfl ?_|refine Qc rfl ?_|refine Yc rfl ?_|refine Zd rfl ?_
   exact Xa (Za rfl (Za rfl hK))
  |false=>
   exact Xa (Za rfl (Xa (Za rfl (Xa (Za rfl (Xa (Za (ldr rfl) (Xa (Za (YF ..) (Xa (Za rfl (Za rfl hK))))))))))))
theorem Qcl(a:Ac){σ:List ABlk}(c:Bool){K:AVal→Prop}(hK:K (.bool (c&&(decide (a.op=2)||decide ((a.prs.length:Int)=0))))) :
  VV.gr (.bool c) true (λk=>VV.rd (Xh [.rptr (acC a) 0] σ) k) λt36_28=>
  VV.gr (.bool c) true (λk=>VV.rd (Qa [t36_28] σ) k) λt37_29=>
  VV.gr (.bool c) true (λk=>VV.rd (Ya 0 [t37_29] σ) k) λt38_30=>
  VV.gr (.bool c) true (λk=>VV.rd (Xc false 1 [t38_30] σ) k) λt39_31=>
  VV.gr (.bool c) true (λk=>VV.rd (Yh .eql false [t39_31,(.int .i8 2)] σ) k) λt40_32=>
  VV.gr (.bool c) true (λk=>VV.rd (Xh [t40_32] σ) k) λt41_33=>
  VV.gr t41_33 false (λk=>VV.rd (Xh [.rptr (acC a) 0] σ) k) λt42_34=>
  VV.gr t41_33 false (λk=>VV.rd (Qa [t42_34] σ) k) λt43_35=>
  VV.gr t41_33 false (λk=>VV.rd (Ya 5 [t43_35] σ) k) λt44_36=>
  VV.gr t41_33 false (λk=>VV.rd (Xc false 1 [t44_36] σ) k) λt45_37=>
  VV.gr t41_33 false (λk=>VV.rd (Xe [t45_37] σ) k) λt46_38=>
  VV.gr t41_33 false (λk=>VV.rd (Yh .eql false [t46_38,(.int .i64 0)] σ) k) λt47_39=>
  VV.gr (.bool c) true (λk=>VV.rd (Yi [t41_33,(.bool true),t47_39] σ) k) λt48_40=>
  VV.rd (Yi [(.bool c),t48_40,(.bool false)] σ) K:=by
 cases c with
 |false=>
  repeat first|refine Zb rfl ?_|refine Qc rfl ?_|refine Yc rfl ?_|refine Zd rfl ?_
  exact Za rfl hK
 |true=>
  refine Xa (Za rfl (Xa (Za rfl (Xa (Za rfl (Xa (Za (ldr rfl) (Xa (Za (Zf ..) (Xa (Za rfl ?_)))))))))));generalize decide (a.op=2)=c1 at hK ⊢;cases c1 with
  |true=>
   repeat first|refine Zb rfl ?_|refine Qc rfl ?_|refine Yc rfl ?_|refine Zd rfl ?_
   exact Xa (Za rfl (Za rfl hK))
  |false=>
   exact Xa (Za rfl (Xa (Za rfl (Xa (Za rfl (Xa (Za (ldr rfl) (Xa (Za (v:=iv a.prs.length) (rd:=[]) (by simp[Qf]) (Xa (Za (Zf ..) (Xa (Za rfl (Za rfl hK))))))))))))))
theorem c84(a:Ac):PC 84 [.agg (acC a)] (.bool (bareF a)):=by
 refine Xd hP g84_ok rfl rfl ?_;unfold g84;refine Zh rfl rfl (Za rfl (Za rfl (Za (YF ..) ?_)));have hF:(decide (a.op≠0)&&(decide (a.place≠0)||decide (a.target≠-1)))=true→(AVal.bool false=.bool (bareF a)):=λh=>by
  rw[bareF,h]; rfl
 have hT:(decide (a.op≠0)&&(decide (a.place≠0)||decide (a.target≠-1)))=false→(AVal.bool ((decide (a.op=1)||decide ((a.ids.length:Int)=0))&&(decide (a.op=2)||decide ((a.prs.length:Int)=0)))=.bool (bareF a)):=λh=>by
  rw[bareF,h]; rfl
 refine XcA a rfl (Zc (λh=>hF h) (λh=>?_));have hT:=hT h;refine Za rfl (Za rfl (Za (Zf ..) ?_));refine Qa5 (λ_=>rfl) (λ_=>rfl) (v3:=iv a.ids.length) (q3:=[]) (λ_=>by simp[Qf]) (λ_=>Zf ..) ?_;exact QcA a rfl _ hT
theorem c126g(a:Ac):PC 126 [.rptr (acC a) 0] (.bool (bareF a)):=by
 refine Xd hP g126_ok rfl rfl ?_;unfold g126;refine Za rfl (Za rfl (Za (ldr rfl) (Za (YF ..) ?_)));have hF:(decide (a.op≠0)&&(decide (a.place≠0)||decide (a.target≠-1)))=true→(AVal.bool false=.bool (bareF a)):=λh=>by
  rw[bareF,h]; rfl
 have hT:(decide (a.op≠0)&&(decide (a.place≠0)||decide (a.target≠-1)))=false→(AVal.bool ((decide (a.op=1)||decide ((a.ids.length:Int)=0))&&(decide (a.op=2)||decide ((a.prs.length:Int)=0)))=.bool (bareF a)):=λh=>by
  rw[bareF,h]; rfl
 refine Xcl a (Zc (λh=>hF h) (λh=>?_));have hT:=hT h;refine Za rfl (Za rfl (Za (ldr rfl) (Za (Zf ..) ?_)));refine YaK (λ_=>rfl) (λ_=>rfl) (λ_=>rfl) (λ_=>ldr rfl) (v5:=iv a.ids.length) (q5:=[]) (λ_=>by simp[Qf]) (λ_=>Zf ..) ?_;exact Qcl a _ hT
end Go.Ah.Tz
end
section
namespace Go.Ah.Tz
open Go.Proofs.Tryz (prog)
@[reducible] def sdC8(x:Sd):List AVal:=[iv x.life,iv x.mana,iv x.most,rowV x.deck,rowV x.hand,rowV x.grave,thV x.units,rowV x.told]
def playR(b:Bk)(s:St)(x:Sd)(place target:Int):Bool:=
 (decide (0≤place)&&decide (place<(x.hand.length:Int)))&&(!(decide ((QM b x place).cost>x.mana)||((QM b x place).unit&&decide ((x.units.length:Int) ≥ 7)))&&(if (cdP (QM b x place)).any ptQ=true then aimF s target else decide (target = -1)))
theorem Qcr(b:Bk)(s:St)(x:Sd)(place target:Int):playF b s x place target=(decide (s.phase=0)&&playR b s x place target):=by
 rw[playF,playR,Bool.and_assoc]
attribute [local irreducible] Ans.rd Ans.pu Ans.wr Ans.dr Ans.gr Ans.gw Ans.gl Ans.gd Ans.opt joinK W
set_option maxHeartbeats 4000000
theorem ZcB{x:Sd}(u:Bool){σ:List ABlk}(hB:hget σ 3=.box (sdC8 x)){K:AVal→Prop}(hK:K (.bool (u&&decide ((x.units.length:Int) ≥ 7)))) :
  VV.gr (.bool u) true (λk=>VV.rd (Ya 6 [.bptr 3 0] σ) k) λt47_47=>
  VV.gr (.bool u) true (λk=>VV.rd (Xc false 1 [t47_47] σ) k) λt48_48=>
  VV.gr (.bool u) true (λk=>VV.rd (Xe [t48_48] σ) k) λt49_49=>
  VV.gr (.bool u) true (λk=>VV.rd (Yh .geq false [t49_49,(.int .i64 7)] σ) k) λt50_50=>
  VV.gr (.bool false) false (λk=>VV.rd (Yi [(.bool u),t50_50,(.bool false)] σ) k) λt51_51=>
  VV.rd (Yi [(.bool false),(.bool true),t51_51] σ) K:=by
 cases u with
 |false=>
  repeat first|refine Zb rfl ?_|refine Qc rfl ?_|refine Yc rfl ?_|refine Zd rfl ?_
  exact Xa (Za rfl (Za rfl hK))
 |true=>
  exact Xa (Za rfl (Xa (Za (ld hB rfl) (Xa (Za (v:=iv x.units.length) (rd:=[]) (by simp[Qf]) (Xa (Za (Zaa ..) (Xa (Za rfl (Za rfl hK))))))))))
theorem c86(b:Bk)(hf:bkFit b=true)(s:St)(hs:StLe 1000000000 s)(a:Ac)(j:Nat)(x:Sd)(hx:partA true j 8 (stC s)=some (.agg (sdC8 x)))(hj:∀σ,Qg 2 8 [.bptr 1 (0+7),iv a.side] σ=.ok (.bptr 1 j) [] [])(hc:∀c∈x.hand,0≤c∧c.toNat<b.cards.length):PC 86 [bkV b,stV s,.agg (acC a)] (.bool (playR b s x a.place a.target)):=by
 refine Xd hP g86_ok rfl rfl ?_;unfold g86;refine Zh (v:=.bptr 0 0) (rd:=[]) (up:=[(0,.box (bkC b))]) rfl rfl ?_;refine Zh (v:=.bptr 1 0) (rd:=[]) (up:=[(1,.box (stC s))]) rfl rfl ?_;refine Zh (v:=.bptr 2 0) (rd:=[]) (up:=[(2,.box (acC a))]) rfl rfl ?_;refine Za rfl (Za rfl (Za rfl (Za (hj _) (Za (v:=.agg (sdC8 x)) (rd:=[1]) (ld (row:=stC s) rfl hx) ?_))));refine Zh (v:=.bptr 3 0) (rd:=[]) (up:=[(3,.box [iv 0,iv 0,iv 0,.nils,.nils,.nils,.nils,.nils])]) rfl rfl ?_;refine Zh (v:=.junk) (rd:=[]) (up:=[(3,.box (sdC8 x))]) rfl rfl ?_;refine Za rfl (Za rfl (Za (Xt ..) ?_));refine YaK (λ_=>rfl) (λ_=>rfl) (λ_=>rfl) (λ_=>rfl) (v5:=iv x.hand.length) (q5:=[]) (λ_=>by simp[Qf]) (λ_=>Zaa ..) ?_;refine Zc (λh=>?_) (λh=>?_)
 ·refine congrArg AVal.bool (Eq.symm ?_);have h:¬(0≤a.place∧a.place<(x.hand.length:Int)):=by simp at h; omega
  unfold playR;rw[show (decide (0≤a.place)&&decide (a.place<(x.hand.length:Int)))=false by simpa using h,Bool.false_and]
 have h:0≤a.place∧a.place<(x.hand.length:Int):=by simp at h; omega
 have hpl:playR b s x a.place a.target=(!(decide ((QM b x a.place).cost>x.mana)||((QM b x a.place).unit&&decide ((x.units.length:Int) ≥ 7)))&&(if (cdP (QM b x a.place)).any ptQ=true then aimF s a.target else decide (a.target = -1))):=by
  unfold playR;rw[show (decide (0≤a.place)&&decide (a.place<(x.hand.length:Int)))=true by simpa using h,Bool.true_and]
 obtain⟨h0,h1⟩:=h;have h2:a.place.toNat<x.hand.length:=by omega
 have hcc:=hc _ (List.getElem_mem h2);have hcard:QM b x a.place=b.cards[(x.hand[a.place.toNat]).toNat]'hcc.2:=by simp[QM,List.getElem?_eq_getElem h2,List.getElem?_eq_getElem hcc.2]
 rw[hcard] at hpl;have hfc:cdFit (b.cards[(x.hand[a.place.toNat]).toNat]'hcc.2)=true:=by
  simp only[bkFit,XI,Bool.and_eq_true,List.all_eq_true] at hf;exact hf.1.2 _ (List.getElem_mem hcc.2)
 have hix:=λ(τ:List ABlk)=>Ybc τ cel false false 1 x.hand .i64 a.place h0 h2;have hix2:=λ(τ:List ABlk)=>Ybc τ cdC false false 12 b.cards .i64 _ hcc.1 hcc.2;generalize b.cards[(x.hand[a.place.toNat]).toNat]'hcc.2=cd at hpl hfc hix2;generalize x.hand[a.place.toNat]=cn at hix hix2;clear hcard hcc h1 h2 h0;refine Zj rfl (Xl rfl rfl (Zj rfl (Xl rfl rfl (Zj rfl (Xl rfl rfl (Xl (hix _) (Zl _) (Xl (ldr rfl) (Zl _) (Xl (hix2 _) (Zl _) (Xl (ldr (cdLd _)) (Zl _) ?_)))))))));refine Xl (v:=.bptr 4 0) (rd:=[]) (up:=[(4,.box zCdC)]) rfl rfl ?_;refine Xl (v:=.junk) (rd:=[]) (up:=[(4,.box (cdC cd))]) rfl rfl (QC (by rfl) ?_);refine Za rfl (Za rfl (Za rfl (Za rfl (Za (YD ..) ?_))));have hend:playR b s x a.place a.target=false→(.bool false:AVal)=.bool (playR b s x a.place a.target):=λh=>by rw[h]
 generalize decide (cd.cost>x.mana)=c1 at hpl ⊢;cases c1 with
 |true=>
  repeat first|refine Zb rfl ?_|refine Qc rfl ?_|refine Yc rfl ?_|refine Zd rfl ?_
  exact Za rfl (Ze (hend (by rw[hpl]; simp)))
 |false=>
 refine Xa (Za rfl (Xa (Za (v:=.bool cd.unit) (rd:=[4]) rfl (Xa (Za rfl ?_)))));refine ZcB (x:=x) cd.unit rfl (Zc (λh=>?_) (λh=>?_))
 ·exact hend (by rw[hpl,h]; simp)
 rw[h,Bool.or_false,Bool.not_false,Bool.true_and] at hpl;clear h;simp only[cdFit,Bool.and_eq_true] at hfc;refine Za (v:=.agg (cdC cd)) (rd:=[4]) rfl (Yd (c42 cd hfc.2.1 hfc.2.2.1 hfc.2.2.2) rfl g42_ok.plain rfl (Za rfl ?_));generalize (cdP cd).any ptQ=q at hpl ⊢;cases q with
 |false=>
  rw[if_neg (by simp)] at hpl;rw[hpl];exact Ze (Za rfl (Za rfl (Za (Zf ..) rfl)))
 |true=>
  rw[if_pos rfl] at hpl;rw[hpl];refine Xi (Za (v:=stV s) (rd:=[1]) rfl (Za rfl (Za rfl ?_)));refine Yd (c23 s hs a.target) rfl g23_ok.plain rfl (Za rfl (Za rfl (Za rfl (Za rfl (Za rfl (Za (YD ..) ?_))))));have hfin:∀q,q=(decide (a.target>0)&&(unitR s a.target).2.2)→AVal.bool ((q||decide (a.target = -2))||decide (a.target = -3))=.bool (aimF s a.target):=by
   rintro q rfl;refine congrArg AVal.bool ?_;unfold aimF;rw[Bool.or_assoc,Bool.or_comm,Bool.or_assoc]
  generalize decide (a.target>0)=p at hfin ⊢;generalize (unitR s a.target).2.2=ok at hfin ⊢;refine Ya5 rfl ?_;refine ZX (λ_=>rfl) (λ_=>rfl) (λ_=>Zf ..) ?_;refine ZX (λ_=>rfl) (λ_=>rfl) (λ_=>Zf ..) ?_;exact hfin _ rfl
end Go.Ah.Tz
end
section
namespace Go.Ah.Tz
open Go.Proofs.Tryz (prog)
theorem QaK(s:St)(id:Int):(∃k:Nat,∃u,unitR s id=(0,(k:Int),true)∧s.s0.units[k]?=some u)∨(∃k:Nat,∃u,unitR s id=(1,(k:Int),true)∧s.s1.units[k]?=some u)∨unitR s id=(0,0,false):=by
 unfold unitR;cases q0:fnd s.s0.units id with
 |some k=>obtain⟨u,hk,_⟩:=Xbm q0; exact .inl ⟨k,u,rfl,hk⟩
 |none=>
  cases q1:fnd s.s1.units id with
  |some k=>obtain⟨u,hk,_⟩:=Xbm q1; exact .inr (.inl ⟨k,u,rfl,hk⟩)
  |none=>exact .inr (.inr rfl)
def attR(s:St)(a:Ac):Bool:=(!(s.struck||decide ((a.ids.length:Int)=0)) && !decide ((a.ids.length:Int)>7))&&attGo s a.side [] a.ids
attribute [local irreducible] Ans.rd Ans.pu Ans.wr Ans.dr Ans.gr Ans.gw Ans.gl Ans.gd Ans.opt joinK W
set_option maxHeartbeats 4000000
theorem YcB(s:St)(a:Ac)(id:Int){σ:List ABlk}(h0:hget σ 0=.box (stC s))(h1:hget σ 1=.box (acC a)){K:AVal→Prop}(hK:K (.bool (!okU s a.side id))) :
  VV.rd (Qn .not [.bool (unitR s id).2.2] σ) λt43_34=>
  VV.gr t43_34 false (λk=>VV.rd (Xh [iv (unitR s id).1] σ) k) λt45_35=>
  VV.gr t43_34 false (λk=>VV.rd (Ya 1 [.bptr 1 0] σ) k) λt46_36=>
  VV.gr t43_34 false (λk=>VV.rd (Xc false 1 [t46_36] σ) k) λt47_37=>
  VV.gr t43_34 false (λk=>VV.rd (Yh .neq false [t45_35,t47_37] σ) k) λt48_38=>
  VV.rd (Yi [t43_34,(.bool true),t48_38] σ) λt49_39=>
  VV.gr t49_39 false (λk=>VV.rd (Xh [iv (unitR s id).1] σ) k) λt51_40=>
  VV.gr t49_39 false (λk=>VV.rd (Ya 7 [.bptr 0 0] σ) k) λt52_41=>
  VV.gr t49_39 false (λk=>VV.rd (Qg 2 8 [t52_41,t51_40] σ) k) λt53_42=>
  VV.gr t49_39 false (λk=>VV.rd (Ya 6 [t53_42] σ) k) λt54_43=>
  VV.gr t49_39 false (λk=>VV.rd (Xc false 1 [t54_43] σ) k) λt55_44=>
  VV.gr t49_39 false (λk=>VV.rd (Xh [iv (unitR s id).2.1] σ) k) λt56_45=>
  VV.gr t49_39 false (λk=>VV.rd (Yb 4 [t55_44,t56_45] σ) k) λt57_46=>
  VV.gr t49_39 false (λk=>VV.rd (Ya 3 [t57_46] σ) k) λt58_47=>
  VV.gr t49_39 false (λk=>VV.rd (Xc false 1 [t58_47] σ) k) λt59_48=>
  VV.rd (Yi [t49_39,(.bool true),t59_48] σ) K:=by
 rcases QaK s id with ⟨k,u,hu,hk⟩|⟨k,u,hu,hk⟩|hu
 ·rw[show okU s a.side id=(decide ((0:Int)=a.side) && !u.tired) by simp[okU,hu,hk]] at hK;rw[hu];have hkl:k<s.s0.units.length:=(YLG hk).1;have hku:s.s0.units[k]=u:=(YLG hk).2;have hix:=λ(τ:List ABlk)=>Zn τ thC false false 4 s.s0.units .i64 k hkl;rw[hku] at hix;refine Za rfl (Xa (Za rfl (Xa (Za rfl (Xa (Za (ld h1 rfl) (Xa (Za (YF ..) (Za rfl ?_)))))))));rw[show decide ((0:Int)≠a.side) = !decide ((0:Int)=a.side) by simp];generalize decide ((0:Int)=a.side)=c at hK ⊢;cases c with
  |false=>
   repeat first|refine Zb rfl ?_|refine Qc rfl ?_|refine Yc rfl ?_|refine Zd rfl ?_
   exact Za rfl hK
  |true=>
   refine Xa (Za rfl (Xa (Za rfl (Xa (Za rfl (Xa (Za rfl (Xa (Za (ld h0 rfl) (Xa (Za rfl (Xa (Za (hix _) (Xa (Za rfl (Xa (Za (v:=.bool u.tired) (rd:=[]) (ldr rfl) (Za rfl ?_))))))))))))))))));have e:(true && !u.tired) = !u.tired:=by simp
   rw[e,Bool.not_not] at hK;exact hK
 ·rw[show okU s a.side id=(decide ((1:Int)=a.side) && !u.tired) by simp[okU,hu,hk]] at hK;rw[hu];have hkl:k<s.s1.units.length:=(YLG hk).1;have hku:s.s1.units[k]=u:=(YLG hk).2;have hix:=λ(τ:List ABlk)=>Zn τ thC false false 4 s.s1.units .i64 k hkl;rw[hku] at hix;refine Za rfl (Xa (Za rfl (Xa (Za rfl (Xa (Za (ld h1 rfl) (Xa (Za (YF ..) (Za rfl ?_)))))))));rw[show decide ((1:Int)≠a.side) = !decide ((1:Int)=a.side) by simp];generalize decide ((1:Int)=a.side)=c at hK ⊢;cases c with
  |false=>
   repeat first|refine Zb rfl ?_|refine Qc rfl ?_|refine Yc rfl ?_|refine Zd rfl ?_
   exact Za rfl hK
  |true=>
   refine Xa (Za rfl (Xa (Za rfl (Xa (Za rfl (Xa (Za rfl (Xa (Za (ld h0 rfl) (Xa (Za rfl (Xa (Za (hix _) (Xa (Za rfl (Xa (Za (v:=.bool u.tired) (rd:=[]) (ldr rfl) (Za rfl ?_))))))))))))))))));have e:(true && !u.tired) = !u.tired:=by simp
   rw[e,Bool.not_not] at hK;exact hK
 ·rw[show okU s a.side id=false by simp[okU,hu]] at hK;rw[hu];refine Za rfl ?_;repeat first|refine Zb rfl ?_|refine Qc rfl ?_|refine Yc rfl ?_|refine Zd rfl ?_
  refine Za rfl ?_;repeat first|refine Zb rfl ?_|refine Qc rfl ?_|refine Yc rfl ?_|refine Zd rfl ?_
  exact Za rfl hK
theorem c87(s:St)(hs:StLe 1000000000 s)(a:Ac)(hl:a.ids.length≤1000000000):PC 87 [stV s,.agg (acC a)] (.bool (attR s a)):=by
 refine Xd hP g87_ok rfl rfl ?_;unfold g87;refine Zh (v:=.bptr 0 0) (rd:=[]) (up:=[(0,.box (stC s))]) rfl rfl ?_;refine Zh (v:=.bptr 1 0) (rd:=[]) (up:=[(1,.box (acC a))]) rfl rfl ?_;have h0:hget ([]++[ABlk.box (stC s)]++[ABlk.box (acC a)]) 0=.box (stC s):=rfl;have h1:hget ([]++[ABlk.box (stC s)]++[ABlk.box (acC a)]) 1=.box (acC a):=rfl;refine Za rfl (Za (v:=.bool s.struck) (rd:=[0]) rfl ?_);refine Qa5 (λ_=>rfl) (λ_=>rfl) (v3:=iv a.ids.length) (q3:=[]) (λ_=>by simp[Qf]) (λ_=>Zf ..) ?_;refine Qa5 (λ_=>rfl) (λ_=>rfl) (v3:=iv a.ids.length) (q3:=[]) (λ_=>by simp[Qf]) (λ_=>YD ..) ?_;refine Zc (λh=>?_) (λh=>?_)
 ·refine congrArg AVal.bool (Eq.symm ?_);rw[attR,←Bool.not_or,h]; rfl
 have hR:attR s a=attGo s a.side [] a.ids:=by rw[attR,←Bool.not_or,h]; rfl
 rw[hR];clear hR h;generalize ([]++[ABlk.box (stC s)]++[ABlk.box (acC a)]:List ABlk)=base at h0 h1 ⊢;refine Qi (ι:=Nat) (λi vs σ=>vs=[iv i]∧σ=base∧i≤a.ids.length∧attGo s a.side [] a.ids=attGo s a.side (a.ids.take i) (a.ids.drop i)) (λi=>a.ids.length-i) 0 ⟨rfl,rfl,by omega,by simp⟩ ?_;rintro i vs σ again ⟨rfl,rfl,hi,hu⟩ hag;refine Za rfl (Za (ld h1 rfl) (Za (v:=iv a.ids.length) (rd:=[]) (by simp[Qf]) (Za (Xt ..) ?_)));refine Zc (λh=>?_) (λh=>?_);rotate_left
 ·have h:i=a.ids.length:=by simp at h; omega
  subst h;rw[List.drop_length] at hu;rw[hu]; rfl
 have h:i<a.ids.length:=by simp at h; omega
 have hix:=λ(τ:List ABlk)=>Zn τ cel false false 1 a.ids .i64 i h;have hdr:a.ids.drop i=a.ids[i]::a.ids.drop (i+1):=by rw[YLD h]
 have htk:a.ids.take (i+1)=a.ids.take i++[a.ids[i]]:=by rw[List.take_succ_eq_append_getElem h]
 rw[hdr,attGo,←htk] at hu;generalize hid:a.ids[i]=id at hix hu htk;refine Xl (ld h0 (v:=stV s) rfl) (Zl _) (Zj rfl (Xl (ld h1 rfl) (Zl _) (Xl (hix _) (Zl _) (Xl (ldr rfl) (Zl _) ?_))));refine Xk (c23 s hs id) rfl g23_ok.plain rfl (Zj rfl (Zj rfl (Zj rfl (QC (by rfl) ?_))));refine YcB s a id h0 h1 (Zc (λhk=>?_) (λhk=>?_))
 ·rw[hu,show okU s a.side id=false by simpa using hk]; rfl
 rw[show okU s a.side id=true by simpa using hk,Bool.true_and] at hu;refine Qi (ι:=Nat) (λj vs τ=>vs=[iv j]∧τ=σ∧j≤i∧∀m (hm:m<a.ids.length),m<j→a.ids[m]≠id) (λj=>i-j) 0 ⟨rfl,rfl,by omega,λm _ hm=>by omega⟩ ?_;rintro j vs τ again2 ⟨rfl,rfl,hj,hn⟩ hag2;refine Za (Xt ..) (Zc (λhj2=>?_) (λhj2=>?_))
 ·have hj2:j<i:=by simpa using hj2
  have hix2:=λ(τ:List ABlk)=>Zn τ cel false false 1 a.ids .i64 j (by omega);refine Za rfl (Za (ld h1 rfl) (Za (hix2 _) (Za (ldr rfl) (Za rfl (Za (ld h1 rfl) (Za (hix _) (Za (ldr rfl) (Za (Zf ..) ?_))))))));refine Zc (λhe=>?_) (λhe=>?_)
  ·have he:a.ids[j]=id:=by simpa using he
   have:(a.ids.take i).contains id=true:=by
    rw[List.contains_iff_mem,←he];exact List.mem_take_iff_getElem.2 ⟨j,by omega,rfl⟩
   rw[hu,this]; rfl
  ·have he:a.ids[j]≠id:=by simpa using he
   refine Za (Qj ..) ?_;rw[Qe (n:=j) (by omega)];exact hag2 (j + 1) _ _ (by omega) ⟨rfl,rfl,by omega,λm hm hm2=>by
    by_cases e:m=j
    ·subst e; exact he
    ·exact hn m hm (by omega)⟩
 ·have hj2:j=i:=by simp at hj2; omega
  subst hj2;have:(a.ids.take j).contains id=false:=by
   rw[←Bool.not_eq_true,List.contains_iff_mem];intro hm;obtain⟨m,hm1,hm2⟩:=List.mem_take_iff_getElem.1 hm;exact hn m (by omega) (by omega) hm2
  rw[this] at hu;refine Za (Qj ..) ?_;rw[Qe (n:=j) (by omega)];exact hag (j+1) _ _ (by omega) ⟨rfl,rfl,by omega,by rw[hu]; rfl⟩
end Go.Ah.Tz
end
section
namespace Go.Ah.Tz
open Go.Proofs.Tryz (prog)
def blkR(s:St)(a:Ac):Bool:=!(decide ((a.prs.length:Int)=0)||decide ((a.prs.length:Int)>7))&&blkGo s a.side [] a.prs
attribute [local irreducible] Ans.rd Ans.pu Ans.wr Ans.dr Ans.gr Ans.gw Ans.gl Ans.gd Ans.opt joinK W
set_option maxHeartbeats 4000000
theorem c85(s:St)(hs:StLe 1000000000 s)(a:Ac)(hl:a.prs.length≤1000000000):PC 85 [stV s,.agg (acC a)] (.bool (blkR s a)):=by
 refine Xd hP g85_ok rfl rfl ?_;unfold g85;have hat:=hs.attack;refine Zh (v:=.bptr 0 0) (rd:=[]) (up:=[(0,.box (stC s))]) rfl rfl ?_;refine Zh (v:=.bptr 1 0) (rd:=[]) (up:=[(1,.box (acC a))]) rfl rfl ?_;have h0:hget ([]++[ABlk.box (stC s)]++[ABlk.box (acC a)]) 0=.box (stC s):=rfl;have h1:hget ([]++[ABlk.box (stC s)]++[ABlk.box (acC a)]) 1=.box (acC a):=rfl;refine Za rfl (Za rfl (Za (v:=iv a.prs.length) (rd:=[]) (by simp[Qf]) (Za (Zf ..) ?_)));refine Qa5 (λ_=>rfl) (λ_=>rfl) (v3:=iv a.prs.length) (q3:=[]) (λ_=>by simp[Qf]) (λ_=>YD ..) ?_;refine Zc (λh=>?_) (λh=>?_)
 ·refine congrArg AVal.bool (Eq.symm ?_);rw[blkR,h]; rfl
 have hR:blkR s a=blkGo s a.side [] a.prs:=by rw[blkR,h]; rfl
 rw[hR];clear hR h;generalize ([]++[ABlk.box (stC s)]++[ABlk.box (acC a)]:List ABlk)=base at h0 h1 ⊢;refine Qi (ι:=Nat) (λi vs σ=>vs=[iv i]∧hget σ 0=.box (stC s)∧hget σ 1=.box (acC a)∧i≤a.prs.length∧blkGo s a.side [] a.prs=blkGo s a.side (a.prs.take i) (a.prs.drop i)) (λi=>a.prs.length-i) 0 ⟨rfl,h0,h1,by omega,by simp⟩ ?_;clear h0 h1 base;rintro i vs σ again ⟨rfl,h0,h1,hi,hu⟩ hag;refine Za rfl (Za (ld h1 rfl) (Za (v:=iv a.prs.length) (rd:=[]) (by simp[Qf]) (Za (Xt ..) ?_)));refine Zc (λh=>?_) (λh=>?_);rotate_left
 ·have h:i=a.prs.length:=by simp at h; omega
  subst h;rw[List.drop_length] at hu;rw[hu]; rfl
 have h:i<a.prs.length:=by simp at h; omega
 have hix:=λ(τ:List ABlk)=>Zn τ prC false false 2 a.prs .i64 i h;have hdr:a.prs.drop i=a.prs[i]::a.prs.drop (i+1):=by rw[YLD h]
 have htk:a.prs.take (i+1)=a.prs.take i++[a.prs[i]]:=by rw[List.take_succ_eq_append_getElem h]
 rw[hdr,blkGo,←htk] at hu;generalize hid:a.prs[i]=p at hix hu htk;refine Za rfl (Za (ld h1 rfl) (Za (hix _) (Za (v:=.agg (prC p)) (rd:=[]) (ldr rfl) ?_)));refine Qs (row:=prC p) (row':=prC p) rfl rfl rfl ?_;have hB:=Yj σ (ABlk.box (prC p));have h0:hget (σ++[ABlk.box (prC p)]) 0=.box (stC s):=Xj _ h0 (by simp);have h1:hget (σ++[ABlk.box (prC p)]) 1=.box (acC a):=Xj _ h1 (by simp);generalize σ++[ABlk.box (prC p)]=τ at hB h0 h1 ⊢;generalize σ.length=bp at hB;refine Qi (ι:=Nat) (λk vs τ'=>vs=[iv k,.bool ((s.attack.take k).any λx=>decide (x=p.1))]∧τ'=τ∧k≤s.attack.length) (λk=>s.attack.length-k) 0 ⟨rfl,rfl,by omega⟩ ?_;rintro k vs τ' again1 ⟨rfl,rfl,hk⟩ hag1;refine Za rfl (Za (ld h0 rfl) (Za (v:=iv s.attack.length) (rd:=[]) (by simp[Qf]) (Za (Xt ..) ?_)));refine Zc (λhk2=>?_) (λhk2=>?_)
 ·have hk2:k<s.attack.length:=by simpa using hk2
  have hix2:=λ(τ:List ABlk)=>Zn τ cel false false 1 s.attack .i64 k hk2;refine Yce (λ_=>rfl) (λ_=>ld h0 rfl) (λ_=>rfl) (λ_=>hix2 _) (λ_=>ldr rfl) (λ_=>rfl) (λ_=>ld hB rfl) (λ_=>Zf ..) ?_;refine Za (Qj ..) ?_;rw[Qe (n:=k) (by omega)];exact hag1 (k+1) _ _ (by omega) ⟨by rw[List.take_succ_eq_append_getElem hk2,List.any_append]; simp,rfl,by omega⟩
 have hk2:k=s.attack.length:=by simp at hk2; omega
 subst hk2;clear hag1;rw[List.take_length];refine Za (ld h0 (v:=stV s) rfl) (Za rfl (Za (ld hB rfl) (Yd (c23 s hs p.2) rfl g23_ok.plain rfl (Za rfl (Za rfl (Za rfl (Za rfl ?_)))))));refine Xa5 (λ_=>rfl) (λ_=>rfl) ?_;refine Qa5 (λ_=>rfl) (λ_=>rfl) (λ_=>ld h1 rfl) (λ_=>YF ..) ?_;rw[show ((!(s.attack.any λx=>decide (x=p.1)) || !(unitR s p.2).2.2)||decide ((unitR s p.2).1≠a.side)) = !((s.attack.any λx=>decide (x=p.1))&&((unitR s p.2).2.2&&decide ((unitR s p.2).1=a.side))) by simp[Bool.not_and,Bool.or_assoc]];refine Zc (λhq=>?_) (λhq=>?_)
 ·rw[hu,show ((s.attack.any λx=>decide (x=p.1))&&((unitR s p.2).2.2&&decide ((unitR s p.2).1=a.side)))=false by rw[Bool.not_eq_true'] at hq; exact hq]; rfl
 rw[show ((s.attack.any λx=>decide (x=p.1))&&((unitR s p.2).2.2&&decide ((unitR s p.2).1=a.side)))=true by rw[Bool.not_eq_false'] at hq; exact hq,Bool.true_and] at hu;clear hq;refine Qi (ι:=Nat) (λj vs τ''=>vs=[iv j]∧τ''=τ'∧j≤i∧((a.prs.take j).any λq=>decide (q.1=p.1)||decide (q.2=p.2))=false) (λj=>i-j) 0 ⟨rfl,rfl,by omega,rfl⟩ ?_;rintro j vs τ'' again2 ⟨rfl,rfl,hj,hn⟩ hag2;refine Za (Xt ..) (Zc (λhj2=>?_) (λhj2=>?_))
 ·have hj2:j<i:=by simpa using hj2
  have hix2:=λ(τ:List ABlk)=>Zn τ prC false false 2 a.prs .i64 j (by omega);refine Za rfl (Za (ld h1 rfl) (Za (hix2 _) (Za rfl (Za (ldr rfl) (Za rfl (Za (ld hB rfl) (Za (Zf ..) ?_)))))));refine QcI (λ_=>rfl) (λ_=>ld h1 rfl) (λ_=>rfl) (λ_=>hix2 _) (λ_=>rfl) (λ_=>ldr rfl) (λ_=>rfl) (λ_=>ld hB rfl) (λ_=>Zf ..) ?_;refine Zc (λhe=>?_) (λhe=>?_)
  ·have hany:((a.prs.take i).any λq=>decide (q.1=p.1)||decide (q.2=p.2))=true:=by
    rw[List.any_eq_true];exact⟨_,List.mem_take_iff_getElem.2 ⟨j,by omega,rfl⟩,he⟩
   rw[hu,hany]; rfl
  ·refine Za (Qj ..) ?_;rw[Qe (n:=j) (by omega)];exact hag2 (j+1) _ _ (by omega) ⟨rfl,rfl,by omega,by rw[List.take_succ_eq_append_getElem (by omega),List.any_append,hn]; simpa using he⟩
 ·have hj2:j=i:=by simp at hj2; omega
  subst hj2;rw[hn] at hu;refine Za (Qj ..) ?_;rw[Qe (n:=j) (by omega)];exact hag (j+1) _ _ (by omega) ⟨rfl,h0,h1,by omega,by rw[hu]; rfl⟩
end Go.Ah.Tz
end
section
namespace Go.Ah.Tz
open Go.Proofs.Tryz (prog)
def wayF(b:Bk)(s:St)(a:Ac):Bool:=if a.op=0 then decide (s.phase=0)&&playR b s (if a.side=0 then s.s0 else s.s1) a.place a.target else if a.op=1 then decide (s.phase=0)&&attR s a else if a.op=2 then decide (s.phase=1)&&blkR s a else true
def badF(a:Ac):Bool:=(((decide (a.side<0)||decide (a.side>1))||decide (a.op<0))||decide (a.op>4)) || !bareF a
def doF(b:Bk)(s:St)(a:Ac):Int:=if badF a=true then 2 else if a.op=4 then 0 else if a.side=whoF s∧wayF b s a=true then 0 else 210
attribute [local irreducible] Ans.rd Ans.pu Ans.wr Ans.dr Ans.gr Ans.gw Ans.gl Ans.gd Ans.opt joinK W
set_option maxHeartbeats 4000000
theorem c36(b:Bk)(hf:bkFit b=true)(s:St)(hs:StLe 1000000000 s)(a:Ac)(hl:a.ids.length≤1000000000)(hl2:a.prs.length≤1000000000):PC 36 [bkV b,stV s,.agg (acC a)] (iv (if mayR (bkR b).1 b s false=true then (if s.phase=2 then 211 else doF b s a) else 170)):=by
 have h67:=c67 b hf;refine Xd hP g36_ok rfl rfl ?_;unfold g36;refine Zh (v:=.bptr 0 0) (rd:=[]) (up:=[(0,.box (bkC b))]) rfl rfl ?_;refine Zh (v:=.bptr 1 0) (rd:=[]) (up:=[(1,.box (stC s))]) rfl rfl ?_;refine Zh (v:=.bptr 2 0) (rd:=[]) (up:=[(2,.box (acC a))]) rfl rfl ?_;refine Za rfl (Za rfl (Yd (c16 b s hs _ _ h67) rfl g16_ok.plain rfl ?_));rcases YBE (mayR (bkR b).1 b s false) with hm|hm
 rotate_left
 ·rw[hm,if_neg (by simp)];exact Za rfl (Ze rfl)
 rw[hm,if_pos rfl];have hM:=(XaO.1 (Qas hm)).2;have hmv:s.mover=0∨s.mover=1:=by have:=hM.hd; unfold HdP at this; omega
 have hcs:∀ {l:List Int} {m:Int},Xo b.cards.length l m=true→∀c∈l,0≤c∧c.toNat<b.cards.length:=λh c hc=>by have:=(Zu.1 h).2 c hc; omega
 refine Za rfl (Xi (Za rfl (Za rfl (Za (Zf ..) (Zc (λh=>?_) (λh=>?_))))))
 ·exact congrArg iv (by rw[if_pos (by simpa using h)])
 rw[if_neg (show ¬s.phase=2 by simpa using h)];clear h;refine Za rfl (Za rfl (Za (Xt ..) ?_));refine ZX (λ_=>rfl) (λ_=>rfl) (λ_=>YD ..) ?_;refine ZX (λ_=>rfl) (λ_=>rfl) (λ_=>Xt ..) ?_;refine ZX (λ_=>rfl) (λ_=>rfl) (λ_=>YD ..) ?_;refine XbX (u0:=.bool (bareF a)) (λ_=>rfl) (λ_ k hk=>Yd (c84 a) rfl g84_ok.plain rfl hk) (λ_=>rfl) (Zc (λh=>?_) (λh=>?_))
 ·exact congrArg iv (by rw[doF,if_pos (show badF a=true from h)])
 have hb:badF a=false:=h;have hd:doF b s a=if a.op=4 then 0 else if a.side=whoF s∧wayF b s a=true then 0 else 210:=by rw[doF,if_neg (by rw[hb]; simp)]
 rw[hd];clear h hd;have hsd:a.side=0∨a.side=1:=by
  simp only[badF,Bool.or_eq_false_iff,decide_eq_false_iff_not] at hb; omega
 refine Za rfl (Za rfl (Za (Zf ..) ?_));by_cases h4:a.op=4
 ·rw[if_pos h4,decide_eq_true h4];refine Zj rfl ?_;repeat first|refine Zb rfl ?_|refine Qc rfl ?_|refine Yc rfl ?_|refine Zd rfl ?_|refine Q6 rfl ?_
  refine Zj rfl (QC (by rfl) ?_);refine XM (Xi (Za rfl (Xi rfl)))
 rw[if_neg h4,decide_eq_false h4];refine Zj rfl (Xa (Zj rfl (XE (Xl rfl rfl (XE (Xl (v:=stV s) (rd:=[1]) rfl rfl (XE (Xk (c38 s hmv) rfl g38_ok.plain rfl (Xa (Zj (Zf ..) (Zj rfl (QC (by rfl) ?_))))))))))));refine Yk λk42 hk42=>?_;have key:∀q:Bool,∀σ,(if q=true then (0:Int) else 210)=(if a.side=whoF s∧wayF b s a=true then 0 else 210)→k42 [.bool q] σ:=by
  rintro q σ h;rw[hk42,←h];cases q with
  |true=>exact Za rfl (Xi rfl)
  |false=>exact Za rfl (Ze rfl)
 clear hk42;refine Zc (λhw=>?_) (λhw=>?_);rotate_left
 ·refine key _ _ ?_;have hw:¬a.side=whoF s:=by simpa using hw
  rw[if_neg (by simp),if_neg (λk=>hw k.1)]
 have hw:a.side=whoF s:=by simpa using hw
 refine Za rfl (Za rfl (Za (Zf ..) ?_));refine Yk λk47 hk47=>?_;have k47d:∀q,q=decide (a.op=3)→k47 [.bool q] ([]++[ABlk.box (bkC b)]++[ABlk.box (stC s)]++[ABlk.box (acC a)]):=by
  rintro q rfl;rw[hk47];refine Za rfl (Za rfl (Za (Zf ..) ?_));refine Yk λk52 hk52=>?_;have k52d:∀q,q=(if a.op=2 then decide (s.phase=1)&&blkR s a else decide (a.op=3))→k52 [.bool q] ([]++[ABlk.box (bkC b)]++[ABlk.box (stC s)]++[ABlk.box (acC a)]):=by
   rintro q rfl;rw[hk52];refine Za rfl (Za rfl (Za (Zf ..) ?_));refine Yk λk64 hk64=>?_;have k64d:∀q,q=(if a.op=0 then decide (s.phase=0)&&playR b s (if a.side=0 then s.s0 else s.s1) a.place a.target else if a.op=2 then decide (s.phase=1)&&blkR s a else decide (a.op=3))→k64 [.bool q] ([]++[ABlk.box (bkC b)]++[ABlk.box (stC s)]++[ABlk.box (acC a)]):=by
    rintro q rfl;rw[hk64];refine Za rfl (Za rfl (Za (Zf ..) (Zc (λh1=>?_) (λh1=>?_))))
    ·have h1:a.op=1:=by simpa using h1
     refine Za rfl (Za rfl (Za (Zf ..) ?_));refine Za5 (d:=attR s a) (λ_=>rfl) (λ_=>rfl) (λ_ k hk=>Yd (c87 s hs a hl) rfl g87_ok.plain rfl hk) (key _ _ ?_);rw[show wayF b s a=(decide (s.phase=0)&&attR s a) by rw[wayF,if_neg (by omega),if_pos h1]];simp[hw]
    ·have h1:¬a.op=1:=by simpa using h1
     refine key _ _ ?_;have h03:0≤a.op∧a.op≤4:=by simp only[badF,Bool.or_eq_false_iff,decide_eq_false_iff_not] at hb; omega
     rw[show wayF b s a=(if a.op=0 then decide (s.phase=0) && playR b s (if a.side=0 then s.s0 else s.s1) a.place a.target else if a.op=2 then decide (s.phase=1) && blkR s a else decide (a.op=3)) by
      unfold wayF;rw[if_neg h1];by_cases e0:a.op=0
      ·rw[if_pos e0,if_pos e0]
      ·rw[if_neg e0,if_neg e0];by_cases e2:a.op=2
       ·rw[if_pos e2,if_pos e2]
       ·rw[if_neg e2,if_neg e2,decide_eq_true (by omega)]]
     simp only[hw,true_and]
   clear hk64;refine Zc (λh0=>?_) (λh0=>?_)
   ·have h0:a.op=0:=by simpa using h0
    refine Za rfl (Za rfl (Za (Zf ..) ?_));refine YbW (d:=playR b s (if a.side=0 then s.s0 else s.s1) a.place a.target) (λ_=>rfl) (λ_=>rfl) (λ_=>rfl) (λ_ k hk=>Yd ?_ rfl g86_ok.plain rfl hk) (k64d _ (by rw[if_pos h0]));rcases hsd with e|e
    ·rw[if_pos e];exact c86 b hf s hs a 7 s.s0 rfl (λ_=>by rw[e]; rfl) (hcs hM.s0.hand)
    ·rw[if_neg (by omega)];exact c86 b hf s hs a 15 s.s1 rfl (λ_=>by rw[e]; rfl) (hcs hM.s1.hand)
   ·have h0:¬a.op=0:=by simpa using h0
    exact k64d _ (by rw[if_neg h0])
  clear hk52;refine Zc (λh2=>?_) (λh2=>?_)
  ·have h2:a.op=2:=by simpa using h2
   refine Za rfl (Za rfl (Za (Zf ..) ?_));exact Za5 (d:=blkR s a) (λ_=>rfl) (λ_=>rfl) (λ_ k hk=>Yd (c85 s hs a hl2) rfl g85_ok.plain rfl hk) (k52d _ (by rw[if_pos h2]))
  ·have h2:¬a.op=2:=by simpa using h2
   exact k52d _ (by rw[if_neg h2])
 clear hk47;refine Zc (λh3=>?_) (λh3=>?_)
 ·exact k47d _ h3.symm
 ·exact k47d _ h3.symm
end Go.Ah.Tz
end
section
namespace Go.Ah.Tz
open Go.Proofs.Tryz (prog)
def idM(l:List Int):List (Int×Bool):=l.map λx=>(x,true)
theorem Z6(t:Int):∀l:List Int,ilook t (idM l)=if l.contains t then some true else none
 |[]=>rfl
 |x::l=>by
  have ih:=Z6 t l;simp only[idM,List.map_cons,ilook,List.contains_cons] at ih ⊢;cases h:t==x with
  |true=>simp
  |false=>rw[if_neg (by simp)]; simpa using ih
def attP(s:St)(a:Ac):Bool:=attGo s a.side [] a.ids&&((decide (s.phase=0) && !s.struck)&&decide ((a.ids.length:Int)>0))
attribute [local irreducible] Ans.rd Ans.pu Ans.wr Ans.dr Ans.gr Ans.gw Ans.gl Ans.gd Ans.opt joinK W
set_option maxHeartbeats 4000000
theorem Xcm(s:St)(a:Ac)(id:Int){y:AVal}{σ:List ABlk}(h0:hget σ 0=.box [y,.rptr (stC s) 0,.rptr (acC a) 0]){K:AVal→Prop}(hK:K (.bool (!okU s a.side id))) :
  VV.rd (Qn .not [.bool (unitR s id).2.2] σ) λt31_21=>
  VV.gr t31_21 false (λk=>VV.rd (Xh [iv (unitR s id).1] σ) k) λt33_22=>
  VV.gr t31_21 false (λk=>VV.rd (Ya 2 [.bptr 0 0] σ) k) λt34_23=>
  VV.gr t31_21 false (λk=>VV.rd (Xc false 1 [t34_23] σ) k) λt35_24=>
  VV.gr t31_21 false (λk=>VV.rd (Qa [t35_24] σ) k) λt36_25=>
  VV.gr t31_21 false (λk=>VV.rd (Ya 1 [t36_25] σ) k) λt37_26=>
  VV.gr t31_21 false (λk=>VV.rd (Xc false 1 [t37_26] σ) k) λt38_27=>
  VV.gr t31_21 false (λk=>VV.rd (Yh .neq false [t33_22,t38_27] σ) k) λt39_28=>
  VV.rd (Yi [t31_21,(.bool true),t39_28] σ) λt40_29=>
  VV.gr t40_29 false (λk=>VV.rd (Ya 1 [.bptr 0 0] σ) k) λt42_30=>
  VV.gr t40_29 false (λk=>VV.rd (Xc false 1 [t42_30] σ) k) λt43_31=>
  VV.gr t40_29 false (λk=>VV.rd (Xh [iv (unitR s id).1] σ) k) λt44_32=>
  VV.gr t40_29 false (λk=>VV.rd (Qa [t43_31] σ) k) λt45_33=>
  VV.gr t40_29 false (λk=>VV.rd (Ya 7 [t45_33] σ) k) λt46_34=>
  VV.gr t40_29 false (λk=>VV.rd (Qg 2 8 [t46_34,t44_32] σ) k) λt47_35=>
  VV.gr t40_29 false (λk=>VV.rd (Ya 6 [t47_35] σ) k) λt48_36=>
  VV.gr t40_29 false (λk=>VV.rd (Xc false 1 [t48_36] σ) k) λt49_37=>
  VV.gr t40_29 false (λk=>VV.rd (Xh [iv (unitR s id).2.1] σ) k) λt50_38=>
  VV.gr t40_29 false (λk=>VV.rd (Yb 4 [t49_37,t50_38] σ) k) λt51_39=>
  VV.gr t40_29 false (λk=>VV.rd (Ya 3 [t51_39] σ) k) λt52_40=>
  VV.gr t40_29 false (λk=>VV.rd (Xc false 1 [t52_40] σ) k) λt53_41=>
  VV.rd (Yi [t40_29,(.bool true),t53_41] σ) K:=by
 rcases QaK s id with ⟨k,u,hu,hk⟩|⟨k,u,hu,hk⟩|hu
 ·rw[show okU s a.side id=(decide ((0:Int)=a.side) && !u.tired) by simp[okU,hu,hk]] at hK;rw[hu];have hkl:k<s.s0.units.length:=(YLG hk).1;have hku:s.s0.units[k]=u:=(YLG hk).2;have hix:=λ(τ:List ABlk)=>Zn τ thC false false 4 s.s0.units .i64 k hkl;rw[hku] at hix;refine Za rfl (Xa (Za rfl (Xa (Za rfl (Xa (Za (ld h0 rfl) (Xa (Za rfl (Xa (Za rfl (Xa (Za (ldr rfl) (Xa (Za (YF ..) (Za rfl ?_)))))))))))))));rw[show decide ((0:Int)≠a.side) = !decide ((0:Int)=a.side) by simp];generalize decide ((0:Int)=a.side)=c at hK ⊢;cases c with
  |false=>
   repeat first|refine Zb rfl ?_|refine Qc rfl ?_|refine Yc rfl ?_|refine Zd rfl ?_
   exact Za rfl hK
  |true=>
   refine Xa (Za rfl (Xa (Za (ld h0 rfl) (Xa (Za rfl (Xa (Za rfl (Xa (Za rfl (Xa (Za rfl (Xa (Za rfl (Xa (Za (ldr rfl) (Xa (Za rfl (Xa (Za (hix _) (Xa (Za rfl (Xa (Za (v:=.bool u.tired) (rd:=[]) (ldr rfl) (Za rfl ?_))))))))))))))))))))))));have e:(true && !u.tired) = !u.tired:=by simp
   rw[e,Bool.not_not] at hK;exact hK
 ·rw[show okU s a.side id=(decide ((1:Int)=a.side) && !u.tired) by simp[okU,hu,hk]] at hK;rw[hu];have hkl:k<s.s1.units.length:=(YLG hk).1;have hku:s.s1.units[k]=u:=(YLG hk).2;have hix:=λ(τ:List ABlk)=>Zn τ thC false false 4 s.s1.units .i64 k hkl;rw[hku] at hix;refine Za rfl (Xa (Za rfl (Xa (Za rfl (Xa (Za (ld h0 rfl) (Xa (Za rfl (Xa (Za rfl (Xa (Za (ldr rfl) (Xa (Za (YF ..) (Za rfl ?_)))))))))))))));rw[show decide ((1:Int)≠a.side) = !decide ((1:Int)=a.side) by simp];generalize decide ((1:Int)=a.side)=c at hK ⊢;cases c with
  |false=>
   repeat first|refine Zb rfl ?_|refine Qc rfl ?_|refine Yc rfl ?_|refine Zd rfl ?_
   exact Za rfl hK
  |true=>
   refine Xa (Za rfl (Xa (Za (ld h0 rfl) (Xa (Za rfl (Xa (Za rfl (Xa (Za rfl (Xa (Za rfl (Xa (Za rfl (Xa (Za (ldr rfl) (Xa (Za rfl (Xa (Za (hix _) (Xa (Za rfl (Xa (Za (v:=.bool u.tired) (rd:=[]) (ldr rfl) (Za rfl ?_))))))))))))))))))))))));have e:(true && !u.tired) = !u.tired:=by simp
   rw[e,Bool.not_not] at hK;exact hK
 ·rw[show okU s a.side id=false by simp[okU,hu]] at hK;rw[hu];refine Za rfl ?_;repeat first|refine Zb rfl ?_|refine Qc rfl ?_|refine Yc rfl ?_|refine Zd rfl ?_
  refine Za rfl ?_;repeat first|refine Zb rfl ?_|refine Qc rfl ?_|refine Yc rfl ?_|refine Zd rfl ?_
  exact Za rfl hK
theorem c159(b:Bk)(s:St)(hs:StLe 1000000000 s)(a:Ac)(hl:a.ids.length≤1000000000):PC 159 [.agg [.rptr (bkC b) 0,.rptr (stC s) 0,.rptr (acC a) 0]] (.bool (attP s a)):=by
 refine Xd hP g159_ok rfl rfl ?_;unfold g159;refine Zh (v:=.bptr 0 0) (rd:=[]) (up:=[(0,.box [.rptr (bkC b) 0,.rptr (stC s) 0,.rptr (acC a) 0])]) rfl rfl ?_;refine Zh (v:=.map 1) (rd:=[]) (up:=[(1,.map (mpG AVal.bool (idM [])))]) rfl rfl ?_;have h0:hget ([]++[ABlk.box [.rptr (bkC b) 0,.rptr (stC s) 0,.rptr (acC a) 0]]++[ABlk.map (mpG AVal.bool (idM []))]) 0=.box [.rptr (bkC b) 0,.rptr (stC s) 0,.rptr (acC a) 0]:=rfl;have h1:hget ([]++[ABlk.box [.rptr (bkC b) 0,.rptr (stC s) 0,.rptr (acC a) 0]]++[ABlk.map (mpG AVal.bool (idM []))]) 1=.map (mpG AVal.bool (idM [])):=rfl;refine Za rfl (Za (ld h0 rfl) (Za rfl (Za rfl (Za (ldr rfl) (Za (v:=iv a.ids.length) (rd:=[]) (by simp[Qf]) ?_)))));generalize ([]++[ABlk.box [.rptr (bkC b) 0,.rptr (stC s) 0,.rptr (acC a) 0]]++[ABlk.map (mpG AVal.bool (idM []))]:List ABlk)=base at h0 h1 ⊢;refine Qi (ι:=Nat) (λi vs σ=>vs=[iv i]∧hget σ 0=.box [.rptr (bkC b) 0,.rptr (stC s) 0,.rptr (acC a) 0]∧hget σ 1=.map (mpG AVal.bool (idM (a.ids.take i)))∧i≤a.ids.length∧attGo s a.side [] a.ids=attGo s a.side (a.ids.take i) (a.ids.drop i)) (λi=>a.ids.length-i) 0 ⟨rfl,h0,h1,by omega,by simp⟩ ?_;clear h0 h1 base;rintro i vs σ again ⟨rfl,h0,h1,hi,hu⟩ hag;refine Za (Xt ..) ?_;refine Zc (λh=>?_) (λh=>?_);rotate_left
 ·have h:i=a.ids.length:=by simp at h; omega
  subst h;rw[List.drop_length] at hu;rw[List.take_length] at h1;have hP2:attP s a=((decide (s.phase=0) && !s.struck)&&decide ((a.ids.length:Int)>0)):=by rw[attP,hu]; rfl
  rw[hP2];refine Za rfl (Za (ld h0 rfl) (Za rfl (Za rfl (Za (ldr rfl) (Za (Zf ..) ?_)))));refine XcI (λ_=>rfl) (λ_=>ld h0 rfl) (λ_=>rfl) (λ_=>rfl) (λ_=>ldr rfl) (λ_=>rfl) ?_;refine Zce (λ_=>rfl) (v2:=iv a.ids.length) (q2:=[1]) (λ_=>by simp[ZaJ,h1,mpG,idM]) (λ_=>YD ..) ?_;rfl
 have h:i<a.ids.length:=by simp at h; omega
 have hix:=λ(τ:List ABlk)=>Zn τ cel false false 1 a.ids .i64 i h;have hdr:a.ids.drop i=a.ids[i]::a.ids.drop (i+1):=by rw[YLD h]
 have htk:a.ids.take (i+1)=a.ids.take i++[a.ids[i]]:=by rw[List.take_succ_eq_append_getElem h]
 rw[hdr,attGo,←htk] at hu;have hPf:∀ {q},attGo s a.side [] a.ids=q→q=false→(AVal.bool false=.bool (attP s a)):=λe1 e2=>by rw[attP,e1,e2]; rfl
 generalize hid:a.ids[i]=id at hix hu htk;refine Za (hix _) (Za (ldr rfl) (Za rfl (Za (ld h0 rfl) (Za rfl (Za (ldr (v:=stV s) rfl) ?_)))));refine Yd (c71 s hs id) rfl g71_ok.plain rfl (Za rfl (Za rfl (Za rfl (Xcm s a id h0 ?_))));have hlk:=Xag AVal.bool (.bool false) false h1 id;rw[Z6] at hlk;refine ZX (d:=(a.ids.take i).contains id) (λ_=>rfl) (λ_=>rfl) (v2:=iv id) (λ_=>hlk.trans (by cases (a.ids.take i).contains id<;>rfl)) ?_;refine Zc (λhk=>hPf hu ?_) (λhk=>?_)
 ·revert hk
  cases okU s a.side id<;>cases (a.ids.take i).contains id<;>simp
 have hok:okU s a.side id=true∧(a.ids.take i).contains id=false:=by
  revert hk
  cases okU s a.side id<;>cases (a.ids.take i).contains id<;>simp
 rw[hok.1,hok.2] at hu;have hup:=QaW AVal.bool h1 id true (by rw[Z6,hok.2]; rfl);have hlt:=Zo h1 (by simp);refine Zh hup (Ys _ hlt) (Za (Qj ..) ?_);rw[Qe (n:=i) (by omega)];refine hag (i+1) _ _ (by omega) ⟨rfl,Zp h0 (by simp) (by decide),?_,by omega,by rw[hu]; rfl⟩;rw[Xp _ hlt,htk];simp[idM]
end Go.Ah.Tz
end
section
namespace Go.Ah.Tz
open Go.Proofs.Tryz (prog)
theorem XbP(p:Int×Int):∀l:List (Int×Int),((l.map (·.1)).contains p.1||(l.map (·.2)).contains p.2)=l.any λq=>decide (q.1=p.1)||decide (q.2=p.2)
 |[]=>rfl
 |q::l=>by
  rw[List.any_cons,←XbP p l,List.map_cons,List.map_cons,List.contains_cons,List.contains_cons];have e1:(p.1==q.1)=decide (q.1=p.1):=by rw[Bool.eq_iff_iff,beq_iff_eq,decide_eq_true_eq]; exact eq_comm
  have e2:(p.2==q.2)=decide (q.2=p.2):=by rw[Bool.eq_iff_iff,beq_iff_eq,decide_eq_true_eq]; exact eq_comm
  rw[e1,e2];cases decide (q.1=p.1)<;>cases decide (q.2=p.2)<;>cases (l.map (·.1)).contains p.1<;>cases (l.map (·.2)).contains p.2<;>rfl
def blkP(s:St)(a:Ac):Bool:=blkGo s a.side [] a.prs&&(decide (s.phase=1)&&decide ((a.prs.length:Int)>0))
attribute [local irreducible] Ans.rd Ans.pu Ans.wr Ans.dr Ans.gr Ans.gw Ans.gl Ans.gd Ans.opt joinK W
set_option maxHeartbeats 8000000
theorem c176(l:List Int)(hl:l.length≤1000000000)(x:Int):∃n:Int,PC 176 [rowV l,iv x] (iv n)∧decide (n ≥ 0)=l.any λy=>decide (y=x):=by
 have key:∀n:Int,(∀i:Nat,i≤l.length→((l.take i).any λy=>decide (y=x))=false→(∀h:i<l.length,l[i]=x→n=i)∧(i=l.length→n = -1))→PC 176 [rowV l,iv x] (iv n):=by
  intro n hn;refine Xd hP g176_ok rfl rfl ?_;unfold g176;refine Za (v:=iv l.length) (rd:=[]) (by simp[Qf]) ?_;refine Qi (ι:=Nat) (λi vs σ=>vs=[iv i]∧i≤l.length∧((l.take i).any λy=>decide (y=x))=false) (λi=>l.length-i) 0 ⟨rfl,by omega,rfl⟩ ?_;rintro i vs σ again ⟨rfl,hi,hu⟩ hag;refine Za (Xt ..) (Zc (λh=>?_) (λh=>?_))
  ·have h:i<l.length:=by simpa using h
   refine Za (Zn _ cel false false 1 l .i64 i h) (Za (ldr rfl) (Za (Zf ..) (Zc (λhe=>?_) (λhe=>?_))))
   ·have he:l[i]=x:=by simp at he; exact he.symm
    rw[(hn i hi hu).1 h he];rfl
   ·refine Za (Qj ..) ?_;rw[Qe (n:=i) (by omega)];refine hag (i+1) _ _ (by omega) ⟨rfl,by omega,?_⟩;rw[List.take_succ_eq_append_getElem h,List.any_append,hu];have he:¬x=l[i]:=by simpa using he
    simpa using λk=>he k.symm
  ·have h:i=l.length:=by simp at h; omega
   rw[(hn i hi hu).2 h]
 cases hf:l.findIdx? (λy=>decide (y=x)) with
 |none=>
  have hn:∀y∈l,¬y=x:=by simpa[List.findIdx?_eq_none_iff] using hf
  refine⟨-1,key _ (λi hi _=>⟨λh e=>(hn _ (List.getElem_mem h) e).elim,λ_=>rfl⟩),?_⟩;have:(l.any λy=>decide (y=x))=false:=by simpa using hn
  rw[this]; rfl
 |some k=>
  obtain⟨hk,h2,h3⟩:=List.findIdx?_eq_some_iff_getElem.1 hf;have h2:l[k]=x:=by simpa using h2
  refine⟨k,key _ (λi hi hu=>⟨λh e=>?_,λh=>?_⟩),?_⟩
  ·rcases Nat.lt_trichotomy i k with q|q|q
   ·have h4:¬l[i]=x:=by simpa using h3 i q
    exact(h4 e).elim
   ·rw[q]
   ·have:((l.take i).any λy=>decide (y=x))=true:=List.any_eq_true.2 ⟨_,List.mem_take_iff_getElem.2 ⟨k,by omega,rfl⟩,by simpa using h2⟩;rw[this] at hu; cases hu
  ·have:((l.take i).any λy=>decide (y=x))=true:=List.any_eq_true.2 ⟨_,List.mem_take_iff_getElem.2 ⟨k,by omega,rfl⟩,by simpa using h2⟩;rw[this] at hu; cases hu
  ·have:(l.any λy=>decide (y=x))=true:=List.any_eq_true.2 ⟨_,List.getElem_mem hk,by simpa using h2⟩;rw[this]; simp
theorem c138(l:List Int)(hl:l.length≤1000000000)(x:Int):PC 138 [rowV l,iv x] (.bool (l.any λy=>decide (y=x))):=by
 obtain⟨n,h1,h2⟩:=c176 l hl x;refine Xd hP g138_ok rfl rfl ?_;unfold g138;rw[←h2];exact Yd h1 rfl g176_ok.plain rfl (Za (Zaa ..) rfl)
theorem Qcm(s:St)(hs:StLe 1000000000 s)(a:Ac)(p:Int×Int)(sd:Int)(ok:Bool){y:AVal}{np:Nat}{mA mB:Bool}{σ:List ABlk}(h0:hget σ 0=.box [y,.rptr (stC s) 0,.rptr (acC a) 0])(hB:hget σ np=.box (prC p))(hA:Yo false false (.bool false) [.map 1,iv p.1] σ=.ok (.bool mA) [1] [])(hM:Yo false false (.bool false) [.map 2,iv p.2] σ=.ok (.bool mB) [2] []){K:List ABlk→AVal→Prop}
 (hK:K σ (.bool ((((!(s.attack.any λx=>decide (x=p.1)) || !ok)||decide (sd≠a.side))||mA)||mB))) :
  VV.pu (Ya 1 [.bptr 0 0] σ) λt33_29=>
  VV.dr (Xc false 1 [t33_29] σ) σ λt34_30 l31 σ=>
  VV.pu (Qa [t34_30] σ) λt35_32=>
  VV.pu (Ya 5 [t35_32] σ) λt36_33=>
  VV.dr (Xc false 1 [t36_33] σ) σ λt37_34 l35 σ=>
  VV.pu (Ya 0 [.bptr np 0] σ) λt38_36=>
  VV.dr (Xc false 1 [t38_36] σ) σ λt39_37 l38 σ=>
  VV.dcall (.call 138) [t37_34,t39_37] σ λt40_39 l40 σ=>
  VV.pu (Qn .not [t40_39] σ) λt41_41=>
  VV.gr t41_41 false (λk=>VV.pu (Xh [.bool ok] σ) k) λt43_42=>
  VV.gr t41_41 false (λk=>VV.pu (Qn .not [t43_42] σ) k) λt44_43=>
  VV.pu (Yi [t41_41,(.bool true),t44_43] σ) λt45_44=>
  VV.gr t45_44 false (λk=>VV.pu (Xh [iv sd] σ) k) λt47_45=>
  VV.gr t45_44 false (λk=>VV.pu (Ya 2 [.bptr 0 0] σ) k) λt48_46=>
  VV.gl t45_44 false (λk=>VV.dr (Xc false 1 [t48_46] σ) σ k) σ λt49_47 l48 σ=>
  VV.gr t45_44 false (λk=>VV.pu (Qa [t49_47] σ) k) λt50_49=>
  VV.gr t45_44 false (λk=>VV.pu (Ya 1 [t50_49] σ) k) λt51_50=>
  VV.gl t45_44 false (λk=>VV.dr (Xc false 1 [t51_50] σ) σ k) σ λt52_51 l52 σ=>
  VV.gr t45_44 false (λk=>VV.pu (Yh .neq false [t47_45,t52_51] σ) k) λt53_53=>
  VV.pu (Yi [t45_44,(.bool true),t53_53] σ) λt54_54=>
  VV.gr t54_54 false (λk=>VV.pu (Xh [.map 1] σ) k) λt56_55=>
  VV.gr t54_54 false (λk=>VV.pu (Ya 0 [.bptr np 0] σ) k) λt57_56=>
  VV.gl t54_54 false (λk=>VV.dr (Xc false 1 [t57_56] σ) σ k) σ λt58_57 l58 σ=>
  VV.gl t54_54 false (λk=>VV.dr (Yo false false (.bool false) [t56_55,t58_57] σ) σ k) σ λt59_59 l60 σ=>
  VV.pu (Yi [t54_54,(.bool true),t59_59] σ) λt60_61=>
  VV.gr t60_61 false (λk=>VV.pu (Xh [.map 2] σ) k) λt62_62=>
  VV.gr t60_61 false (λk=>VV.pu (Ya 1 [.bptr np 0] σ) k) λt63_63=>
  VV.gl t60_61 false (λk=>VV.dr (Xc false 1 [t63_63] σ) σ k) σ λt64_64 l65 σ=>
  VV.gl t60_61 false (λk=>VV.dr (Yo false false (.bool false) [t62_62,t64_64] σ) σ k) σ λt65_66 l67 σ=>
  VV.pu (Yi [t60_61,(.bool true),t65_66] σ) λt66_68=>
  VV.gd (Xg [[],[0],[0,1],[0,1,2],[0,1,2,3],[],[5],[0,1,2,3,4,5,6],[0,1,2,3,4,5,6,7],[0,1,2,3,4,5,6,7,8],[0,1,2,3,4,5,6,7,8,9],[0,1,2,3,4,5,6,7,8,9,10],[0,1,2,3,4,5,6,7,8,9,10,11],[0,1,2,3,4,5,6,7,8,9,10,11,12],[0,1,2,3,4,5,6,7,8,9,10,11,12,13],[0,1,2,3,4,5,6,7,8,9,10,11,12,13],[0,1,2,3,4,5,6,7,8,9,10,11,12,13,15],[0,1,2,3,4,5,6,7,8,9,10,11,12,13,15,16],[0,1,2,3,4,5,6,7,8,9,10,11,12,13,15,16,17],[0,1,2,3,4,5,6,7,8,9,10,11,12,13,15,16,17,18],[0,1,2,3,4,5,6,7,8,9,10,11,12,13,14,15,16,17,18,19],[0,1,2,3,4,5,6,7,8,9,10,11,12,13,14,15,16,17,18,19,20],[0,1,2,3,4,5,6,7,8,9,10,11,12,13,14,15,16,17,18,19,20,21],[0,1,2,3,4,5,6,7,8,9,10,11,12,13,14,15,16,17,18,19,20,21,22],[0,1,2,3,4,5,6,7,8,9,10,11,12,13,14,15,16,17,18,19,20,21,22],[0,1,2,3,4,5,6,7,8,9,10,11,12,13,14,15,16,17,18,19,20,21,22,24],[0,1,2,3,4,5,6,7,8,9,10,11,12,13,14,15,16,17,18,19,20,21,22,23,24,25],[0,1,2,3,4,5,6,7,8,9,10,11,12,13,14,15,16,17,18,19,20,21,22,23,24,25,26],[0,1,2,3,4,5,6,7,8,9,10,11,12,13,14,15,16,17,18,19,20,21,22,23,24,25,26,27],[0,1,2,3,4,5,6,7,8,9,10,11,12,13,14,15,16,17,18,19,20,21,22,23,24,25,26,27,28],[0,1,2,3,4,5,6,7,8,9,10,11,12,13,14,15,16,17,18,19,20,21,22,23,24,25,26,27,28],[0,1,2,3,4,5,6,7,8,9,10,11,12,13,14,15,16,17,18,19,20,21,22,23,24,25,26,27,28,30],[0,1,2,3,4,5,6,7,8,9,10,11,12,13,14,15,16,17,18,19,20,21,22,23,24,25,26,27,28,29,30,31],[0,1,2,3,4,5,6,7,8,9,10,11,12,13,14,15,16,17,18,19,20,21,22,23,24,25,26,27,28,29,30,31,32]] [([],[]),l31,([],[]),([],[]),l35,([],[]),l38,l40,([],[]),([],[]),([],[]),([],[]),([],[]),([],[]),([],[]),([],[]),l48,([],[]),([],[]),l52,([],[]),([],[]),([],[]),([],[]),([],[]),l58,l60,([],[]),([],[]),([],[]),([],[]),l65,l67,([],[])]) <| K σ t66_68:=by
 refine Zj rfl (Xl (ld h0 rfl) rfl (Zj rfl (Zj rfl (Xl (ldr (v:=rowV s.attack) rfl) rfl (Zj rfl (Xl (ld hB rfl) rfl ?_))))));refine Xk (c138 s.attack hs.attack p.1) rfl g138_ok.plain rfl (Zj rfl ?_);generalize (s.attack.any λx=>decide (x=p.1))=att at hK ⊢;cases att with
 |false=>
  repeat first|refine Zb rfl ?_|refine Q6 rfl ?_|refine Qc rfl ?_|refine Zj rfl ?_
  exact QC (by kernel_rfl) hK
 |true=>
 refine Xa (Zj rfl (Xa (Zj rfl (Zj rfl ?_))));cases ok with
 |false=>
  repeat first|refine Zb rfl ?_|refine Q6 rfl ?_|refine Qc rfl ?_|refine Zj rfl ?_
  exact QC (by kernel_rfl) hK
 |true=>
 refine Xa (Zj rfl (Xa (Zj rfl (XE (Xl (ld h0 rfl) rfl ?_)))));refine Xa (Zj rfl (Xa (Zj rfl (XE (Xl (ldr rfl) rfl (Xa (Zj (YF ..) (Zj rfl ?_))))))));generalize decide (sd≠a.side)=c at hK ⊢;cases c with
 |true=>
  repeat first|refine Zb rfl ?_|refine Q6 rfl ?_|refine Qc rfl ?_|refine Zj rfl ?_
  exact QC (by kernel_rfl) hK
 |false=>
 refine Xa (Zj rfl (Xa (Zj rfl (XE (Xl (ld hB rfl) rfl (XE (Xl hA rfl (Zj rfl ?_))))))));cases mA with
 |true=>
  repeat first|refine Zb rfl ?_|refine Q6 rfl ?_|refine Qc rfl ?_|refine Zj rfl ?_
  exact QC (by kernel_rfl) hK
 |false=>
 refine Xa (Zj rfl (Xa (Zj rfl (XE (Xl (ld hB rfl) rfl (XE (Xl hM rfl (Zj rfl (QC (by kernel_rfl) ?_)))))))));exact hK
theorem c160(b:Bk)(s:St)(hs:StLe 1000000000 s)(a:Ac)(hl:a.prs.length≤1000000000):PC 160 [.agg [.rptr (bkC b) 0,.rptr (stC s) 0,.rptr (acC a) 0]] (.bool (blkP s a)):=by
 refine Xd hP g160_ok rfl rfl ?_;unfold g160;refine Zh (v:=.bptr 0 0) (rd:=[]) (up:=[(0,.box [.rptr (bkC b) 0,.rptr (stC s) 0,.rptr (acC a) 0])]) rfl rfl ?_;refine Zh (v:=.map 1) (rd:=[]) (up:=[(1,.map (mpG AVal.bool (idM [])))]) rfl rfl ?_;refine Zh (v:=.map 2) (rd:=[]) (up:=[(2,.map (mpG AVal.bool (idM [])))]) rfl rfl ?_;have h0:hget ([]++[ABlk.box [.rptr (bkC b) 0,.rptr (stC s) 0,.rptr (acC a) 0]]++[ABlk.map (mpG AVal.bool (idM []))]++[ABlk.map (mpG AVal.bool (idM []))]) 0=.box [.rptr (bkC b) 0,.rptr (stC s) 0,.rptr (acC a) 0]:=rfl;have h1:hget ([]++[ABlk.box [.rptr (bkC b) 0,.rptr (stC s) 0,.rptr (acC a) 0]]++[ABlk.map (mpG AVal.bool (idM []))]++[ABlk.map (mpG AVal.bool (idM []))]) 1=.map (mpG AVal.bool (idM [])):=rfl;have h2:hget ([]++[ABlk.box [.rptr (bkC b) 0,.rptr (stC s) 0,.rptr (acC a) 0]]++[ABlk.map (mpG AVal.bool (idM []))]++[ABlk.map (mpG AVal.bool (idM []))]) 2=.map (mpG AVal.bool (idM [])):=rfl;refine Za rfl (Za (ld h0 rfl) (Za rfl (Za rfl (Za (ldr rfl) (Za (v:=iv a.prs.length) (rd:=[]) (by simp[Qf]) ?_)))));generalize ([]++[ABlk.box [.rptr (bkC b) 0,.rptr (stC s) 0,.rptr (acC a) 0]]++[ABlk.map (mpG AVal.bool (idM []))]++[ABlk.map (mpG AVal.bool (idM []))]:List ABlk)=base at h0 h1 h2 ⊢;refine Qi (ι:=Nat) (λi vs σ=>vs=[iv i]∧hget σ 0=.box [.rptr (bkC b) 0,.rptr (stC s) 0,.rptr (acC a) 0]∧hget σ 1=.map (mpG AVal.bool (idM ((a.prs.take i).map (·.1))))∧hget σ 2=.map (mpG AVal.bool (idM ((a.prs.take i).map (·.2))))∧i≤a.prs.length∧blkGo s a.side [] a.prs=blkGo s a.side (a.prs.take i) (a.prs.drop i)) (λi=>a.prs.length-i) 0 ⟨rfl,h0,h1,h2,by omega,by simp⟩ ?_;clear h0 h1 h2 base;rintro i vs σ again ⟨rfl,h0,h1,h2,hi,hu⟩ hag;refine Za (Xt ..) ?_;refine Zc (λh=>?_) (λh=>?_);rotate_left
 ·have h:i=a.prs.length:=by simp at h; omega
  subst h;rw[List.drop_length] at hu;rw[List.take_length] at h1;have hP2:blkP s a=(decide (s.phase=1)&&decide ((a.prs.length:Int)>0)):=by rw[blkP,hu]; rfl
  rw[hP2];refine Za rfl (Za (ld h0 rfl) (Za rfl (Za rfl (Za (ldr rfl) (Za (Zf ..) ?_)))));refine Zce (λ_=>rfl) (v2:=iv a.prs.length) (q2:=[1]) (λ_=>by simp[ZaJ,h1,mpG,idM]) (λ_=>YD ..) ?_;rfl
 have h:i<a.prs.length:=by simp at h; omega
 have hix:=λ(τ:List ABlk)=>Zn τ prC false false 2 a.prs .i64 i h;have hdr:a.prs.drop i=a.prs[i]::a.prs.drop (i+1):=by rw[YLD h]
 have htk:a.prs.take (i+1)=a.prs.take i++[a.prs[i]]:=by rw[List.take_succ_eq_append_getElem h]
 rw[hdr,blkGo,←htk,←XbP] at hu;have hPf:∀ {q},blkGo s a.side [] a.prs=q→q=false→(AVal.bool false=.bool (blkP s a)):=λe1 e2=>by rw[blkP,e1,e2]; rfl
 generalize hid:a.prs[i]=p at hix hu htk;have hlt:=Zo h2 (by simp);refine Za (hix _) (Za (v:=.agg (prC p)) (rd:=[]) (ldr rfl) ?_);refine Qs (row:=prC p) (row':=prC p) rfl rfl rfl ?_;have hB:=Yj σ (ABlk.box (prC p));have h0:hget (σ++[ABlk.box (prC p)]) 0=.box [.rptr (bkC b) 0,.rptr (stC s) 0,.rptr (acC a) 0]:=Xj _ h0 (by simp);have h1:=Xj [ABlk.box (prC p)] h1 (by simp);have h2:=Xj [ABlk.box (prC p)] h2 (by simp);generalize σ++[ABlk.box (prC p)]=τ at hB h0 h1 h2 ⊢;obtain⟨np,hnp⟩:∃np,σ.length=np+3:=⟨σ.length-3,by omega⟩;rw[hnp] at hB ⊢;clear hnp hlt;refine Zj rfl (Xl (ld h0 rfl) rfl (Zj rfl (Xl (ldr (v:=stV s) rfl) rfl (Zj rfl (Xl (ld hB rfl) rfl ?_)))));refine Xk (c71 s hs p.2) rfl g71_ok.plain rfl (Zj rfl (Zj rfl (Zj rfl (QC (by kernel_rfl) ?_))));have hA:=Xag AVal.bool (.bool false) false h1 p.1;have hM:=Xag AVal.bool (.bool false) false h2 p.2;rw[Z6] at hA hM;refine Qcm s hs a p (unitR s p.2).1 (unitR s p.2).2.2 h0 hB (mA:=((a.prs.take i).map (·.1)).contains p.1) (mB:=((a.prs.take i).map (·.2)).contains p.2) (hA.trans (by cases ((a.prs.take i).map (·.1)).contains p.1<;>rfl)) (hM.trans (by cases ((a.prs.take i).map (·.2)).contains p.2<;>rfl)) ?_;have hne:decide ((unitR s p.2).1≠a.side) = !decide ((unitR s p.2).1=a.side):=by simp
 rw[hne];refine Zc (λhk=>hPf hu ?_) (λhk=>?_)
 ·revert hk
  cases (s.attack.any λx=>decide (x=p.1))<;>cases (unitR s p.2).2.2<;>cases decide ((unitR s p.2).1=a.side)<;>cases ((a.prs.take i).map (·.1)).contains p.1<;>cases ((a.prs.take i).map (·.2)).contains p.2<;>simp
 have hok:((s.attack.any λx=>decide (x=p.1))&&((unitR s p.2).2.2&&decide ((unitR s p.2).1=a.side)))=true∧((a.prs.take i).map (·.1)).contains p.1=false∧((a.prs.take i).map (·.2)).contains p.2=false:=by
  revert hk
  cases (s.attack.any λx=>decide (x=p.1))<;>cases (unitR s p.2).2.2<;>cases decide ((unitR s p.2).1=a.side)<;>cases ((a.prs.take i).map (·.1)).contains p.1<;>cases ((a.prs.take i).map (·.2)).contains p.2<;>simp
 rw[hok.1,hok.2.1,hok.2.2] at hu;have hup:=QaW AVal.bool h1 p.1 true (by rw[Z6,hok.2.1]; rfl);have hl1:=Zo h1 (by simp);have hl2:=Zo h2 (by simp);have h2':=Zp (c:=1) (x:=.map (mpG AVal.bool (idM ((a.prs.take i).map (·.1))++[(p.1,true)]))) h2 (by simp) (by decide);have hup2:=QaW AVal.bool h2' p.2 true (by rw[Z6,hok.2.2]; rfl);refine Zj rfl (Xl (ld hB rfl) rfl (Zj rfl (Xl (ld hB rfl) rfl (Xl hup (Ys _ hl1) (Xl hup2 (Ys _ (by simp; omega)) (QC (by kernel_rfl) (Za (Qj ..) ?_)))))));rw[Qe (n:=i) (by omega)];refine hag (i+1) _ _ (by omega) ⟨rfl,Zp (Zp h0 (by simp) (by decide)) (by simp) (by decide),?_,?_,by omega,by rw[hu]; rfl⟩
 ·rw[Zp (Xp _ hl1) (by simp) (by decide),htk];simp[idM]
 ·rw[Xp _ (by simp; omega),htk];simp[idM]
end Go.Ah.Tz
end
section
namespace Go.Ah.Tz
open Go.Proofs.Tryz (prog)
theorem Zaz:∀ {l m:List Int},l.Nodup→(∀x∈l,x∈m)→l.length≤m.length
 |[],m,_,_=>by simp
 |x::l,m,h,hs=>by
  rw[List.nodup_cons] at h;have hx:x∈m:=hs x (by simp);have:=Zaz (l:=l) (m:=m.erase x) h.2 (λy hy=>by
   have hne:y≠x:=λe=>h.1 (e ▸ hy);exact(List.mem_erase_of_ne hne).2 (hs y (by simp[hy])))
  rw[List.length_erase_of_mem hx] at this;have:=List.length_pos_of_mem hx;simp only[List.length_cons]; omega
theorem Qcv{s:St}{side id:Int}(h:(unitR s id).2.2=true)(h2:(unitR s id).1=side):id∈(if side=0 then s.s0.units else s.s1.units).map Th.id:=by
 unfold unitR at h h2;cases q0:fnd s.s0.units id with
 |some k=>
  rw[q0] at h2;obtain⟨u,hk,e⟩:=Xbm q0;have h2:(0:Int)=side:=h2;rw[if_pos h2.symm];exact List.mem_map.2 ⟨u,List.mem_of_getElem? hk,e⟩
 |none=>
  rw[q0] at h h2;cases q1:fnd s.s1.units id with
  |some k=>
   rw[q1] at h2;obtain⟨u,hk,e⟩:=Xbm q1;have h2:(1:Int)=side:=h2;rw[if_neg (by omega)];exact List.mem_map.2 ⟨u,List.mem_of_getElem? hk,e⟩
  |none=>rw[q1] at h; cases h
theorem YaU{s:St}{side:Int}:∀ {l prev:List Int},attGo s side prev l=true→(∀x∈l,okU s side x=true)∧l.Nodup∧∀x∈l,x∉prev
 |[],prev,_=>by simp
 |x::l,prev,h=>by
  simp only[attGo,Bool.and_eq_true,Bool.not_eq_true'] at h;obtain⟨h1,h2,h3⟩:=h;obtain⟨k1,k2,k3⟩:=YaU h3;have hx:x∉prev:=by simpa using h2
  refine⟨λy hy=>?_,?_,λy hy=>?_⟩
  ·rcases List.mem_cons.1 hy with rfl|hy
   ·exact h1
   ·exact k1 y hy
  ·rw[List.nodup_cons];exact⟨λhm=>k3 x hm (by simp),k2⟩
  ·rcases List.mem_cons.1 hy with rfl|hy
   ·exact hx
   ·exact λhm=>k3 y hy (by simp[hm])
theorem YbD{b:Bk}{s:St}(hM:MayP b s){side:Int}{l:List Int}(h:attGo s side [] l=true):l.length≤7:=by
 obtain⟨h1,h2,_⟩:=YaU h;have hin:∀x∈l,x∈(if side=0 then s.s0.units else s.s1.units).map Th.id:=λx hx=>by
  have:=h1 x hx;simp only[okU,Bool.and_eq_true,decide_eq_true_eq] at this;exact Qcv this.1 this.2.1
 have:=Zaz h2 hin;rw[List.length_map] at this;have u0:=hM.s0.units;have u1:=hM.s1.units;split at this<;>omega
theorem XaU{s:St}{side:Int}:∀ {l prev:List (Int×Int)},blkGo s side prev l=true→(∀p∈l,p.1∈s.attack)∧(l.map (·.1)).Nodup∧∀p∈l,∀q∈prev,q.1≠p.1
 |[],prev,_=>by simp
 |p::l,prev,h=>by
  simp only[blkGo,Bool.and_eq_true,Bool.not_eq_true'] at h;obtain⟨⟨h1,_⟩,h2,h3⟩:=h;obtain⟨k1,k2,k3⟩:=XaU h3;have hp:p.1∈s.attack:=by
   obtain⟨y,hy,e⟩:=List.any_eq_true.1 h1;have e:y=p.1:=by simpa using e
   rw[←e]; exact hy
  have hx:∀q∈prev,q.1≠p.1:=λq hq e=>by
   have:(prev.any λq=>decide (q.1=p.1)||decide (q.2=p.2))=true:=List.any_eq_true.2 ⟨q,hq,by simp[e]⟩;rw[this] at h2; cases h2
  refine⟨λy hy=>?_,?_,λy hy=>?_⟩
  ·rcases List.mem_cons.1 hy with rfl|hy
   ·exact hp
   ·exact k1 y hy
  ·rw[List.map_cons,List.nodup_cons];refine⟨λhm=>?_,k2⟩;obtain⟨y,hy,e⟩:=List.mem_map.1 hm;exact k3 y hy p (by simp) e.symm
  ·rcases List.mem_cons.1 hy with rfl|hy
   ·exact hx
   ·exact λq hq=>k3 y hy q (by simp[hq])
theorem YbE{b:Bk}{s:St}(hM:MayP b s){side:Int}{l:List (Int×Int)}(h:blkGo s side [] l=true):l.length≤7:=by
 obtain⟨h1,h2,_⟩:=XaU h;have:=Zaz h2 (m:=s.attack) (λx hx=>by
  obtain⟨p,hp,rfl⟩:=List.mem_map.1 hx;exact h1 p hp)
 rw[List.length_map] at this;by_cases hp:s.phase=1
 ·have:=(hM.at_.2 hp).2.1; omega
 ·rw[hM.at_.1 hp,List.length_nil] at this; omega
theorem Xcz{b:Bk}{s:St}(hM:MayP b s)(a:Ac):attP s a=(decide (s.phase=0)&&attR s a):=by
 unfold attP attR;cases h:attGo s a.side [] a.ids with
 |false=>simp
 |true=>
  have hl:=YbD hM h;rw[decide_eq_false (show ¬(a.ids.length:Int)>7 by omega)];by_cases h0:(a.ids.length:Int)=0
  ·rw[decide_eq_true h0,decide_eq_false (show ¬(a.ids.length:Int)>0 by omega)]; simp
  ·rw[decide_eq_false h0,decide_eq_true (show (a.ids.length:Int)>0 by omega)]; simp
theorem Qcz{b:Bk}{s:St}(hM:MayP b s)(a:Ac):blkP s a=(decide (s.phase=1)&&blkR s a):=by
 unfold blkP blkR;cases h:blkGo s a.side [] a.prs with
 |false=>simp
 |true=>
  have hl:=YbE hM h;rw[decide_eq_false (show ¬(a.prs.length:Int)>7 by omega)];by_cases h0:(a.prs.length:Int)=0
  ·rw[decide_eq_true h0,decide_eq_false (show ¬(a.prs.length:Int)>0 by omega)]; simp
  ·rw[decide_eq_false h0,decide_eq_true (show (a.prs.length:Int)>0 by omega)]; simp
attribute [local irreducible] Ans.rd Ans.pu Ans.wr Ans.dr Ans.gr Ans.gw Ans.gl Ans.gd Ans.opt joinK W
set_option maxHeartbeats 8000000
theorem c161(x y z:List AVal):PC 161 [.agg [.rptr x 0,.rptr y 0,.rptr z 0]] (.bool true):=by
 refine Xd hP g161_ok rfl rfl ?_;unfold g161;exact Zh (v:=.bptr 0 0) (rd:=[]) (up:=[(0,.box [.rptr x 0,.rptr y 0,.rptr z 0])]) rfl rfl rfl
theorem c162(x y z:List AVal):PC 162 [.agg [.rptr x 0,.rptr y 0,.rptr z 0]] (.bool true):=by
 refine Xd hP g162_ok rfl rfl ?_;unfold g162;exact Zh (v:=.bptr 0 0) (rd:=[]) (up:=[(0,.box [.rptr x 0,.rptr y 0,.rptr z 0])]) rfl rfl rfl
theorem Zca(b:Bk)(s:St)(a:Ac)(w:Bool)(hw:(a.op=0∧PC 158 [.agg [.rptr (bkC b) 0,.rptr (stC s) 0,.rptr (acC a) 0]] (.bool w))∨(a.op=1∧PC 159 [.agg [.rptr (bkC b) 0,.rptr (stC s) 0,.rptr (acC a) 0]] (.bool w))∨(a.op=2∧PC 160 [.agg [.rptr (bkC b) 0,.rptr (stC s) 0,.rptr (acC a) 0]] (.bool w))∨(a.op=3∧PC 161 [.agg [.rptr (bkC b) 0,.rptr (stC s) 0,.rptr (acC a) 0]] (.bool w))∨(a.op=4∧PC 162 [.agg [.rptr (bkC b) 0,.rptr (stC s) 0,.rptr (acC a) 0]] (.bool w))){K:List AVal→List ABlk→Prop}(hK:K [.bool (!w)] []) :
  VV.dcall (.call 127) [] [] λt48_40 l41 σ=>
  VV.pu (Qa [.rptr (acC a) 0] σ) λt50_42=>
  VV.pu (Ya 0 [t50_42] σ) λt51_43=>
  VV.dr (Xc false 1 [t51_43] σ) σ λt52_44 l45 σ=>
  VV.pu (Q0 false 5 1 [t48_40,t52_44] σ) λt53_46=>
  VV.pu (Xf [.nilp,.nilp,.nilp] [(0,1),(1,1),(2,1)] [.rptr (bkC b) 0,.rptr (stC s) 0,.rptr (acC a) 0] σ) λt57_47=>
  VV.dcall .callv [t53_46,t57_47] σ λt58_48 l49 σ=>
  VV.pu (Qn .not [t58_48] σ) λt59_50=>
  VV.gd (Xg [[],[],[1],[1,2],[1,2,3],[0,1,2,3,4],[],[],[],[6,7,8],[0,1,2,3,4,5,6,7,8,9],[0,1,2,3,4,5,6,7,8,9,10],[0,1,2,3,4,5,6,7,8,9,10,11]] [l41,([],[]),([],[]),([],[]),l45,([],[]),([],[]),([],[]),([],[]),([],[]),l49,([],[]),([],[])]) <| K [t59_50] σ:=by
 refine Xk c127 rfl g127_ok.plain rfl (Zj rfl (Zj rfl ?_));rcases hw with ⟨e,h⟩|⟨e,h⟩|⟨e,h⟩|⟨e,h⟩|⟨e,h⟩
 ·refine Xl (v:=iv8 0) (rd:=[]) (by rw[←e]; exact ldr rfl) rfl (Zj rfl (Zj rfl ?_));exact Xk h rfl g158_ok.plain rfl (Zj rfl (QC (by rfl) hK))
 ·refine Xl (v:=iv8 1) (rd:=[]) (by rw[←e]; exact ldr rfl) rfl (Zj rfl (Zj rfl ?_));exact Xk h rfl g159_ok.plain rfl (Zj rfl (QC (by rfl) hK))
 ·refine Xl (v:=iv8 2) (rd:=[]) (by rw[←e]; exact ldr rfl) rfl (Zj rfl (Zj rfl ?_));exact Xk h rfl g160_ok.plain rfl (Zj rfl (QC (by rfl) hK))
 ·refine Xl (v:=iv8 3) (rd:=[]) (by rw[←e]; exact ldr rfl) rfl (Zj rfl (Zj rfl ?_));exact Xk h rfl g161_ok.plain rfl (Zj rfl (QC (by rfl) hK))
 ·refine Xl (v:=iv8 4) (rd:=[]) (by rw[←e]; exact ldr rfl) rfl (Zj rfl (Zj rfl ?_));exact Xk h rfl g162_ok.plain rfl (Zj rfl (QC (by rfl) hK))
theorem c83g(b:Bk)(hf:bkFit b=true)(hsm:YG b.cards)(s:St)(hs:StLe 1000000000 s)(hM:MayP b s)(a:Ac)(hl:a.ids.length≤1000000000)(hl2:a.prs.length≤1000000000):PC 83 [.rptr (bkC b) 0,.rptr (stC s) 0,.rptr (acC a) 0] (iv (doF b s a)):=by
 have hmv:s.mover=0∨s.mover=1:=by have:=hM.hd; unfold HdP at this; omega
 have hcs:∀ {l:List Int} {m:Int},Xo b.cards.length l m=true→∀c∈l,0≤c∧c.toNat<b.cards.length:=λh c hc=>by have:=(Zu.1 h).2 c hc; omega
 refine Xd hP g83_ok rfl rfl ?_;unfold g83;refine Za rfl (Za rfl (Za (ldr rfl) (Za (Xt ..) ?_)));refine Yk λk4 hk4=>?_;have bad:badF a=true→k4 [.bool true] []:=λh=>by
  rw[hk4];exact Ze (congrArg iv (by rw[doF,if_pos h]))
 have good:badF a=false→k4 [.bool false] []:=λhb=>by
  rw[hk4];have hd:doF b s a=if a.op=4 then 0 else if a.side=whoF s∧wayF b s a=true then 0 else 210:=by rw[doF,if_neg (by rw[hb]; simp)]
  rw[hd];have hsd:(a.side=0∨a.side=1)∧0≤a.op∧a.op≤4:=by
   simp only[badF,Bool.or_eq_false_iff,decide_eq_false_iff_not] at hb; omega
  obtain⟨hsd,hop⟩:=hsd;have hw:(a.op=0∧PC 158 [.agg [.rptr (bkC b) 0,.rptr (stC s) 0,.rptr (acC a) 0]] (.bool (wayF b s a)))∨(a.op=1∧PC 159 [.agg [.rptr (bkC b) 0,.rptr (stC s) 0,.rptr (acC a) 0]] (.bool (wayF b s a)))∨(a.op=2∧PC 160 [.agg [.rptr (bkC b) 0,.rptr (stC s) 0,.rptr (acC a) 0]] (.bool (wayF b s a)))∨(a.op=3∧PC 161 [.agg [.rptr (bkC b) 0,.rptr (stC s) 0,.rptr (acC a) 0]] (.bool (wayF b s a)))∨(a.op=4∧PC 162 [.agg [.rptr (bkC b) 0,.rptr (stC s) 0,.rptr (acC a) 0]] (.bool (wayF b s a))):=by
   rcases (show a.op=0∨a.op=1∨a.op=2∨a.op=3∨a.op=4 by omega) with e|e|e|e|e
   ·refine .inl ⟨e,?_⟩;rw[wayF,if_pos e,←Qcr];rcases hsd with e2|e2
    ·rw[if_pos e2];exact c158 b hf hsm s hs a.side 7 s.s0 (sdAt0 s) (λ_=>by rw[e2]; rfl) (hcs hM.s0.hand) a.place a.target
    ·rw[if_neg (by omega)];exact c158 b hf hsm s hs a.side 15 s.s1 (sdAt1 s) (λ_=>by rw[e2]; rfl) (hcs hM.s1.hand) a.place a.target
   ·refine .inr (.inl ⟨e,?_⟩);rw[wayF,if_neg (by omega),if_pos e,←Xcz hM];exact c159 b s hs a hl
   ·refine .inr (.inr (.inl ⟨e,?_⟩));rw[wayF,if_neg (by omega),if_neg (by omega),if_pos e,←Qcz hM];exact c160 b s hs a hl2
   ·refine .inr (.inr (.inr (.inl ⟨e,?_⟩)));rw[wayF,if_neg (by omega),if_neg (by omega),if_neg (by omega)];exact c161 _ _ _
   ·refine .inr (.inr (.inr (.inr ⟨e,?_⟩)));rw[wayF,if_neg (by omega),if_neg (by omega),if_neg (by omega)];exact c162 _ _ _
  clear hk4 bad hcs;refine Xi (Zj rfl (Zj rfl (Xl (ldr rfl) rfl (Zj (YF ..) ?_))));by_cases h4:a.op=4
  ·rw[if_pos h4,show decide (a.op≠4)=false by simp[h4]];repeat first|refine Zb rfl ?_|refine Qc rfl ?_|refine Yc rfl ?_|refine Zd rfl ?_|refine Q6 rfl ?_
   refine Zj rfl (QC (by rfl) ?_);refine Yk λk38 hk38=>Xi (Zca b s a _ hw ?_);rw[hk38,wayF,if_neg (by omega),if_neg (by omega),if_neg (by omega)];exact Xi rfl
  rw[if_neg h4,show decide (a.op≠4)=true by simp[h4]];refine Xa (Zj rfl (Xa (Zj rfl (Xa (Zj rfl (XE (Xl (ldr rfl) rfl ?_)))))));refine Xa (Zj rfl (Xa (Zj rfl (XE (Xl (v:=stV s) (rd:=[]) rfl rfl (XE (Xk (c37 s hmv) rfl g37_ok.plain rfl ?_)))))));refine Xa (Zj (YF ..) (Zj rfl (QC (by rfl) ?_)));refine Yk λk38 hk38=>?_;refine Zc (λh=>?_) (λh=>?_)
  ·rw[hk38];have h:¬a.side=whoF s:=by simpa using h
   rw[show decide (a.side≠whoF s)=true by simpa using h];exact Ze (congrArg iv (by rw[if_neg (λk=>h k.1)]))
  have h:a.side=whoF s:=by simpa using h
  refine Zca b s a _ hw ?_;rw[hk38];generalize wayF b s a=q;cases q with
  |true=>exact Xi (congrArg iv (by rw[if_pos ⟨h,rfl⟩]))
  |false=>exact Ze (congrArg iv (by rw[if_neg (λk=>by cases k.2)]))
 clear hk4;have hB:badF a=((((decide (a.side<0)||decide (a.side>1))||decide (a.op<0))||decide (a.op>4)) || !bareF a):=rfl;generalize decide (a.side<0)=c1 at hB ⊢;cases c1 with
 |true=>exact Ze (bad (by rw[hB]; rfl))
 |false=>
 refine Xi (Za rfl (Za rfl (Za (ldr rfl) (Za (YD ..) ?_))));generalize decide (a.side>1)=c2 at hB ⊢;cases c2 with
 |true=>exact Ze (bad (by rw[hB]; rfl))
 |false=>
 refine Xi (Za rfl (Za rfl (Za (ldr rfl) (Za (Xt ..) ?_))));generalize decide (a.op<0)=c3 at hB ⊢;cases c3 with
 |true=>exact Ze (bad (by rw[hB]; rfl))
 |false=>
 refine Xi (Za rfl (Za rfl (Za (ldr rfl) (Za (YD ..) ?_))));generalize decide (a.op>4)=c4 at hB ⊢;cases c4 with
 |true=>exact Ze (bad (by rw[hB]; rfl))
 |false=>
 refine Xi (Yd (c126g a) rfl g126_ok.plain rfl (Za rfl ?_));generalize bareF a=c5 at hB ⊢;cases c5 with
 |true=>exact good (by rw[hB]; rfl)
 |false=>exact bad (by rw[hB]; rfl)
end Go.Ah.Tz
end
section
namespace Go.Ah.Tz
open Go.Proofs.Tryz (prog)
set_option maxRecDepth 100000
def tb34:GT:=(.node 191 1 g191 (.node 149 1 g149 (.node 118 2 g118 (.node 77 2 g77 (.node 55 2 g55 (.node 37 1 g37 (.node 35 3 g35 (.node 34 0 g34 .leaf .leaf) .leaf) (.node 39 3 g39 .leaf .leaf)) (.node 71 2 g71 (.node 67 1 g67 (.node 57 1 g57 .leaf .leaf) .leaf) (.node 76 1 g76 .leaf .leaf))) (.node 110 1 g110 (.node 88 5 g88 (.node 83 3 g83 (.node 78 1 g78 .leaf .leaf) .leaf) (.node 89 1 g89 .leaf .leaf)) (.node 114 1 g114 (.node 113 1 g113 (.node 111 3 g111 .leaf .leaf) .leaf) (.node 115 2 g115 .leaf .leaf)))) (.node 130 1 g130 (.node 124 1 g124 (.node 121 1 g121 (.node 120 2 g120 (.node 119 2 g119 .leaf .leaf) .leaf) (.node 122 1 g122 .leaf .leaf)) (.node 128 4 g128 (.node 127 0 g127 (.node 126 1 g126 .leaf .leaf) .leaf) (.node 129 1 g129 .leaf .leaf))) (.node 145 2 g145 (.node 143 1 g143 (.node 142 1 g142 (.node 138 2 g138 .leaf .leaf) .leaf) (.node 144 4 g144 .leaf .leaf)) (.node 147 1 g147 (.node 146 2 g146 .leaf .leaf) (.node 148 2 g148 .leaf .leaf))))) (.node 169 2 g169 (.node 159 1 g159 (.node 154 2 g154 (.node 152 2 g152 (.node 151 2 g151 (.node 150 1 g150 .leaf .leaf) .leaf) (.node 153 2 g153 .leaf .leaf)) (.node 157 3 g157 (.node 156 2 g156 (.node 155 2 g155 .leaf .leaf) .leaf) (.node 158 1 g158 .leaf .leaf))) (.node 164 3 g164 (.node 162 1 g162 (.node 161 1 g161 (.node 160 1 g160 .leaf .leaf) .leaf) (.node 163 3 g163 .leaf .leaf)) (.node 167 3 g167 (.node 166 3 g166 (.node 165 3 g165 .leaf .leaf) .leaf) (.node 168 3 g168 .leaf .leaf)))) (.node 182 1 g182 (.node 176 2 g176 (.node 172 1 g172 (.node 171 4 g171 (.node 170 4 g170 .leaf .leaf) .leaf) (.node 173 1 g173 .leaf .leaf)) (.node 180 1 g180 (.node 179 1 g179 (.node 178 1 g178 .leaf .leaf) .leaf) (.node 181 1 g181 .leaf .leaf))) (.node 187 1 g187 (.node 185 2 g185 (.node 184 1 g184 (.node 183 1 g183 .leaf .leaf) .leaf) (.node 186 2 g186 .leaf .leaf)) (.node 189 2 g189 (.node 188 3 g188 .leaf .leaf) (.node 190 2 g190 .leaf .leaf)))))) (.node 230 1 g230 (.node 211 2 g211 (.node 201 2 g201 (.node 196 2 g196 (.node 194 1 g194 (.node 193 2 g193 (.node 192 1 g192 .leaf .leaf) .leaf) (.node 195 2 g195 .leaf .leaf)) (.node 199 0 g199 (.node 198 1 g198 (.node 197 1 g197 .leaf .leaf) .leaf) (.node 200 1 g200 .leaf .leaf))) (.node 206 1 g206 (.node 204 3 g204 (.node 203 2 g203 (.node 202 1 g202 .leaf .leaf) .leaf) (.node 205 1 g205 .leaf .leaf)) (.node 209 1 g209 (.node 208 2 g208 (.node 207 1 g207 .leaf .leaf) .leaf) (.node 210 1 g210 .leaf .leaf)))) (.node 221 2 g221 (.node 216 1 g216 (.node 214 1 g214 (.node 213 2 g213 (.node 212 1 g212 .leaf .leaf) .leaf) (.node 215 4 g215 .leaf .leaf)) (.node 219 5 g219 (.node 218 3 g218 (.node 217 1 g217 .leaf .leaf) .leaf) (.node 220 1 g220 .leaf .leaf))) (.node 226 2 g226 (.node 224 2 g224 (.node 223 1 g223 (.node 222 2 g222 .leaf .leaf) .leaf) (.node 225 1 g225 .leaf .leaf)) (.node 228 3 g228 (.node 227 1 g227 .leaf .leaf) (.node 229 0 g229 .leaf .leaf))))) (.node 249 1 g249 (.node 240 3 g240 (.node 235 2 g235 (.node 233 2 g233 (.node 232 1 g232 (.node 231 1 g231 .leaf .leaf) .leaf) (.node 234 4 g234 .leaf .leaf)) (.node 238 2 g238 (.node 237 2 g237 (.node 236 2 g236 .leaf .leaf) .leaf) (.node 239 2 g239 .leaf .leaf))) (.node 245 2 g245 (.node 243 2 g243 (.node 242 1 g242 (.node 241 1 g241 .leaf .leaf) .leaf) (.node 244 2 g244 .leaf .leaf)) (.node 247 1 g247 (.node 246 1 g246 .leaf .leaf) (.node 248 1 g248 .leaf .leaf)))) (.node 259 2 g259 (.node 254 1 g254 (.node 252 1 g252 (.node 251 1 g251 (.node 250 2 g250 .leaf .leaf) .leaf) (.node 253 2 g253 .leaf .leaf)) (.node 257 1 g257 (.node 256 1 g256 (.node 255 2 g255 .leaf .leaf) .leaf) (.node 258 0 g258 .leaf .leaf))) (.node 264 1 g264 (.node 262 1 g262 (.node 261 3 g261 (.node 260 1 g260 .leaf .leaf) .leaf) (.node 263 0 g263 .leaf .leaf)) (.node 266 1 g266 (.node 265 1 g265 .leaf .leaf) (.node 269 1 g269 .leaf .leaf)))))))
theorem Xcu:tb34.Ok prog GL0:=⟨g191_ok,⟨g149_ok,⟨g118_ok,⟨g77_ok,⟨g55_ok,⟨g37_ok,⟨g35_ok,⟨g34_ok,trivial,trivial⟩,trivial⟩,⟨g39_ok,trivial,trivial⟩⟩,⟨g71_ok,⟨g67_ok,⟨g57_ok,trivial,trivial⟩,trivial⟩,⟨g76_ok,trivial,trivial⟩⟩⟩,⟨g110_ok,⟨g88_ok,⟨g83_ok,⟨g78_ok,trivial,trivial⟩,trivial⟩,⟨g89_ok,trivial,trivial⟩⟩,⟨g114_ok,⟨g113_ok,⟨g111_ok,trivial,trivial⟩,trivial⟩,⟨g115_ok,trivial,trivial⟩⟩⟩⟩,⟨g130_ok,⟨g124_ok,⟨g121_ok,⟨g120_ok,⟨g119_ok,trivial,trivial⟩,trivial⟩,⟨g122_ok,trivial,trivial⟩⟩,⟨g128_ok,⟨g127_ok,⟨g126_ok,trivial,trivial⟩,trivial⟩,⟨g129_ok,trivial,trivial⟩⟩⟩,⟨g145_ok,⟨g143_ok,⟨g142_ok,⟨g138_ok,trivial,trivial⟩,trivial⟩,⟨g144_ok,trivial,trivial⟩⟩,⟨g147_ok,⟨g146_ok,trivial,trivial⟩,⟨g148_ok,trivial,trivial⟩⟩⟩⟩⟩,⟨g169_ok,⟨g159_ok,⟨g154_ok,⟨g152_ok,⟨g151_ok,⟨g150_ok,trivial,trivial⟩,trivial⟩,⟨g153_ok,trivial,trivial⟩⟩,⟨g157_ok,⟨g156_ok,⟨g155_ok,trivial,trivial⟩,trivial⟩,⟨g158_ok,trivial,trivial⟩⟩⟩,⟨g164_ok,⟨g162_ok,⟨g161_ok,⟨g160_ok,trivial,trivial⟩,trivial⟩,⟨g163_ok,trivial,trivial⟩⟩,⟨g167_ok,⟨g166_ok,⟨g165_ok,trivial,trivial⟩,trivial⟩,⟨g168_ok,trivial,trivial⟩⟩⟩⟩,⟨g182_ok,⟨g176_ok,⟨g172_ok,⟨g171_ok,⟨g170_ok,trivial,trivial⟩,trivial⟩,⟨g173_ok,trivial,trivial⟩⟩,⟨g180_ok,⟨g179_ok,⟨g178_ok,trivial,trivial⟩,trivial⟩,⟨g181_ok,trivial,trivial⟩⟩⟩,⟨g187_ok,⟨g185_ok,⟨g184_ok,⟨g183_ok,trivial,trivial⟩,trivial⟩,⟨g186_ok,trivial,trivial⟩⟩,⟨g189_ok,⟨g188_ok,trivial,trivial⟩,⟨g190_ok,trivial,trivial⟩⟩⟩⟩⟩⟩,⟨g230_ok,⟨g211_ok,⟨g201_ok,⟨g196_ok,⟨g194_ok,⟨g193_ok,⟨g192_ok,trivial,trivial⟩,trivial⟩,⟨g195_ok,trivial,trivial⟩⟩,⟨g199_ok,⟨g198_ok,⟨g197_ok,trivial,trivial⟩,trivial⟩,⟨g200_ok,trivial,trivial⟩⟩⟩,⟨g206_ok,⟨g204_ok,⟨g203_ok,⟨g202_ok,trivial,trivial⟩,trivial⟩,⟨g205_ok,trivial,trivial⟩⟩,⟨g209_ok,⟨g208_ok,⟨g207_ok,trivial,trivial⟩,trivial⟩,⟨g210_ok,trivial,trivial⟩⟩⟩⟩,⟨g221_ok,⟨g216_ok,⟨g214_ok,⟨g213_ok,⟨g212_ok,trivial,trivial⟩,trivial⟩,⟨g215_ok,trivial,trivial⟩⟩,⟨g219_ok,⟨g218_ok,⟨g217_ok,trivial,trivial⟩,trivial⟩,⟨g220_ok,trivial,trivial⟩⟩⟩,⟨g226_ok,⟨g224_ok,⟨g223_ok,⟨g222_ok,trivial,trivial⟩,trivial⟩,⟨g225_ok,trivial,trivial⟩⟩,⟨g228_ok,⟨g227_ok,trivial,trivial⟩,⟨g229_ok,trivial,trivial⟩⟩⟩⟩⟩,⟨g249_ok,⟨g240_ok,⟨g235_ok,⟨g233_ok,⟨g232_ok,⟨g231_ok,trivial,trivial⟩,trivial⟩,⟨g234_ok,trivial,trivial⟩⟩,⟨g238_ok,⟨g237_ok,⟨g236_ok,trivial,trivial⟩,trivial⟩,⟨g239_ok,trivial,trivial⟩⟩⟩,⟨g245_ok,⟨g243_ok,⟨g242_ok,⟨g241_ok,trivial,trivial⟩,trivial⟩,⟨g244_ok,trivial,trivial⟩⟩,⟨g247_ok,⟨g246_ok,trivial,trivial⟩,⟨g248_ok,trivial,trivial⟩⟩⟩⟩,⟨g259_ok,⟨g254_ok,⟨g252_ok,⟨g251_ok,⟨g250_ok,trivial,trivial⟩,trivial⟩,⟨g253_ok,trivial,trivial⟩⟩,⟨g257_ok,⟨g256_ok,⟨g255_ok,trivial,trivial⟩,trivial⟩,⟨g258_ok,trivial,trivial⟩⟩⟩,⟨g264_ok,⟨g262_ok,⟨g261_ok,⟨g260_ok,trivial,trivial⟩,trivial⟩,⟨g263_ok,trivial,trivial⟩⟩,⟨g266_ok,⟨g265_ok,trivial,trivial⟩,⟨g269_ok,trivial,trivial⟩⟩⟩⟩⟩⟩⟩
end Go.Ah.Tz
end
section
namespace Go.Ah.Tz
open Go.Proofs.Tryz (prog)
set_option maxRecDepth 1000000
theorem hT34:∀f np g,tb34.get f=some (np,g)→GQ f np g:=GT.get_ok Xcu
def bV34:AVal:=(.agg [(.rsl false false 12 [[(.str [73,109,112]),(.bool true),(.int .i64 1),(.int .i64 2),(.int .i64 2),(.int .i64 0),(.int .i64 0),(.int .i64 0),.nils,.nils,.nils,(.int .i64 0)],[(.str [66,105,103]),(.bool true),(.int .i64 9),(.int .i64 9),(.int .i64 9),(.int .i64 0),(.int .i64 0),(.int .i64 0),.nils,.nils,.nils,(.int .i64 24)]]),.nils])
theorem p78:PC 78 [(.str [99,97,114,100,32,73,109,112,32,117,110,105,116,32,49,32,50,47,50,32,123,32,125,32,99,97,114,100,32,66,105,103,32,117,110,105,116,32,57,32,57,47,57,32,123,32,125])] (.tup [bV34,.agg [.int .i64 0,.int .i64 0]]):=Qbi hP hT34 (much:=1000000000) 60 (by kernel_rfl)
def kn34:Known:=[(78,[(.str [99,97,114,100,32,73,109,112,32,117,110,105,116,32,49,32,50,47,50,32,123,32,125,32,99,97,114,100,32,66,105,103,32,117,110,105,116,32,57,32,57,47,57,32,123,32,125])],.tup [bV34,.agg [.int .i64 0,.int .i64 0]])]
theorem Qcq:KnOk prog GL0 kn34:=⟨⟨⟨g78_ok.plain,rfl,rfl⟩,p78⟩,trivial⟩
theorem p34:PC 34 [] (.bool true):=Zb3 hP hT34 (much:=1000000000) Qcq 60 (by kernel_rfl)
end Go.Ah.Tz
end
section
namespace Go.Ah
open Go.Sort (Holds putRow grow putCells)
def SortC(P:Program)(f:FuncId):Prop:=∀(blk off cap:Nat) (zs:List Int) (w:World),Holds (Value.int .i64) w blk off zs.toArray→blk<w.heap.size→zs.length<4611686018427387904 →
 Calls P f #[.slice (some ⟨blk,off,none⟩) zs.length cap] w λe w'=>e=.returned (.tuple #[])∧∃n os,w'=grow (putRow (Value.int .i64) (Sort.ahead w n) blk off (zs.mergeSort λx y=>decide (x≤y)).toArray) os
def srt(l:List Int):List Int:=l.mergeSort λx y=>decide (x≤y)
theorem YaR(l:List Int):(srt l).length=l.length:=by simp[srt]
theorem XaR(l:List Int):(srt l).Perm l:=List.mergeSort_perm l _
theorem Xcd(l:List Int):(srt l).Pairwise (·≤·):=by
 have:=List.pairwise_mergeSort (le:=λx y:Int=>decide (x≤y)) (λa b c h k=>by simp at h k ⊢; omega) (λa b=>by simp; omega) l;exact this.imp (λh=>by simpa using h)
theorem Ycd{l l':List Int}(h:l'.Pairwise (·≤·))(p:l'.Perm l):srt l=l':=
 List.Perm.eq_of_pairwise (λa b _ _ h k=>by omega) (Xcd l) h ((XaR l).trans p.symm)
section
variable {P:Program} {GL:Globs}
theorem Zbt{f:FuncId}(hs:SortC P f){h0:Hp}{b:Nat}{zs:List Int}{ex:Bool}(hb:h0 b=some (.rows 1 (zs.map λz=>[.int .i64 z])))(hne:zs≠[])(hlen:zs.length<4611686018427387904) :
  ACall P GL f [.sl b 0 zs.length ex] h0 (.tup []) [] [(b,.rows 1 ((srt zs).map λz=>[.int .i64 z]))]:=by
 intro w0 L g h w vs r hx _ hup;have hb':h b=some (.rows 1 (zs.map λz=>[.int .i64 z])):=by rw[hup (b,_) (List.mem_singleton.2 rfl)]; exact hb
 have hpos:0<zs.length:=List.length_pos_iff.2 hne
 match vs,hx with
 |[v],hx=>
 have hd:=hx.1;generalize hk:zs.length=k at hd;cases hd with
 |slv _ _ _ cb a ec hv=>omega
 |sl _ _ _ _ _ cb cap ec hv h1 h2 h3=>
 subst hk;obtain⟨hM,hin,_⟩:=r.own b _ cb hb' rfl ec hv;obtain⟨hsz,arr,T,ho,ht,hle,_,hcell⟩:=r.rowsBlk hb' ec hv;simp only[List.length_map,Nat.mul_one] at hle;have htake:arr.toList.take zs.length=zs.map (Value.int .i64):=by
  apply List.ext_getElem?;intro j;by_cases hj:j<zs.length
  ·rw[List.getElem?_take_of_lt hj,List.getElem?_map,List.getElem?_eq_getElem hj,Array.getElem?_toList];obtain⟨u,hu⟩:∃u,arr[j]?=some u:=⟨arr[j]'(by omega),by simp[show j<arr.size by omega]⟩;have:=hcell j [.int .i64 zs[j]] 0 (.int .i64 zs[j]) u (by simp[hj]) rfl (by simpa using hu);rw[hu];cases this;rfl
  ·rw[List.getElem?_take_eq_none (by omega),List.getElem?_eq_none (by simp; omega)]
 have hlt:cb.blk<w.heap.size:=(Array.getElem?_eq_some_iff.1 ho).1;have h0':0*cb.sz=0:=by simp
 rw[h0'];refine(hs cb.blk 0 cap zs w (holds_of_blockI ho htake) hlt hlen).mono ?_;rintro e w' ⟨rfl,n,os,rfl⟩;refine⟨_,rfl,g,Gm.Le.refl _,?_,.tup _ [] #[] rfl (by simp)⟩;have hl2:(srt zs).length=zs.length:=YaR zs;have r1:=r.write (b:=b) (blk':=.rows 1 ((srt zs).map λz=>[.int .i64 z])) (o':=.cells (putCells (Value.int .i64) 0 (srt zs).toArray arr) T (0,0)) (w':={ w with heap:=w.heap.setIfInBounds cb.blk (.cells (putCells (Value.int .i64) 0 (srt zs).toArray arr) T (0,0)) }) hb' rfl ec hv rfl rfl rfl rfl rfl ⟨hsz,_,T,rfl,by simp[putCells,ht],by simp; omega,by simp,?_⟩
 ·have hgr:=grownBy_sortedI (w:=w) (g:=cb.blk) (n:=n) (os:=os) (srt zs).toArray;have hh:=heap_sortedI (w:=w) (g:=cb.blk) (n:=n) (os:=os) (srt zs).toArray ho;refine r1.after (M:=λ_=>none) (M':=g.M) ?_ (MLe.refl _) (λc o ec'=>?_) (λc o ec'=>.inl ec')
  ·refine⟨rfl,rfl,rfl,?_,λk hk _=>?_⟩
   ·show (w.heap.setIfInBounds _ _).size≤_;rw[Array.size_setIfInBounds]; exact hgr.size
   ·have hk':k<w.heap.size:=by simpa using hk
    show _=(w.heap.setIfInBounds _ _)[k]?;by_cases e:k=cb.blk
    ·subst e;rw[show (w.heap.setIfInBounds cb.blk _)[cb.blk]?=_ from Array.getElem?_setIfInBounds_self_of_lt hk'];exact hh
    ·rw[Array.getElem?_setIfInBounds_ne (λq=>e q.symm)];exact hgr.block k hk' (λq=>e (Option.some.inj q))
  ·have hc:c<w.heap.size:=r.stable_lt ec';exact(hgr.block c hc (λq=>by cases q; rw[hM] at ec'; cases ec')).trans (r.stable c o ec')
 ·intro i row j x v hi hj hv';rw[List.getElem?_map] at hi;obtain⟨z,hz,rfl⟩:=Option.map_eq_some_iff.1 hi;have hj0:j=0:=by
   have:=(YLG hj).1;simpa using this
  subst hj0;cases hj;have hi':i<(srt zs).length:=(YLG hz).1;simp only[putCells,Nat.mul_one,Nat.add_zero,Array.getElem?_mapIdx] at hv';have hai:i<arr.size:=by omega
  rw[Array.getElem?_eq_getElem hai,Option.map_some,if_pos ⟨Nat.zero_le _,by simpa using hi'⟩] at hv';have:(srt zs).toArray[i-0]! = z:=by
   rw[Nat.sub_zero];rw[getElem!_pos _ i (by simpa using hi')];have:=(YLG hz).2;simpa using this
  rw[this] at hv';cases hv';exact .int _ _ _
end
end Go.Ah
end
section
namespace Go.Ah.Tz
open Go.Proofs.Tryz (prog)
theorem Bor.more{h0:Hp}{rd rd':List Nat}{x y:AVal}(h:Bor h0 rd x y)(hs:∀b∈rd,b∈rd'):Bor h0 rd' x y:=
 λGL w0 L g h' w M2 r hM hrd v d=>h GL w0 L g h' w M2 r hM (λb hb=>hrd b (hs b hb)) v d
def IdV(b:Nat)(τ:List ABlk)(x:AVal)(l:List Int):Prop:=(x=.nils∧l=[])∨∃c id,x=.sl c 0 1 true∧l=[id]∧hget τ c=.rows 1 [[iv id]]∧c≠b
def PrW(b:Nat)(τ:List ABlk)(x:AVal)(l:List (Int×Int)):Prop:=(x=.nils∧l=[])∨∃c p,x=.sl c 0 1 true∧l=[p]∧hget τ c=.rows 2 [[iv p.1,iv p.2]]∧c≠b
def RowIs(b:Nat)(τ:List ABlk)(row:List AVal)(a:Ac):Prop:=∃x y,row=[iv8 a.op,iv a.side,iv a.place,iv a.target,x,y]∧IdV b τ x a.ids∧PrW b τ y a.prs
def RX(τ τ':List ABlk):Prop:=∀c n rs,hget τ c=.rows n rs→hget τ' c=.rows n rs
theorem RX.app(τ l:List ABlk):RX τ (τ++l):=λ_ _ _ h=>Xj l h (by simp)
theorem RX.trans{a b c:List ABlk}(h:RX a b)(k:RX b c):RX a c:=λx n r e=>k x n r (h x n r e)
theorem RX.set{τ:List ABlk}{b:Nat}{r:List AVal}(x:ABlk)(h:hget τ b=.box r):RX τ (τ.set b x):=λc n rs e=>Zp e (by simp) (by rintro rfl; rw[h] at e; cases e)
theorem IdV.mono{b:Nat}{τ τ':List ABlk}{x:AVal}{l:List Int}(h:IdV b τ x l)(k:RX τ τ'):IdV b τ' x l:=by
 rcases h with h|⟨c,id,h1,h2,h3,h4⟩
 ·exact .inl h
 ·exact .inr ⟨c,id,h1,h2,k _ _ _ h3,h4⟩
theorem PrW.mono{b:Nat}{τ τ':List ABlk}{x:AVal}{l:List (Int×Int)}(h:PrW b τ x l)(k:RX τ τ'):PrW b τ' x l:=by
 rcases h with h|⟨c,id,h1,h2,h3,h4⟩
 ·exact .inl h
 ·exact .inr ⟨c,id,h1,h2,k _ _ _ h3,h4⟩
theorem RowIs.mono{b:Nat}{τ τ':List ABlk}{row:List AVal}{a:Ac}(h:RowIs b τ row a)(k:RX τ τ'):RowIs b τ' row a:=by
 obtain⟨x,y,h1,h2,h3⟩:=h; exact⟨x,y,h1,h2.mono k,h3.mono k⟩
theorem RowIs.dead{b b':Nat}{τ τ':List ABlk}{row:List AVal}{a:Ac}(h:RowIs b τ row a)(k:∀c n rs,c≠b→hget τ c=.rows n rs→hget τ' c=.rows n rs)(hb:τ.length≤b'):RowIs b' τ' row a:=by
 have lt:∀ {c n rs},hget τ c=.rows n rs→c≠b':=λh e=>by have:=Zo h (by simp); omega
 obtain⟨x,y,h1,h2,h3⟩:=h;refine⟨x,y,h1,?_,?_⟩
 ·rcases h2 with h|⟨c,id,q1,q2,q3,q4⟩
  ·exact .inl h
  ·exact .inr ⟨c,id,q1,q2,k _ _ _ q4 q3,lt q3⟩
 ·rcases h3 with h|⟨c,id,q1,q2,q3,q4⟩
  ·exact .inl h
  ·exact .inr ⟨c,id,q1,q2,k _ _ _ q4 q3,lt q3⟩
theorem RowIs.cell{b:Nat}{τ:List ABlk}{row:List AVal}{a:Ac}(h:RowIs b τ row a):row.all AVal.cell=true:=by
 obtain⟨x,y,rfl,h2,h3⟩:=h;have hx:x.cell=true:=by rcases h2 with ⟨rfl,_⟩|⟨c,id,rfl,_⟩<;>rfl
 have hy:y.cell=true:=by rcases h3 with ⟨rfl,_⟩|⟨c,id,rfl,_⟩<;>rfl
 show (true&&(true&&(true&&(true&&(x.cell&&(y.cell&&true))))))=true;rw[hx,hy]; rfl
def OI(N:Nat)(l:List Ac)(v:AVal)(τ:List ABlk):Prop:=(l=[]∧v=.nils)∨∃b rs,N≤b∧v=.sl b 0 l.length false∧l≠[]∧hget τ b=.rows 6 rs∧rs.length=l.length∧∀(i:Nat) (row:List AVal) (a:Ac),rs[i]?=some row→l[i]?=some a→RowIs b τ row a
theorem OI.nil(N:Nat)(τ:List ABlk):OI N [] .nils τ:=.inl ⟨rfl,rfl⟩
theorem OI.mono{N:Nat}{l:List Ac}{v:AVal}{τ τ':List ABlk}(h:OI N l v τ)(k:RX τ τ'):OI N l v τ':=by
 rcases h with h|⟨b,rs,h1,h2,h3,h4,h5,h6⟩
 ·exact .inl h
 ·exact .inr ⟨b,rs,h1,h2,h3,k _ _ _ h4,h5,λi row a e1 e2=>(h6 i row a e1 e2).mono k⟩
theorem OI.len{N:Nat}{l:List Ac}{v:AVal}{τ:List ABlk}(h:OI N l v τ)(σ:List ABlk):Xe [v] σ=.ok (iv l.length) [] []:=by
 rcases h with ⟨rfl,rfl⟩|⟨b,rs,h1,rfl,_⟩<;>rfl
theorem Zab:∀ {rs:List (List AVal)},(∀r∈rs,r.all AVal.cell=true)→YE rs=true
 |[],_=>rfl
 |r::rs,h=>by simp only[YE,Bool.and_eq_true]; exact⟨h r (by simp),Zab λx hx=>h x (by simp[hx])⟩
theorem XaW(n by_:Nat){σ:List ABlk}{b c len k:Nat}{ex ex2:Bool}{rs rs2:List (List AVal)}(hb:hget σ b=.rows n rs)(hc:hget σ c=.rows n rs2)(hl:rs.length=len)(hl2:rs2.length=k)(hr:YE rs2=true)(hroom:(2*(len+k)+192)*by_≤2 ^ 48) :
  Zi n by_ [.sl b 0 len ex,.sl c 0 k ex2] σ=.ok (.sl σ.length 0 (len+k) false) [c] ([(b,.dead)]++[(σ.length,.rows n (rs++rs2))])∧Zi n by_ [.nils,.sl c 0 k ex2] σ=.ok (.sl σ.length 0 k false) [c] ([]++[(σ.length,.rows n rs2)]):=by
 have h1:YK n σ (.sl c 0 k ex2)=some (rs2,[c]):=by
  simp only[YK,hc];simp[cut,hl2];rw[show Nat.ble k k=true from Nat.ble_eq_true_of_le (Nat.le_refl _)];simp[←hl2]
 have h2:Nat.ble ((2*(len+k)+192)*by_) (2 ^ 48)=true:=Nat.ble_eq_true_of_le hroom;have h3:Nat.ble ((2*k+192)*by_) (2 ^ 48)=true:=Nat.ble_eq_true_of_le (Nat.le_trans (Nat.mul_le_mul_right _ (by omega)) hroom);constructor
 ·have:Zi n by_ [.sl b 0 len ex,.sl c 0 k ex2] σ=ZF n by_ σ rs [(b,.dead)] (.sl c 0 k ex2):=by
   simp[Zi,Zaj,hb,hl]
  rw[this];unfold ZF;simp only[h1,hr,hl2,h2,Bool.and_self,cond_true,hl]
 ·show ZF n by_ σ [] [] (.sl c 0 k ex2)=_;unfold ZF;simp only[h1,hr,hl2,List.length_nil,h3,Bool.and_self,cond_true,Nat.zero_add,List.nil_append]
theorem OI.ops{N:Nat}{l as2:List Ac}{v:AVal}{τ:List ABlk}{c:Nat}{rs2:List (List AVal)}(h:OI N l v τ)(hc:hget τ c=.rows 6 rs2)(hl2:rs2.length=as2.length)(hne:as2≠[])(hrow:∀b,(v=.sl b 0 l.length false∨b=τ.length)→∀(i:Nat) (row:List AVal) (a:Ac),rs2[i]?=some row→as2[i]?=some a→RowIs b τ row a)(hN:N≤τ.length)(hroom:l.length+as2.length≤1100000000) :
  ∃v' rd up τ',Zi 6 80 [v,.sl c 0 as2.length true] τ=.ok v' rd up∧upL τ up=some τ'∧OI N (l++as2) v' τ'∧τ.length≤τ'.length∧(∀d,d<N→hget τ' d=hget τ d)∧(∀d r,hget τ d=.box r→hget τ' d=.box r):=by
 have hcell:YE rs2=true:=Zab λr hr=>by
  obtain⟨i,hi,e⟩:=List.getElem_of_mem hr;exact(hrow τ.length (.inr rfl) i r as2[i] (by rw[←e]; simp) (by simp)).cell
 have hpos:0<as2.length:=List.length_pos_iff.2 hne;rcases h with ⟨rfl,rfl⟩|⟨b,rs,h1,rfl,h3,h4,h5,h6⟩
 ·have e:=(XaW 6 80 (len:=rs2.length) (b:=c) (ex:=true) (ex2:=true) hc hc rfl hl2 hcell (by rw[show (2:Nat) ^ 48=281474976710656 from rfl]; simp at hroom; omega)).2;refine⟨_,_,_,_,e,Zy _ _,?_,by simp,λd hd=>Yt _ (by omega),λd r hd=>Xj _ hd (by simp)⟩;refine .inr ⟨τ.length,rs2,hN,rfl,by simpa using hne,Yj _ _,hl2,λi row' a' e1 e2=>?_⟩;exact(hrow _ (.inr rfl) i row' a' e1 (by simpa using e2)).mono (RX.app _ _)
 ·have hlt:=Zo h4 (by simp);have e:=(XaW 6 80 h4 hc h5 hl2 (ex:=false) (ex2:=true) hcell (by rw[show (2:Nat) ^ 48=281474976710656 from rfl]; omega)).1;have k:∀d n rs',d≠b→hget τ d=.rows n rs'→hget (τ.set b .dead++[.rows 6 (rs++rs2)]) d=.rows n rs':=λd n rs' hd q=>Xj _ (Zp q (by simp) (λe=>hd e.symm)) (by simp);refine⟨_,_,_,_,e,YaS _ _ hlt,?_,by simp,λd hd=>?_,λd r hd=>?_⟩
  ·refine .inr ⟨τ.length,rs++rs2,hN,by simp,by simp[h3],?_,by simp[h5,hl2],λi row' a' e1 e2=>?_⟩
   ·have:=Yj (τ.set b .dead) (.rows 6 (rs++rs2));simpa using this
   ·by_cases hi:i<rs.length
    ·rw[List.getElem?_append_left hi] at e1;rw[List.getElem?_append_left (by omega)] at e2;exact(h6 i row' a' e1 e2).dead k (Nat.le_refl _)
    ·rw[List.getElem?_append_right (by omega)] at e1;rw[List.getElem?_append_right (by omega),←h5] at e2;exact(hrow b (.inl rfl) _ row' a' e1 e2).dead k (Nat.le_refl _)
  ·rw[Yt _ (by simp; omega),Yq _ (by omega) (by omega)]
  ·exact Xj _ (Zp hd (by simp) (by rintro rfl; rw[h4] at hd; cases hd)) (by simp)
theorem OI.op{N:Nat}{l:List Ac}{v:AVal}{τ:List ABlk}{c:Nat}{row:List AVal}{a:Ac}(h:OI N l v τ)(hc:hget τ c=.rows 6 [row])(hrow:∀b,(v=.sl b 0 l.length false∨b=τ.length)→RowIs b τ row a)(hN:N≤τ.length)(hroom:l.length≤1000000000) :
  ∃v' rd up τ',Zi 6 80 [v,.sl c 0 1 true] τ=.ok v' rd up∧upL τ up=some τ'∧OI N (l++[a]) v' τ'∧τ.length≤τ'.length∧(∀d,d<N→hget τ' d=hget τ d)∧(∀d r,hget τ d=.box r→hget τ' d=.box r):=
 h.ops (as2:=[a]) hc rfl (by simp) (λb hb i row' a' e1 e2=>by
  cases i with
  |succ i=>simp at e1
  | zero=>simp at e1 e2; subst e1; subst e2; exact hrow b hb) hN (by simp; omega)
theorem IdV.ri{b:Nat}{τ:List ABlk}{x:AVal}{l:List Int}(h:IdV b τ x l):∃rd,RI τ rd x l:=by
 rcases h with ⟨rfl,rfl⟩|⟨c,id,rfl,rfl,h,_⟩
 ·exact⟨[],RI.nils⟩
 ·exact⟨[c],RI.own (l:=[id]) h (by simp) rfl⟩
theorem PrW.bor{b:Nat}{τ:List ABlk}{x:AVal}{l:List (Int×Int)}(h:PrW b τ x l):∃rd,Bor (hp τ) rd x (prV l):=by
 rcases h with ⟨rfl,rfl⟩|⟨c,p,rfl,rfl,h,_⟩
 ·exact⟨[],Bor.weak (Bor.ro rfl) (λM u d=>d.nils_rsl 2)⟩
 ·exact⟨[c],Bor.own h (by simp) (by simp) rfl (by simp)⟩
theorem RowIs.bor{b:Nat}{τ:List ABlk}{row:List AVal}{a:Ac}(h:RowIs b τ row a):∃rd,BorL (hp τ) rd row (acC a):=by
 obtain⟨x,y,rfl,h2,h3⟩:=h;obtain⟨r1,k1⟩:=h2.ri;obtain⟨r2,k2⟩:=h3.bor;refine⟨r1++r2,?_⟩;exact .cons (Bor.ro rfl) <| .cons (Bor.ro rfl) <| .cons (Bor.ro rfl) <| .cons (Bor.ro rfl) <| .cons (Bor.more k1 (by simp +contextual)) <| .cons (Bor.more k2 (by simp +contextual)) .nil
@[reducible] def acV(l:List Ac):AVal:=.rsl false false 6 (l.map acC)
theorem Bor.all{h0:Hp}{τ:List ABlk}:∀ {rs:List (List AVal)} {l:List Ac} {b:Nat},h0=hp τ→rs.length=l.length→(∀(i:Nat) (row:List AVal) (a:Ac),rs[i]?=some row→l[i]?=some a→RowIs b τ row a)→∃rd,∀(i:Nat) (row:List AVal) (a:Ac),rs[i]?=some row→l[i]?=some a→BorL h0 rd row (acC a)
 |[],[],_,_,_,_=>⟨[],λi row a e=>by simp at e⟩
 |r::rs,a::l,b,hh,hl,h=>by
  obtain⟨r1,k1⟩:=(h 0 r a rfl rfl).bor;obtain⟨r2,k2⟩:=Bor.all hh (by simpa using hl) (λi row a e1 e2=>h (i+1) row a (by simpa using e1) (by simpa using e2));refine⟨r1++r2,λi row a' e1 e2=>?_⟩;cases i with
  |zero=>
   simp at e1 e2; subst e1; subst e2; subst hh;intro GL w0 L g h' w M2 r hM hrd vs d;exact k1 GL w0 L g h' w M2 r hM (λb hb=>hrd b (by simp[hb])) vs d
  |succ i=>
   intro GL w0 L g h' w M2 r hM hrd vs d;exact k2 i row a' (by simpa using e1) (by simpa using e2) GL w0 L g h' w M2 r hM (λb hb=>hrd b (by simp[hb])) vs d
 |[],_::_,_,_,hl,_=>by simp at hl
 |_::_,[],_,_,hl,_=>by simp at hl
theorem OI.bor{N:Nat}{l:List Ac}{v:AVal}{τ:List ABlk}(h:OI N l v τ):∃rd,Bor (hp τ) rd v (acV l):=by
 rcases h with ⟨rfl,rfl⟩|⟨b,rs,h1,rfl,h3,h4,h5,h6⟩
 ·exact⟨[],Bor.weak (Bor.ro rfl) (λM u d=>d.nils_rsl 6)⟩
 ·obtain⟨rd,hr⟩:=Bor.all rfl h5 h6;refine⟨b::rd,Bor.weak (y:=.rsl false false 6 (l.map acC)) ?_ (λM u d=>d)⟩;refine Bor.sl (XN h4 (by simp)) (by simp) (by omega) (by simp) (λi row row' q1 q2=>?_);rw[List.getElem?_map] at q2;obtain⟨a,ha,rfl⟩:=Option.map_eq_some_iff.1 q2;have:=hr i row a (by simpa using q1) ha;intro GL w0 L g h' w M2 r hM hrd vs d;exact this GL w0 L g h' w M2 r hM (λb hb=>hrd b (by simp[hb])) vs d
end Go.Ah.Tz
end
section
namespace Go.Ah.Tz
open Go.Proofs.Tryz (prog)
def YI(s:St):List Int:=s.s0.units.map Th.id++s.s1.units.map Th.id
def tgs(s:St):List Int:=[-3,-2,-1]++srt (YI s)
def Yaj(side p t:Int):Ac:=⟨0,side,p,t,[],[]⟩
def acAtt(side:Int)(u:Th):Ac:=⟨1,side,0,-1,[u.id],[]⟩
def acBlk(side id:Int)(u:Th):Ac:=⟨2,side,0,-1,[],[(id,u.id)]⟩
def acEnd(op side:Int):Ac:=⟨op,side,0,-1,[],[]⟩
def XC(T:List Int)(side:Int):Int→Nat→List Ac
 |_,0=>[]
 |p,k+1=>T.map (Yaj side p)++XC T side (p+1) k
def Zt(side:Int)(us:List Th):List Int→List Ac
 |[]=>[]
 |id::l=>us.map (acBlk side id)++Zt side us l
def cand(s:St)(side:Int)(x:Sd):List Ac:=XC (tgs s) side 0 x.hand.length++(x.units.map (acAtt side)++(Zt side x.units s.attack++[acEnd 3 side,acEnd 4 side]))
def flt(b:Bk)(s:St)(l:List Ac):List Ac:=l.filter λa=>decide (doF b s a=0)
theorem ZL(b:Bk)(s:St)(a:Ac)(l:List Ac):flt b s (a::l)=(if doF b s a=0 then [a] else [])++flt b s l:=by
 by_cases h:doF b s a=0<;>simp[flt,h]
def IdN(τ:List ABlk)(x:AVal)(l:List Int):Prop:=(x=.nils∧l=[])∨∃c id,x=.sl c 0 1 true∧l=[id]∧hget τ c=.rows 1 [[iv id]]
def PrN(τ:List ABlk)(x:AVal)(l:List (Int×Int)):Prop:=(x=.nils∧l=[])∨∃c p,x=.sl c 0 1 true∧l=[p]∧hget τ c=.rows 2 [[iv p.1,iv p.2]]
theorem IdN.at{τ:List ABlk}{x:AVal}{l:List Int}(h:IdN τ x l){d:Nat}(hd:d=τ.length∨∃rs,hget τ d=.rows 6 rs):IdV d τ x l:=by
 rcases h with h|⟨c,id,h1,h2,h3⟩
 ·exact .inl h
 ·refine .inr ⟨c,id,h1,h2,h3,?_⟩;rintro rfl;rcases hd with hd|⟨rs,hd⟩
  ·have:=Zo h3 (by simp); omega
  ·rw[h3] at hd; cases hd
theorem PrN.at{τ:List ABlk}{x:AVal}{l:List (Int×Int)}(h:PrN τ x l){d:Nat}(hd:d=τ.length∨∃rs,hget τ d=.rows 6 rs):PrW d τ x l:=by
 rcases h with h|⟨c,id,h1,h2,h3⟩
 ·exact .inl h
 ·refine .inr ⟨c,id,h1,h2,h3,?_⟩;rintro rfl;rcases hd with hd|⟨rs,hd⟩
  ·have:=Zo h3 (by simp); omega
  ·rw[h3] at hd; cases hd
theorem IdN.mono{τ τ':List ABlk}{x:AVal}{l:List Int}(h:IdN τ x l)(k:RX τ τ'):IdN τ' x l:=by
 rcases h with h|⟨c,id,h1,h2,h3⟩
 ·exact .inl h
 ·exact .inr ⟨c,id,h1,h2,k _ _ _ h3⟩
theorem PrN.mono{τ τ':List ABlk}{x:AVal}{l:List (Int×Int)}(h:PrN τ x l)(k:RX τ τ'):PrN τ' x l:=by
 rcases h with h|⟨c,id,h1,h2,h3⟩
 ·exact .inl h
 ·exact .inr ⟨c,id,h1,h2,k _ _ _ h3⟩
theorem OI.at{N:Nat}{l:List Ac}{v:AVal}{τ:List ABlk}(h:OI N l v τ){d:Nat}(hd:v=.sl d 0 l.length false∨d=τ.length):d=τ.length∨∃rs,hget τ d=.rows 6 rs:=by
 rcases hd with hd|hd
 ·rcases h with ⟨rfl,rfl⟩|⟨b,rs,h1,rfl,h3,h4,h5,h6⟩
  ·cases hd
  ·cases hd; exact .inr ⟨rs,h4⟩
 ·exact .inl hd
theorem YaL{row:List AVal}(h:row.all AVal.cell=true):cellsOf (.agg row)=some row:=by simp[cellsOf,h]
theorem QcD{row:List AVal}(h:row.all AVal.cell=true)(σ:List ABlk):Qk [.agg row] σ=.ok (.bptr σ.length 0) [] [(σ.length,.box row)]:=by rw[e_box,YaL h]
theorem Qbb(n:Nat)(σ:List ABlk)(x:AVal)(z cs:List AVal)(hx:fill z [(0,n)] [x]=some cs)(hc:chunk n 1 cs=some [cs]):Qh n 1 z [(0,n)] [x] σ=.ok (.sl σ.length 0 1 true) [] [(σ.length,.rows n [cs])]:=by simp only[Qh,hx,hc]
theorem OI.cells{N:Nat}{l:List Ac}{v:AVal}{τ:List ABlk}(h:OI N l v τ):cellsOf v=some [v]:=by
 rcases h with ⟨rfl,rfl⟩|⟨b,rs,h1,rfl,_⟩<;>rfl
attribute [local irreducible] Ans.rd Ans.pu Ans.wr Ans.dr Ans.gr Ans.gw Ans.gl Ans.gd Ans.opt joinK W
set_option maxHeartbeats 8000000
def PS(τs:List ABlk)(l:List Ac)(τ:List ABlk):Prop:=∃v,hget τ 3=.box [v]∧OI τs.length l v τ∧τs.length≤τ.length∧∀c,c<τs.length→c≠3→hget τ c=hget τs c
theorem PS.more{τs:List ABlk}{l:List Ac}{τ:List ABlk}(h:PS τs l τ)(m:List ABlk):PS τs l (τ++m):=by
 obtain⟨v,h1,h2,h3,h4⟩:=h;exact⟨v,Xj _ h1 (by simp),h2.mono (RX.app _ _),by simp; omega,λc hc hn=>by rw[Yt _ (by omega)]; exact h4 c hc hn⟩
theorem PS.get{τs:List ABlk}{l:List Ac}{τ:List ABlk}(h:PS τs l τ){c:Nat}{x:ABlk}(hx:hget τs c=x)(hd:x≠.dead)(hn:c≠3):hget τ c=x:=by
 obtain⟨v,h1,h2,h3,h4⟩:=h;rw[h4 c (Zo hx hd) hn]; exact hx
theorem Ya6{b:Bk}{s:St}{side:Int}{τs τ:List ABlk}{l:List Ac}(hp:PS τs l τ)(h0:hget τs 0=.box (bkC b))(h1:hget τs 1=.box (stC s))(h2:hget τs 2=.box [iv side])(h4:4≤τs.length)(hroom:l.length≤1000000000)
 (a:Ac)(ha:a.side=side){q:Int}{x y:AVal}(hx:IdN τ x a.ids)(hy:PrN τ y a.prs)(h83:PC 83 [.rptr (bkC b) 0,.rptr (stC s) 0,.rptr (acC a) 0] (iv (doF b s a)))
 {K:AVal→List ABlk→Prop}(hK:∀τ',PS τs (l++if doF b s a=0 then [a] else []) τ'→K (.tup []) τ') :
  VV.call .callv [.func (.func 88) [] [.bptr 2 0,.bptr 0 0,.bptr 1 0,.bptr 3 0],.agg [iv8 a.op,iv q,iv a.place,iv a.target,x,y]] τ K:=by
 have q0:=hp.get h0 (by simp) (by decide);have q1:=hp.get h1 (by simp) (by decide);have q2:=hp.get h2 (by simp) (by decide);obtain⟨v,p1,p2,p3,p4⟩:=hp;refine Qy hP rfl g88_ok rfl ?_;unfold g88;have hcl:∀z:Int,[iv8 a.op,iv z,iv a.place,iv a.target,x,y].all AVal.cell=true:=λz=>RowIs.cell (b:=τ.length) (τ:=τ) (a:={ a with side:=z }) ⟨x,y,rfl,hx.at (.inl rfl),hy.at (.inl rfl)⟩;refine Zh (QcD (hcl q) τ) (Zy _ _) ?_;refine Za (ld (Xj _ q2 (by simp)) rfl) (Za rfl ?_);refine Zh (stv (Yj τ _) rfl rfl rfl) (Ys _ (by simp)) ?_;have e:(τ++[ABlk.box [iv8 a.op,iv q,iv a.place,iv a.target,x,y]]).set τ.length (.box [iv8 a.op,iv side,iv a.place,iv a.target,x,y])=τ++[.box [iv8 a.op,iv side,iv a.place,iv a.target,x,y]]:=by
  rw[List.set_append_right _ _ (Nat.le_refl _)]; simp
 rw[e];have hro:∀d,(v=.sl d 0 l.length false∨d=τ.length)→RowIs d τ [iv8 a.op,iv side,iv a.place,iv a.target,x,y] a:=λd hd=>⟨x,y,by rw[ha],hx.at (p2.at hd),hy.at (p2.at hd)⟩;have hnb:hget (τ++[.box [iv8 a.op,iv side,iv a.place,iv a.target,x,y]]) τ.length=.box [iv8 a.op,iv side,iv a.place,iv a.target,x,y]:=Yj _ _;obtain⟨rd,hbor⟩:=((hro τ.length (.inr rfl)).mono (RX.app τ [.box [iv8 a.op,iv side,iv a.place,iv a.target,x,y]])).bor;have hbor':∀rd',(∀b∈rd,b∈rd')→BorL (Go.Ah.hp (τ++[.box [iv8 a.op,iv side,iv a.place,iv a.target,x,y]])) rd' [iv8 a.op,iv side,iv a.place,iv a.target,x,y] (acC a):=λrd' hs GL w0 L g h w M2 r hM hrd vs d=>hbor GL w0 L g h w M2 r hM (λb hb=>hrd b (hs b hb)) vs d;refine Qbg (rd:=0::1::τ.length::rd) h83 rfl g83_ok.plain (.cons (Bor.box (row:=bkC b) (XN (Xj _ q0 (by simp)) (by simp)) (by simp) (BorL.ro rfl)) <| .cons (Bor.box (row:=stC s) (XN (Xj _ q1 (by simp)) (by simp)) (by simp) (BorL.ro rfl)) <| .cons (Bor.box (XN hnb (by simp)) (by simp) (hbor' _ (by simp +contextual))) .nil) rfl ?_;refine Za (Zf ..) (Zc (λh=>?_) (λh=>?_));rotate_left
 ·refine hK _ ?_;rw[if_neg (by simpa using h),List.append_nil];exact PS.more ⟨v,p1,p2,p3,p4⟩ _
 rw[if_pos (by simpa using h)] at hK;refine Za (ld (Xj _ p1 (by simp)) rfl) (Za (ld hnb rfl) ?_);refine Zh (Qbb 6 _ _ _ [iv8 a.op,iv side,iv a.place,iv a.target,x,y] (by simp only[fill,YaL (hcl side)]; rfl) rfl) (Zy _ _) ?_;generalize hτ2:τ++[ABlk.box [iv8 a.op,iv side,iv a.place,iv a.target,x,y]]=τ1;have hl1:τ1.length=τ.length+1:=by rw[←hτ2]; simp
 have rx:RX τ (τ1++[.rows 6 [[iv8 a.op,iv side,iv a.place,iv a.target,x,y]]]):=by rw[←hτ2]; exact(RX.app _ _).trans (RX.app _ _)
 have p2':=p2.mono rx;have hx':=hx.mono rx;have hy':=hy.mono rx;have hold:∀c,c<τ.length→hget (τ1++[.rows 6 [[iv8 a.op,iv side,iv a.place,iv a.target,x,y]]]) c=hget τ c:=λc hc=>by
  rw[Yt _ (by omega),←hτ2,Yt _ hc]
 obtain⟨v',rd2,up,τ',o1,o2,o3,o4,o5,o6⟩:=p2'.op (row:=[iv8 a.op,iv side,iv a.place,iv a.target,x,y]) (a:=a) (c:=τ1.length) (Yj _ _) (λd hd=>⟨x,y,by rw[ha],hx'.at (p2'.at hd),hy'.at (p2'.at hd)⟩) (by simp; omega) hroom;refine Zh o1 o2 ?_;have h3':hget τ' 3=.box [v]:=o6 3 _ (by rw[hold 3 (by omega)]; exact p1);have hlt:=Zo h3' (by simp);refine Zh (stv (row':=[v']) h3' o3.cells rfl rfl) (Ys _ hlt) (hK _ ⟨v',Xp _ hlt,o3.mono (RX.set _ h3'),?_,λc hc hn=>?_⟩)
 ·rw[List.length_set]; simp at o4; omega
 ·have hc':c<τ.length:=by omega
  have:c<τ'.length:=by simp at o4; omega
  rw[Yq _ this hn,o5 c hc,hold c hc',p4 c hc hn]
end Go.Ah.Tz
end
section
namespace Go.Ah.Tz
open Go.Proofs.Tryz (prog)
attribute [local irreducible] Ans.rd Ans.pu Ans.wr Ans.dr Ans.gr Ans.gw Ans.gl Ans.gd Ans.opt joinK W
set_option maxHeartbeats 8000000
def Xbs(s:St)(side:Int):Sd:=if side=0 then s.s0 else s.s1
def allF(b:Bk)(s:St)(side:Int):List Ac:=if mayR (bkR b).1 b s false=true∧s.phase≠2∧(side=0∨side=1) then flt b s (cand s side (Xbs s side)) else []
def TI(σ:List ABlk)(l:List Int)(v:AVal)(τ:List ABlk):Prop:=∃tb ex,v=.sl tb 0 l.length ex∧4≤tb∧hget τ tb=.rows 1 (l.map cel)∧∀c,c<4→hget τ c=hget σ c
theorem TI.more{σ:List ABlk}{l:List Int}{v:AVal}{τ:List ABlk}(h:TI σ l v τ)(m:List ABlk):TI σ l v (τ++m):=by
 obtain⟨tb,ex,h1,h2,h3,h4⟩:=h;have:=Zo h3 (by simp);exact⟨tb,ex,h1,h2,Xj _ h3 (by simp),λc hc=>by rw[Yt _ (by omega)]; exact h4 c hc⟩
theorem TI.put{σ:List ABlk}{l:List Int}{v:AVal}{τ:List ABlk}(h:TI σ l v τ)(hroom:l.length≤1000000000)(x:Int){K:AVal→List ABlk→Prop}(hK:∀v' τ',TI σ (l++[x]) v' τ'→K v' τ') :
  VV.wr (Qh 1 1 [iv 0] [(0,1)] [iv x] τ) τ λt σ=>VV.wr (Zi 1 8 [v,t] σ) σ K:=by
 obtain⟨tb,ex,rfl,h2,h3,h4⟩:=h;have hlt:=Zo h3 (by simp);rw[Yad _ _ _ _ _ (cel x) rfl rfl,Qa8 _ 1 8 τ tb l.length ex (l.map cel) (cel x) h3 (by simp) rfl (by rw[show (2:Nat) ^ 48=281474976710656 from rfl]; omega)];refine hK _ _ ⟨_,_,by rw[List.length_append,List.length_singleton],by omega,?_,λc hc=>?_⟩
 ·rw[List.map_append];have:=Yj (τ.set tb .dead++[.rows 1 [cel x]]) (.rows 1 (l.map cel++[cel x]));simpa using this
 ·rw[Yt _ (by simp; omega),Yt _ (by simp; omega),Yq _ (by omega) (by omega)]; exact h4 c hc
theorem YZ(T:List Int)(side:Int):∀(k:Nat) (p:Int),(XC T side p k).length=k*T.length
 |0,p=>by simp[XC]
 |k+1,p=>by rw[XC,List.length_append,YZ T side k,List.length_map,Nat.succ_mul]; omega
theorem Xaj(side:Int)(us:List Th):∀l:List Int,(Zt side us l).length=l.length*us.length
 |[]=>by simp[Zt]
 |id::l=>by rw[Zt,List.length_append,Xaj side us l,List.length_map,List.length_cons,Nat.succ_mul]; omega
theorem Zbd(b:Bk)(s:St)(l:List Ac):(flt b s l).length≤l.length:=List.length_filter_le _ _
theorem Ybh{b:Bk}{s:St}(hs:StLe 1000000000 s){side:Int}{x:Sd}(h83:∀a:Ac,a.ids.length≤1→a.prs.length≤1→PC 83 [.rptr (bkC b) 0,.rptr (stC s) 0,.rptr (acC a) 0] (iv (doF b s a)))
 {j:Nat}(hH:partA false (j+4) 1 (stC s)=some (rowV x.hand))(hU:partA false (j+6) 1 (stC s)=some (thV x.units))(hxl:x.hand.length≤1000000∧x.units.length≤1000000)(hl:(cand s side x).length≤1000000000){T:List Int}(hT:tgs s=T){τs:List ABlk}{tb:Nat}{ex:Bool}
 (h0:hget τs 0=.box (bkC b))(h1:hget τs 1=.box (stC s))(h2:hget τs 2=.box [iv side])(h3:hget τs 3=.box [.nils])(h4:4≤τs.length)(htb:hget τs tb=.rows 1 (T.map cel))(htb3:tb≠3) :
  VV.rd (Qa [.bptr 1 j] τs) λt68_44=>
 VV.rd (Ya 4 [t68_44] τs) λt69_45=>
 VV.rd (Xc false 1 [t69_45] τs) λt70_46=>
 VV.rd (Xe [t70_46] τs) λt71_47=>
 VV.loop (λag48 v49 σ=>
 VV.rd (Yh .lss false [(Go.Ah.h0 v49),t71_47] σ) λt73_50=>
 VV.test t73_50 (
 VV.rd (Xe [.sl tb 0 T.length ex] σ) λt76_51=>
 VV.loop (λag52 v53 σ=>
 VV.rd (Yh .lss false [(Go.Ah.h0 v53),t76_51] σ) λt78_54=>
 VV.test t78_54 (
 VV.rd (Yb 1 [.sl tb 0 T.length ex,(Go.Ah.h0 v53)] σ) λt79_55=>
 VV.rd (Xc false 1 [t79_55] σ) λt80_56=>
 VV.rd (Xf [(.int .i8 0),(.int .i64 0),(.int .i64 0),(.int .i64 0),.nils,.nils] [(0,1),(2,1),(3,1)] [(.int .i8 0),(Go.Ah.h0 v49),t80_56] σ) λt84_57=>
 VV.call .callv [.func (.func 88) [] [.bptr 2 0,.bptr 0 0,.bptr 1 0,.bptr 3 0],t84_57] σ λt85_58 σ=>
 VV.rd (Yh .add false [(Go.Ah.h0 v53),(.int .i64 1)] σ) λt86_59=>
 ag52 [t86_59] σ) (
 VV.rd (Yh .add false [(Go.Ah.h0 v49),(.int .i64 1)] σ) λt87_60=>
 ag48 [t87_60] σ)) [(.int .i64 0)] σ) (
 VV.rd (Qa [.bptr 1 j] σ) λt89_61=>
 VV.rd (Ya 6 [t89_61] σ) λt90_62=>
 VV.rd (Xc false 1 [t90_62] σ) λt91_63=>
 VV.rd (Xe [t91_63] σ) λt92_64=>
 VV.loop (λag65 v66 σ=>
 VV.rd (Yh .lss false [(Go.Ah.h0 v66),t92_64] σ) λt94_67=>
 VV.test t94_67 (
 VV.rd (Yb 4 [t91_63,(Go.Ah.h0 v66)] σ) λt95_68=>
 VV.rd (Xc true 4 [t95_68] σ) λt96_69=>
 VV.wr (Yf [(.int .i64 0),(.int .i64 0),(.int .i64 0),(.bool false)] [] σ) σ λt18_70 σ=>
 VV.wr (Qb 4 [t18_70,t96_69] σ) σ λ_ σ=>
 VV.rd (Ya 0 [t18_70] σ) λt98_71=>
 VV.rd (Xc false 1 [t98_71] σ) λt99_72=>
 VV.wr (Qh 1 1 [(.int .i64 0)] [(0,1)] [t99_72] σ) σ λt100_73 σ=>
 VV.rd (Xf [(.int .i8 0),(.int .i64 0),(.int .i64 0),(.int .i64 0),.nils,.nils] [(0,1),(3,1),(4,1)] [(.int .i8 1),(.int .i64 (-1)),t100_73] σ) λt101_74=>
 VV.call .callv [.func (.func 88) [] [.bptr 2 0,.bptr 0 0,.bptr 1 0,.bptr 3 0],t101_74] σ λt102_75 σ=>
 VV.rd (Yh .add false [(Go.Ah.h0 v66),(.int .i64 1)] σ) λt103_76=>
 ag65 [t103_76] σ) (
 VV.rd (Ya 5 [.bptr 1 0] σ) λt104_77=>
 VV.rd (Xc false 1 [t104_77] σ) λt105_78=>
 VV.rd (Xe [t105_78] σ) λt106_79=>
 VV.loop (λag80 v81 σ=>
 VV.rd (Yh .lss false [(Go.Ah.h0 v81),t106_79] σ) λt108_82=>
 VV.test t108_82 (
 VV.rd (Yb 1 [t105_78,(Go.Ah.h0 v81)] σ) λt109_83=>
 VV.rd (Xc false 1 [t109_83] σ) λt110_84=>
 VV.rd (Qa [.bptr 1 j] σ) λt112_85=>
 VV.rd (Ya 6 [t112_85] σ) λt113_86=>
 VV.rd (Xc false 1 [t113_86] σ) λt114_87=>
 VV.rd (Xe [t114_87] σ) λt115_88=>
 VV.loop (λag89 v90 σ=>
 VV.rd (Yh .lss false [(Go.Ah.h0 v90),t115_88] σ) λt117_91=>
 VV.test t117_91 (
 VV.rd (Yb 4 [t114_87,(Go.Ah.h0 v90)] σ) λt118_92=>
 VV.rd (Xc true 4 [t118_92] σ) λt119_93=>
 VV.wr (Yf [(.int .i64 0),(.int .i64 0),(.int .i64 0),(.bool false)] [] σ) σ λt22_94 σ=>
 VV.wr (Qb 4 [t22_94,t119_93] σ) σ λ_ σ=>
 VV.rd (Ya 0 [t22_94] σ) λt122_95=>
 VV.rd (Xc false 1 [t122_95] σ) λt123_96=>
 VV.rd (Xf [(.int .i64 0),(.int .i64 0)] [(0,1),(1,1)] [t110_84,t123_96] σ) λt124_97=>
 VV.wr (Qh 2 1 [(.int .i64 0),(.int .i64 0)] [(0,2)] [t124_97] σ) σ λt125_98 σ=>
 VV.rd (Xf [(.int .i8 0),(.int .i64 0),(.int .i64 0),(.int .i64 0),.nils,.nils] [(0,1),(3,1),(5,1)] [(.int .i8 2),(.int .i64 (-1)),t125_98] σ) λt126_99=>
 VV.call .callv [.func (.func 88) [] [.bptr 2 0,.bptr 0 0,.bptr 1 0,.bptr 3 0],t126_99] σ λt127_100 σ=>
 VV.rd (Yh .add false [(Go.Ah.h0 v90),(.int .i64 1)] σ) λt128_101=>
 ag89 [t128_101] σ) (
 VV.rd (Yh .add false [(Go.Ah.h0 v81),(.int .i64 1)] σ) λt129_102=>
 ag80 [t129_102] σ)) [(.int .i64 0)] σ) (
 VV.rd (Xf [(.int .i8 0),(.int .i64 0),(.int .i64 0),(.int .i64 0),.nils,.nils] [(0,1),(3,1)] [(.int .i8 3),(.int .i64 (-1))] σ) λt131_103=>
 VV.call .callv [.func (.func 88) [] [.bptr 2 0,.bptr 0 0,.bptr 1 0,.bptr 3 0],t131_103] σ λt132_104 σ=>
 VV.rd (Xf [(.int .i8 0),(.int .i64 0),(.int .i64 0),(.int .i64 0),.nils,.nils] [(0,1),(3,1)] [(.int .i8 4),(.int .i64 (-1))] σ) λt134_105=>
 VV.call .callv [.func (.func 88) [] [.bptr 2 0,.bptr 0 0,.bptr 1 0,.bptr 3 0],t134_105] σ λt135_106 σ=>
 VV.rd (Xc false 1 [.bptr 3 0] σ) λt136_107=>
(λv' σ=>∃ rd,Bor (hp σ) rd v' (acV (flt b s (cand s side x)))) t136_107 σ)) [(.int .i64 0)] σ)) [(.int .i64 0)] σ)) [(.int .i64 0)] τs:=by
 have hPS0:PS τs [] τs:=⟨.nils,h3,OI.nil _ _,Nat.le_refl _,λ_ _ _=>rfl⟩;have hbig:∀(done rest:List Ac),done++flt b s rest=flt b s (cand s side x)→done.length≤1000000000:=λdone rest h=>by
  have:=congrArg List.length h;have:=Zbd b s (cand s side x);simp at *; omega
 refine Za rfl (Za rfl (Za (ld h1 hH) (Za (Qf ..) ?_)));rw[List.length_map];refine Qi (ι:=Nat) (λp vs τ=>(∃done,vs=[iv p]∧PS τs done τ∧done++flt b s (XC T side p (x.hand.length-p)++(x.units.map (acAtt side)++(Zt side x.units s.attack++[acEnd 3 side,acEnd 4 side])))=flt b s (cand s side x))∧p≤x.hand.length) (λp=>x.hand.length-p) 0 ⟨⟨[],rfl,hPS0,by rw[cand,hT]; rfl⟩,by omega⟩ ?_;rintro p vs τ again ⟨⟨done,rfl,hPS,hd⟩,hp⟩ hag;refine Za (Xt ..) (Zc (λh=>?_) (λh=>?_))
 ·have h:p<x.hand.length:=by simpa using h
  obtain⟨k,hk⟩:∃k,x.hand.length-p=k+1:=⟨x.hand.length-p-1,by omega⟩;rw[hk,XC,List.append_assoc] at hd;have hk':x.hand.length-(p+1)=k:=by omega
  refine Za rfl ?_;refine Qi (ι:=Nat) (λi vs τ=>(∃done,vs=[iv i]∧PS τs done τ∧done++flt b s ((T.drop i).map (Yaj side p)++(XC T side ((p:Int)+1) k++(x.units.map (acAtt side)++(Zt side x.units s.attack++[acEnd 3 side,acEnd 4 side]))))=flt b s (cand s side x))∧i≤T.length) (λi=>T.length-i) 0 ⟨⟨done,rfl,hPS,hd⟩,by omega⟩ ?_;clear hPS hd;rintro i vs τ again2 ⟨⟨done,rfl,hPS,hd⟩,hi⟩ hag2;refine Za (Xt ..) (Zc (λh=>?_) (λh=>?_))
  ·have h:i<T.length:=by simpa using h
   rw[YLD h,List.map_cons,List.cons_append,ZL,←List.append_assoc] at hd;have htb':=hPS.get htb (by simp) htb3;have hget:(T.map cel)[i]?=some (cel T[i]):=by simp[h]
   refine Za (v:=.ptr tb i 0) (rd:=[tb]) ?_ ?_
   ·have:=Zbc τ tb 0 T.length ex 1 (T.map cel) .i64 i h htb'
    rwa [Nat.zero_add] at this
   refine Za (v:=iv T[i]) (ldp htb' hget rfl) (Za (v:=.agg [iv8 0,iv 0,iv p,iv T[i],.nils,.nils]) (rd:=[]) rfl ?_);have hl2:T.length≤1000000000:=by
    have:=YZ T side x.hand.length 0;have e:(cand s side x).length ≥ (XC T side 0 x.hand.length).length:=by rw[cand,hT]; simp
    have:T.length≤x.hand.length*T.length:=Nat.le_mul_of_pos_left _ (by omega);omega
   refine Ya6 hPS h0 h1 h2 h4 (hbig done _ (by rw[List.append_assoc,←ZL] at hd; exact hd)) (Yaj side p T[i]) rfl (.inl ⟨rfl,rfl⟩) (.inl ⟨rfl,rfl⟩) (h83 _ (by simp[Yaj]) (by simp[Yaj])) (λτ' hPS'=>?_);refine Za (Qj ..) ?_;rw[Qe (n:=i) (by omega)];exact hag2 (i+1) _ _ (by omega) ⟨⟨_,rfl,hPS',hd⟩,by omega⟩
  ·have h:i=T.length:=by simp at h; omega
   subst h;rw[List.drop_length,List.map_nil,List.nil_append] at hd;refine Za (Qj ..) ?_;rw[Qe (n:=p) (by omega)];refine hag (p+1) _ _ (by omega) ⟨⟨done,rfl,hPS,?_⟩,by omega⟩;rw[hk']; push_cast; exact hd
 have h:p=x.hand.length:=by simp at h; omega
 subst h;rw[Nat.sub_self,XC,List.nil_append] at hd;clear hag again hp hPS0;refine Za rfl (Za rfl (Za (ld (hPS.get h1 (by simp) (by decide)) hU) (Za (Qf ..) ?_)));rw[List.length_map];refine Qi (ι:=Nat) (λi vs τ=>(∃done,vs=[iv i]∧PS τs done τ∧done++flt b s ((x.units.drop i).map (acAtt side)++(Zt side x.units s.attack++[acEnd 3 side,acEnd 4 side]))=flt b s (cand s side x))∧i≤x.units.length) (λi=>x.units.length-i) 0 ⟨⟨done,rfl,hPS,hd⟩,by omega⟩ ?_;clear hPS hd;rintro i vs τ again ⟨⟨done,rfl,hPS,hd⟩,hi⟩ hag;refine Za (Xt ..) (Zc (λh=>?_) (λh=>?_))
 ·have h:i<x.units.length:=by simpa using h
  rw[YLD h,List.map_cons,List.cons_append,ZL,←List.append_assoc] at hd;refine Za (Zn _ thC false false 4 x.units .i64 i h) ?_;generalize x.units[i]=u at hd ⊢;refine Za (v:=.agg (thC u)) (ldr rfl) (Qs (row:=thC u) (row':=thC u) rfl rfl rfl ?_);refine Za rfl (Za (v:=iv u.id) (ld (Yj _ _) rfl) ?_);refine Zh (Qbb 1 _ _ _ [iv u.id] rfl rfl) (Zy _ _) (Za (v:=.agg [iv8 1,iv 0,iv 0,iv (-1),.sl (τ++[ABlk.box (thC u)]).length 0 1 true,.nils]) (rd:=[]) rfl ?_);have hPS2:PS τs done (τ++[.box (thC u)]++[.rows 1 [[iv u.id]]]):=(hPS.more _).more _;refine Ya6 hPS2 h0 h1 h2 h4 (hbig done _ (by rw[List.append_assoc,←ZL] at hd; exact hd)) (acAtt side u) rfl (.inr ⟨_,u.id,rfl,rfl,Yj _ _⟩) (.inl ⟨rfl,rfl⟩) (h83 _ (by simp[acAtt]) (by simp[acAtt])) (λτ' hPS'=>?_);refine Za (Qj ..) ?_;rw[Qe (n:=i) (by omega)];exact hag (i+1) _ _ (by omega) ⟨⟨_,rfl,hPS',hd⟩,by omega⟩
 have h:i=x.units.length:=by simp at h; omega
 subst h;rw[List.drop_length,List.map_nil,List.nil_append] at hd;clear hag again hi;have hal:s.attack.length≤1000000000:=hs.attack;refine Za rfl (Za (v:=rowV s.attack) (ld (hPS.get h1 (by simp) (by decide)) rfl) (Za (Qf ..) ?_));rw[List.length_map];refine Qi (ι:=Nat) (λi vs τ=>(∃done,vs=[iv i]∧PS τs done τ∧done++flt b s (Zt side x.units (s.attack.drop i)++[acEnd 3 side,acEnd 4 side])=flt b s (cand s side x))∧i≤s.attack.length) (λi=>s.attack.length-i) 0 ⟨⟨done,rfl,hPS,hd⟩,by omega⟩ ?_;clear hPS hd;rintro i vs τ again ⟨⟨done,rfl,hPS,hd⟩,hi⟩ hag;refine Za (Xt ..) (Zc (λh=>?_) (λh=>?_))
 ·have h:i<s.attack.length:=by simpa using h
  rw[YLD h,Zt,List.append_assoc] at hd;refine Za (Zn _ cel false false 1 s.attack .i64 i h) ?_;generalize s.attack[i]=id at hd ⊢;refine Za (v:=iv id) (ldr rfl) (Za rfl (Za rfl (Za (ld (hPS.get h1 (by simp) (by decide)) hU) (Za (Qf ..) ?_))));rw[List.length_map];refine Qi (ι:=Nat) (λk vs τ=>(∃done,vs=[iv k]∧PS τs done τ∧done++flt b s ((x.units.drop k).map (acBlk side id)++(Zt side x.units (s.attack.drop (i+1))++[acEnd 3 side,acEnd 4 side]))=flt b s (cand s side x))∧k≤x.units.length) (λk=>x.units.length-k) 0 ⟨⟨done,rfl,hPS,hd⟩,by omega⟩ ?_;clear hPS hd;rintro k vs τ again2 ⟨⟨done,rfl,hPS,hd⟩,hk⟩ hag2;refine Za (Xt ..) (Zc (λh=>?_) (λh=>?_))
  ·have h:k<x.units.length:=by simpa using h
   rw[YLD h,List.map_cons,List.cons_append,ZL,←List.append_assoc] at hd;refine Za (Zn _ thC false false 4 x.units .i64 k h) ?_;generalize x.units[k]=u at hd ⊢;refine Za (v:=.agg (thC u)) (ldr rfl) (Qs (row:=thC u) (row':=thC u) rfl rfl rfl ?_);refine Za rfl (Za (v:=iv u.id) (ld (Yj _ _) rfl) (Za (v:=.agg [iv id,iv u.id]) (rd:=[]) rfl ?_));refine Zh (Qbb 2 _ _ _ [iv id,iv u.id] rfl rfl) (Zy _ _) (Za (v:=.agg [iv8 2,iv 0,iv 0,iv (-1),.nils,.sl (τ++[ABlk.box (thC u)]).length 0 1 true]) (rd:=[]) rfl ?_);have hPS2:PS τs done (τ++[.box (thC u)]++[.rows 2 [[iv id,iv u.id]]]):=(hPS.more _).more _;refine Ya6 hPS2 h0 h1 h2 h4 (hbig done _ (by rw[List.append_assoc,←ZL] at hd; exact hd)) (acBlk side id u) rfl (.inl ⟨rfl,rfl⟩) (.inr ⟨_,(id,u.id),rfl,rfl,Yj _ _⟩) (h83 _ (by simp[acBlk]) (by simp[acBlk])) (λτ' hPS'=>?_);refine Za (Qj ..) ?_;rw[Qe (n:=k) (by omega)];exact hag2 (k+1) _ _ (by omega) ⟨⟨_,rfl,hPS',hd⟩,by omega⟩
  ·have h:k=x.units.length:=by simp at h; omega
   subst h;rw[List.drop_length,List.map_nil,List.nil_append] at hd;refine Za (Qj ..) ?_;rw[Qe (n:=i) (by omega)];exact hag (i+1) _ _ (by omega) ⟨⟨done,rfl,hPS,hd⟩,by omega⟩
 have h:i=s.attack.length:=by simp at h; omega
 subst h;rw[List.drop_length,Zt,List.nil_append,ZL,←List.append_assoc] at hd;clear hag again hi;refine Za (v:=.agg [iv8 3,iv 0,iv 0,iv (-1),.nils,.nils]) (rd:=[]) rfl ?_;refine Ya6 hPS h0 h1 h2 h4 (hbig done _ (by rw[List.append_assoc,←ZL] at hd; exact hd)) (acEnd 3 side) rfl (.inl ⟨rfl,rfl⟩) (.inl ⟨rfl,rfl⟩) (h83 _ (by simp[acEnd]) (by simp[acEnd])) (λτ' hPS'=>?_);refine Za (v:=.agg [iv8 4,iv 0,iv 0,iv (-1),.nils,.nils]) (rd:=[]) rfl ?_;have hb2:=hbig _ _ hd;rw[ZL,←List.append_assoc] at hd;refine Ya6 hPS' h0 h1 h2 h4 hb2 (acEnd 4 side) rfl (.inl ⟨rfl,rfl⟩) (.inl ⟨rfl,rfl⟩) (h83 _ (by simp[acEnd]) (by simp[acEnd])) (λτ2 hPS2=>?_);obtain⟨v,p1,p2,_⟩:=hPS2;refine Za (ld p1 rfl) ?_;have e:flt b s []=[]:=rfl;rw[e,List.append_nil] at hd;rw[hd] at p2;exact p2.bor
theorem Qcw{σ:List ABlk}{b:Nat}{l:List Int}{ex:Bool}(h:SortC prog 89)(hb:hget σ b=.rows 1 (l.map cel))(hne:l≠[])(hlen:l.length≤1000000000){K:AVal→List ABlk→Prop}(hK:K (.tup []) (σ.set b (.rows 1 ((srt l).map cel)))) :
  VV.call (.call 89) [.sl b 0 l.length ex] σ K:=
 Zaq rfl g89_ok.plain (Zbt h (XN hb (by simp)) hne (by omega)) (Ys _ (Zo hb (by simp))) hK
theorem XcK{s:St}(h:∀x∈YI s,1≤x):srt ([-3,-2,-1]++YI s)=tgs s:=by
 refine Ycd ?_ ?_
 ·rw[tgs,List.pairwise_append];refine⟨by simp,Xcd _,λa ha c hc=>?_⟩;have:=h c ((XaR _).mem_iff.1 hc);simp at ha;omega
 ·exact(List.Perm.refl _).append (XaR _)
theorem MayP.ids{b:Bk}{s:St}(h:MayP b s):∀x∈YI s,1≤x:=by
 intro x hx;rw[YI,←List.map_append] at hx;obtain⟨u,hu,rfl⟩:=List.mem_map.1 hx;have:=h.un.1 u hu;simp only[Xw,Bool.and_eq_true,decide_eq_true_eq] at this;omega
theorem Qb2(s:St)(side:Int)(x:Sd):(cand s side x).length=x.hand.length*(tgs s).length+(x.units.length+(s.attack.length*x.units.length+2)):=by
 simp[cand,YZ,Xaj]
theorem Zbg(s:St):(tgs s).length=3+(s.s0.units.length+s.s1.units.length):=by
 simp[tgs,YaR,YI]; omega
theorem MayP.cand{b:Bk}{s:St}(h:MayP b s){side:Int}{x:Sd}(hx:SideP b x):(Tz.cand s side x).length≤100000000:=by
 have h1:s.attack.length≤1000000:=by
  by_cases hp:s.phase=1
  ·have:=(h.at_.2 hp).2.1; omega
  ·rw[h.at_.1 hp]; simp
 have h2:=h.s0.units;have h3:=h.s1.units;have h4:=(Zu.1 hx.hand).1;have h5:=hx.units;rw[Qb2,Zbg];have e1:x.hand.length*(3+(s.s0.units.length+s.s1.units.length))≤10*17:=Nat.mul_le_mul (by omega) (by omega);have e2:s.attack.length*x.units.length≤1000000*7:=Nat.mul_le_mul h1 h5;omega
theorem c39(h89:SortC prog 89)(b:Bk)(hf:bkFit b=true)(hsm:YG b.cards)(s:St)(hs:StLe 1000000000 s)(side:Int):PC 39 [bkV b,stV s,iv side] (acV (allF b s side)):=by
 refine X3 hP g39_ok rfl ?_;unfold g39;refine Zh (v:=.bptr 0 0) (rd:=[]) (up:=[(0,.box (bkC b))]) rfl rfl ?_;refine Zh (v:=.bptr 1 0) (rd:=[]) (up:=[(1,.box (stC s))]) rfl rfl ?_;refine Zh (v:=.bptr 2 0) (rd:=[]) (up:=[(2,.box [iv side])]) rfl rfl ?_;refine Za rfl (Za rfl (Yd (c55 b hf hsm s hs) rfl g55_ok.plain rfl (Za (YF ..) ?_)));refine ZX (λ_=>rfl) (λ_=>rfl) (λ_=>Zf ..) ?_;refine Xa5 (λ_=>rfl) (λ_=>Xt ..) ?_;refine Xa5 (λ_=>rfl) (λ_=>YD ..) ?_;refine Zc (λh=>?_) (λh=>?_)
 ·rw[allF,if_neg]
  ·exact⟨[],Bor.weak (Bor.ro rfl) (λM u d=>d.nils_rsl 6)⟩
  ·rintro⟨h1,h2,h3⟩;rw[h1] at h;simp only[Bool.or_eq_true,decide_eq_true_eq,cond_true] at h;omega
 have hm:mayR (bkR b).1 b s false=true:=by
  cases e:mayR (bkR b).1 b s false with
  |true=>rfl
  |false=>rw[e] at h; simp at h
 rw[hm] at h;simp only[Bool.or_eq_false_iff,decide_eq_false_iff_not,cond_true] at h;obtain⟨⟨⟨_,hph⟩,hs0⟩,hs1⟩:=h;have hsd:side=0∨side=1:=by omega
 rw[allF,if_pos ⟨hm,hph,hsd⟩];have hM:=(XaO.1 (Qas hm)).2;refine Zh (QbK ..) (Zy _ _) (Za (XbL ..) ?_);refine Zh (v:=.sl 4 0 3 true) (rd:=[]) (up:=[(4,.rows 1 [[iv (-3)],[iv (-2)],[iv (-1)]])]) rfl rfl ?_;have hTI:TI ([ABlk.box (bkC b),.box (stC s),.box [iv side],.box [.nils]]) [-3,-2,-1] (.sl 4 0 3 true) ([]++[ABlk.box (bkC b)]++[ABlk.box (stC s)]++[ABlk.box [iv side]]++[ABlk.box [.nils]]++[.rows 1 [[iv (-3)],[iv (-2)],[iv (-1)]]]):=
  ⟨4,true,rfl,by omega,rfl,λc hc=>by
   match c,hc with
   |0,_=>rfl
   |1,_=>rfl
   |2,_=>rfl
   | 3,_=>rfl⟩
 have hB1:∀ {l v τ},TI ([ABlk.box (bkC b),.box (stC s),.box [iv side],.box [.nils]]) l v τ→hget τ 1=.box (stC s):=λ⟨_,_,_,_,_,q⟩=>by rw[q 1 (by omega)]; rfl
 have hB:∀ {l v τ},TI ([ABlk.box (bkC b),.box (stC s),.box [iv side],.box [.nils]]) l v τ→hget τ 0=.box (bkC b)∧hget τ 2=.box [iv side]∧hget τ 3=.box [.nils]:=λ⟨_,_,_,_,_,q⟩=>by rw[q 0 (by omega),q 2 (by omega),q 3 (by omega)]; exact⟨rfl,rfl,rfl⟩
 generalize ([ABlk.box (bkC b),.box (stC s),.box [iv side],.box [.nils]]:List ABlk)=base at hTI hB1 hB;generalize ([]++[ABlk.box (bkC b)]++[ABlk.box (stC s)]++[ABlk.box [iv side]]++[ABlk.box [.nils]]++[.rows 1 [[iv (-3)],[iv (-2)],[iv (-1)]]]:List ABlk)=τ0 at hTI ⊢;have hu0:=hM.s0.units;have hu1:=hM.s1.units;refine QH 3 (Ym ?_);refine Za rfl (Ze (Za rfl (Za rfl (Za rfl (Za (v:=thV s.s0.units) (ld (hB1 hTI) rfl) (Za (Qf ..) ?_))))));rw[List.length_map];refine Qi (ι:=Nat) (λi vs τ=>(∃v,vs=[iv i,v]∧TI base ([-3,-2,-1]++(s.s0.units.take i).map Th.id) v τ)∧i≤s.s0.units.length) (λi=>s.s0.units.length-i) 0 ⟨⟨_,rfl,by rw[List.take_zero,List.map_nil,List.append_nil]; exact hTI⟩,by omega⟩ ?_;clear hTI;rintro i vs τ again ⟨⟨v,rfl,hTI⟩,hi⟩ hag;refine Za (Xt ..) (Zc (λh=>?_) (λh=>?_))
 ·have h:i<s.s0.units.length:=by simpa using h
  refine Za (Zn _ thC false false 4 s.s0.units .i64 i h) ?_;have htk:=Qv Th.id s.s0.units i h;generalize s.s0.units[i]=u at htk ⊢;refine Za (v:=.agg (thC u)) (ldr rfl) (Qs (row:=thC u) (row':=thC u) rfl rfl rfl ?_);refine Za rfl (Za (v:=iv u.id) (ld (Yj _ _) rfl) ?_);refine(hTI.more _).put (by simp; omega) u.id (λv' τ' hTI'=>?_);refine Za (Qj ..) ?_;rw[Qe (n:=i) (by omega)];refine hag (i+1) _ _ (by omega) ⟨⟨_,rfl,?_⟩,by omega⟩;rw[List.append_assoc,htk] at hTI';exact hTI'
 have h:i=s.s0.units.length:=by simp at h; omega
 subst h;rw[List.take_length] at hTI;clear hag again hi;refine Za rfl (Ym ?_);refine Za rfl (Ze (Za rfl (Za rfl (Za rfl (Za (v:=thV s.s1.units) (ld (hB1 hTI) rfl) (Za (Qf ..) ?_))))));rw[List.length_map];refine Qi (ι:=Nat) (λi vs τ=>(∃v,vs=[iv i,v]∧TI base (([-3,-2,-1]++s.s0.units.map Th.id)++(s.s1.units.take i).map Th.id) v τ)∧i≤s.s1.units.length) (λi=>s.s1.units.length-i) 0 ⟨⟨_,rfl,by rw[List.take_zero,List.map_nil,List.append_nil]; exact hTI⟩,by omega⟩ ?_;clear hTI;rintro i vs τ again ⟨⟨v,rfl,hTI⟩,hi⟩ hag;refine Za (Xt ..) (Zc (λh=>?_) (λh=>?_))
 ·have h:i<s.s1.units.length:=by simpa using h
  refine Za (Zn _ thC false false 4 s.s1.units .i64 i h) ?_;have htk:=Qv Th.id s.s1.units i h;generalize s.s1.units[i]=u at htk ⊢;refine Za (v:=.agg (thC u)) (ldr rfl) (Qs (row:=thC u) (row':=thC u) rfl rfl rfl ?_);refine Za rfl (Za (v:=iv u.id) (ld (Yj _ _) rfl) ?_);refine(hTI.more _).put (by simp; omega) u.id (λv' τ' hTI'=>?_);refine Za (Qj ..) ?_;rw[Qe (n:=i) (by omega)];refine hag (i+1) _ _ (by omega) ⟨⟨_,rfl,?_⟩,by omega⟩;rw[List.append_assoc,htk] at hTI';exact hTI'
 have h:i=s.s1.units.length:=by simp at h; omega
 subst h;rw[List.take_length] at hTI;clear hag again hi;refine Za rfl (Ym ?_);refine Za rfl (Xi ?_);rw[List.append_assoc] at hTI;have hTI:TI base ([-3,-2,-1]++YI s) v τ:=hTI;have hlen:([-3,-2,-1]++YI s).length≤1000000000:=by simp[YI]; omega
 have b1:=hB1 hTI;obtain⟨b0,b2,b3⟩:=hB hTI;obtain⟨tb,ex,rfl,t2,t3,t4⟩:=hTI;refine Qcw h89 t3 (by simp) hlen ?_;rw[XcK hM.ids];have htl:=Zo t3 (by simp);have ho:∀ {c x},hget τ c=.box x→hget (τ.set tb (.rows 1 ((tgs s).map cel))) c=.box x:=λ{c x} h=>Zp h (by simp) (by rintro rfl; rw[t3] at h; cases h);have htb:=Xp (.rows 1 ((tgs s).map cel)) htl;have hlt:([-3,-2,-1]++YI s).length=(tgs s).length:=by simp[tgs,YaR]
 rw[hlt];have h83:∀a:Ac,a.ids.length≤1→a.prs.length≤1→PC 83 [.rptr (bkC b) 0,.rptr (stC s) 0,.rptr (acC a) 0] (iv (doF b s a)):=λa h1 h2=>c83g b hf hsm s hs hM a (by omega) (by omega);have hl3:4≤(τ.set tb (.rows 1 ((tgs s).map cel))).length:=by rw[List.length_set]; have:=Zo b3 (by simp); omega
 refine Za (ld (ho b2) rfl) (Za rfl ?_);rcases hsd with rfl|rfl
 ·have hx:=hM.cand (side:=0) hM.s0;have:=(Zu.1 hM.s0.hand).1;exact Za rfl (Ybh hs (x:=s.s0) (j:=7) h83 rfl rfl ⟨by omega,by omega⟩ (by omega) rfl (ho b0) (ho b1) (ho b2) (ho b3) hl3 htb (by rintro rfl; rw[t3] at b3; cases b3))
 ·have hx:=hM.cand (side:=1) hM.s1;have:=(Zu.1 hM.s1.hand).1;exact Za rfl (Ybh hs (x:=s.s1) (j:=15) h83 rfl rfl ⟨by omega,by omega⟩ (by omega) rfl (ho b0) (ho b1) (ho b2) (ho b3) hl3 htb (by rintro rfl; rw[t3] at b3; cases b3))
theorem YcM{pre post:List Int}{x:Int}(h:(pre++post).Pairwise (·≤·))(hx:∀y∈post,x<y)(hp:∀y∈pre,y≤x):(pre++x::post).Pairwise (·≤·):=by
 rw[List.pairwise_append] at h ⊢;obtain⟨h1,h2,h3⟩:=h;refine⟨h1,List.pairwise_cons.2 ⟨λy hy=>by have:=hx y hy; omega,h2⟩,λa ha c hc=>?_⟩;rcases List.mem_cons.1 hc with rfl|hc
 ·exact hp a ha
 ·exact h3 a ha c hc
theorem Qcd{base:List ABlk}{n:Nat}{F:(List AVal→List ABlk→Prop)→List AVal→List ABlk→Prop}{b:Nat}(hb:base.length≤b){x:Int}{L:List Int}(hL:L.Pairwise (·≤·))(hn:n=L.length+1)(hn2:n≤1000000000){τ:List ABlk}(hτ:∀c,c<base.length→hget τ c=hget base c)(hr:hget τ b=.rows 1 ((L++[x]).map cel)){K:List ABlk→Prop}
 (hK:∀(τ':List ABlk) (L':List Int),base.length≤τ'.length→(∀c,c<base.length→hget τ' c=hget base c)→L'.Pairwise (·≤·)→L'.Perm (L++[x])→hget τ' b=.rows 1 (L'.map cel)→K τ')
 (hF:F=λag23 v24 σ=>
 VV.rd (Yh .gtr false [(h0 v24),(.int .i64 0)] σ) λt38_25=>
 VV.gr t38_25 true (λk=>VV.rd (Xh [.sl b 0 n false] σ) k) λt40_26=>
 VV.gr t38_25 true (λk=>VV.rd (Xh [(h0 v24)] σ) k) λt41_27=>
 VV.gr t38_25 true (λk=>VV.rd (Yb 1 [t40_26,t41_27] σ) k) λt42_28=>
 VV.gr t38_25 true (λk=>VV.rd (Xc false 1 [t42_28] σ) k) λt43_29=>
 VV.gr t38_25 true (λk=>VV.rd (Xh [.sl b 0 n false] σ) k) λt44_30=>
 VV.gr t38_25 true (λk=>VV.rd (Xh [(h0 v24)] σ) k) λt45_31=>
 VV.gr t38_25 true (λk=>VV.rd (Yh .sub false [t45_31,(.int .i64 1)] σ) k) λt46_32=>
 VV.gr t38_25 true (λk=>VV.rd (Yb 1 [t44_30,t46_32] σ) k) λt47_33=>
 VV.gr t38_25 true (λk=>VV.rd (Xc false 1 [t47_33] σ) k) λt48_34=>
 VV.gr t38_25 true (λk=>VV.rd (Yh .lss false [t43_29,t48_34] σ) k) λt49_35=>
 VV.rd (Yi [t38_25,t49_35,(.bool false)] σ) λt50_36=>
 VV.test t50_36 (
 VV.rd (Yb 1 [.sl b 0 n false,(h0 v24)] σ) λt55_37=>
 VV.rd (Xc false 1 [t55_37] σ) λt56_38=>
 VV.rd (Yh .sub false [(h0 v24),(.int .i64 1)] σ) λt61_39=>
 VV.rd (Yb 1 [.sl b 0 n false,t61_39] σ) λt62_40=>
 VV.rd (Xc false 1 [t62_40] σ) λt63_41=>
 VV.rd (Yb 1 [.sl b 0 n false,(h0 v24)] σ) λt64_42=>
 VV.wr (Qb 1 [t64_42,t63_41] σ) σ λ_ σ=>
 VV.rd (Yh .sub false [(h0 v24),(.int .i64 1)] σ) λt67_43=>
 VV.rd (Yb 1 [.sl b 0 n false,t67_43] σ) λt69_44=>
 VV.wr (Qb 1 [t69_44,t56_38] σ) σ λ_ σ=>
 VV.rd (Yh .sub false [(h0 v24),(.int .i64 1)] σ) λt52_45=>
 ag23 [t52_45] σ) (K σ)) :
  VV.loop F [iv L.length] τ:=by
 subst hF;refine Qi (ι:=Nat) (λj vs τ=>vs=[iv j]∧base.length≤τ.length∧(∀ c,c < base.length→hget τ c=hget base c)∧∃ pre post,j=pre.length∧pre ++ post=L∧(∀ y∈post,x < y)∧hget τ b=.rows 1 ((pre ++ x :: post).map cel)) (λj=>j) L.length ⟨rfl,by have:=Zo hr (by simp); omega,hτ,L,[],rfl,by simp,by simp,hr⟩ ?_;rintro j vs τ again ⟨rfl,hle,hτ,pre,post,rfl,rfl,hx,hr⟩ hag;have hdone:(∀ y∈pre,y≤x)→K τ:=λhp=>hK τ _ hle hτ (YcM hL hx hp) (by
  rw[List.append_assoc];exact(List.Perm.refl pre).append ((List.perm_append_comm (l₁:=[x]) (l₂:=post)))) hr
 refine Za (YD ..) ?_;rcases List.eq_nil_or_concat pre with rfl|⟨p',y,rfl⟩
 ·rw[show decide ((0:Int)<(([]:List Int).length:Int))=false from rfl];repeat first|refine Zb rfl ?_|refine Qc rfl ?_
  exact Za rfl (Xi (hdone (by simp)))
 rw[List.concat_eq_append] at *;have hlen:(p'++[y]).length=p'.length+1:=by simp
 rw[hlen];rw[show decide ((0:Int)<((p'.length+1:Nat):Int))=true from decide_eq_true (by omega)];have hsub:IntKind.i64.wrap (((p'.length+1:Nat):Int)-1)=(p'.length:Int):=by
  simp at hn;rw[IntWalk.i64_in _ (by omega)]; omega
 have hi1:p'.length+1<n:=by simp at hn; omega
 have hx1:=Zbc τ b 0 n false 1 _ .i64 (p'.length+1) hi1 hr;have hx0:=Zbc τ b 0 n false 1 _ .i64 p'.length (by omega) hr;rw[Nat.zero_add] at hx1 hx0;have g1:((p'++[y]++x::post).map cel)[p'.length+1]?=some (cel x):=by simp
 have g0:((p'++[y]++x::post).map cel)[p'.length]?=some (cel y):=by simp
 refine Xa (Za rfl (Xa (Za rfl (Xa (Za hx1 (Xa (Za (v:=iv x) (ldp hr g1 rfl) (Xa (Za rfl (Xa (Za rfl (Xa (Za (Xbw ..) ?_)))))))))))));rw[hsub];refine Xa (Za hx0 (Xa (Za (v:=iv y) (ldp hr g0 rfl) (Xa (Za (Xt ..) (Za rfl ?_))))));refine Zc (λh=>?_) (λh=>?_);rotate_left
 ·refine hdone (λz hz=>?_);have hyx:y≤x:=by simpa using h
  rcases List.mem_append.1 hz with hz|hz
  ·rw[List.append_assoc,List.pairwise_append] at hL;have:=hL.2.2 z hz y (by simp);omega
  ·simp at hz; omega
 have hxy:x<y:=by simpa using h
 refine Za hx1 (Za (v:=iv x) (ldp hr g1 rfl) (Za (Xbw ..) ?_));rw[hsub];refine Za hx0 (Za (v:=iv y) (ldp hr g0 rfl) (Za hx1 ?_));have hbl:=Zo hr (by simp);refine Zh (Qbk hr (by simp) y) (Ys _ hbl) ?_;have hr2:=Xp (.rows 1 (((p'++[y]++x::post).set (p'.length+1) y).map cel)) hbl;refine Za (Xbw ..) ?_;rw[hsub];refine Za (v:=.ptr b p'.length 0) (rd:=[b]) (by have:=Zbc (τ.set b (.rows 1 (((p'++[y]++x::post).set (p'.length+1) y).map cel))) b 0 n false 1 _ .i64 p'.length (by omega) hr2; rwa [Nat.zero_add] at this) ?_;refine Zh (Qbk hr2 (by simp) x) (Ys _ (by simpa using hbl)) ?_;refine Za (Xbw ..) ?_;rw[hsub];refine hag p'.length _ _ (by simp) ⟨rfl,by simp; omega,λc hc=>?_,p',y::post,rfl,by simp,λz hz=>?_,?_⟩
 ·rw[Yq _ (by simp; omega) (by omega),Yq _ (by omega) (by omega)]; exact hτ c hc
 ·rcases List.mem_cons.1 hz with rfl|hz
  ·exact hxy
  ·exact hx z hz
 ·rw[Xp _ (by simpa using hbl)]
  congr 2
  simp[List.set_append_right]
theorem Gr.mk'{σ0 τ:List ABlk}{b:Nat}{L:List Int}(h1:σ0.length≤τ.length)(h2:∀c,c<σ0.length→hget τ c=hget σ0 c)(hb:σ0.length≤b)(hn:0<L.length)(hr:hget τ b=.rows 1 (L.map cel)):Gr σ0 1 (L.map cel) L.length (.sl b 0 L.length false) τ:=
 ⟨h1,h2,.inr ⟨hn,b,hb,rfl,hr,by simp⟩⟩
theorem c90(s:St)(hs:StLe 1000000 s):PC 90 [stV s] (rowV (srt (YI s))):=by
 refine X3 hP g90_ok rfl ?_;unfold g90;refine Zh (v:=.bptr 0 0) (rd:=[]) (up:=[(0,.box (stC s))]) rfl rfl ?_;have hB:∀ {L v τ},Gr ([]++[ABlk.box (stC s)]) 1 (List.map cel L) L.length v τ→hget τ 0=.box (stC s):=λh=>h.old rfl (by simp);have hG:Gr ([]++[ABlk.box (stC s)]) 1 (([]:List Int).map cel) ([]:List Int).length .nils ([]++[ABlk.box (stC s)]):=Gr.nil 1 _;generalize hbs:([]++[ABlk.box (stC s)]:List ABlk)=base at hG hB ⊢;have hu0:=hs.s0.units;have hu1:=hs.s1.units;have hL:([]:List Int).Pairwise (·≤·):=.nil;have hp:([]:List Int).Perm []:=.refl _;have hfin:∀ {L v τ},Gr base 1 (List.map cel L) L.length v τ→L.Pairwise (·≤·)→L.Perm (YI s)→∃rd,Bor (Go.Ah.hp τ) rd v (rowV (srt (YI s))):=λh1 h2 h3=>by
  rw[Ycd h2 h3]; exact h1.ri
 clear hbs;refine QH 3 (Ym ?_);refine Za rfl (Ze ?_);refine Qi (ι:=Nat) (λi vs τ=>(∃(L:List Int) (v:AVal),vs=[iv i,v]∧Gr base 1 (L.map cel) L.length v τ∧L.Pairwise (·≤·)∧L.Perm ([]++(s.s0.units.take i).map Th.id))∧i≤s.s0.units.length) (λi=>s.s0.units.length-i) 0 ⟨⟨_,_,rfl,hG,hL,by rw[List.take_zero,List.map_nil,List.append_nil]<;>exact hp⟩,by omega⟩ ?_;clear hG hL hp;rintro i vs τ again ⟨⟨L,v,rfl,hG,hL,hp⟩,hi⟩ hag;have hB0:=hB hG;have hLl:L.length=i:=by
  have:=hp.length_eq;simp at this; omega
 refine Za rfl (Za rfl (Za rfl (Za (v:=thV s.s0.units) (ld hB0 rfl) (Za (Qf ..) ?_))));rw[List.length_map];refine Za (Xt ..) (Zc (λh=>?_) (λh=>?_))
 ·have h:i<s.s0.units.length:=by simpa using h
  refine Za rfl (Za rfl (Za rfl (Za (v:=thV s.s0.units) (ld hB0 rfl) (Za (Zn _ thC false false 4 s.s0.units .i64 i h) ?_))));have htk:=Qv Th.id s.s0.units i h;generalize s.s0.units[i]=u at htk ⊢;refine Za rfl (Za (v:=iv u.id) (ldr rfl) ?_);refine hG.put (by_:=8) rfl rfl rfl (by rw[show (2:Nat) ^ 48=281474976710656 from rfl]; omega) (λv' τ' hG2=>?_);refine Za (hG2.grows.len _) (Za (Xbw ..) ?_);have hw:IntKind.i64.wrap (((L.length+1:Nat):Int)-1)=(L.length:Int):=by
   rw[IntWalk.i64_in _ (by omega)]; omega
  rw[hw];obtain⟨q1,q2,⟨q3,_⟩|⟨_,b,q4,rfl,q5,q6⟩⟩:=hG2
  ·omega
  refine Qcd q4 hL rfl (by omega) q2 (by rw[List.map_append]; exact q5) (K:=_) (λτ2 L2 r1 r2 r3 r4 r5=>?_) rfl;have hl2:L2.length=L.length+1:=by rw[r4.length_eq]; simp
  refine Za (Qj ..) ?_;rw[Qe (n:=i) (by omega),←hl2];refine hag (i+1) _ _ (by omega) ⟨⟨L2,_,rfl,Gr.mk' r1 r2 q4 (by omega) r5,r3,?_⟩,by omega⟩;rw[←htk,←List.append_assoc];exact r4.trans (hp.append_right _)
 have h:i=s.s0.units.length:=by simp at h; omega
 subst h;rw[List.take_length] at hp;clear hag again hi hB0 hLl;refine Za rfl (Ym ?_);refine Za rfl (Ze ?_);refine Qi (ι:=Nat) (λi vs τ=>(∃(L:List Int) (v:AVal),vs=[iv i,v]∧Gr base 1 (L.map cel) L.length v τ∧L.Pairwise (·≤·)∧L.Perm (([]++s.s0.units.map Th.id)++(s.s1.units.take i).map Th.id))∧i≤s.s1.units.length) (λi=>s.s1.units.length-i) 0 ⟨⟨_,_,rfl,hG,hL,by rw[List.take_zero,List.map_nil,List.append_nil]<;>exact hp⟩,by omega⟩ ?_;clear hG hL hp;rintro i vs τ again ⟨⟨L,v,rfl,hG,hL,hp⟩,hi⟩ hag;have hB0:=hB hG;have hLl:L.length=s.s0.units.length+i:=by
  have:=hp.length_eq;simp at this; omega
 refine Za rfl (Za rfl (Za rfl (Za (v:=thV s.s1.units) (ld hB0 rfl) (Za (Qf ..) ?_))));rw[List.length_map];refine Za (Xt ..) (Zc (λh=>?_) (λh=>?_))
 ·have h:i<s.s1.units.length:=by simpa using h
  refine Za rfl (Za rfl (Za rfl (Za (v:=thV s.s1.units) (ld hB0 rfl) (Za (Zn _ thC false false 4 s.s1.units .i64 i h) ?_))));have htk:=Qv Th.id s.s1.units i h;generalize s.s1.units[i]=u at htk ⊢;refine Za rfl (Za (v:=iv u.id) (ldr rfl) ?_);refine hG.put (by_:=8) rfl rfl rfl (by rw[show (2:Nat) ^ 48=281474976710656 from rfl]; omega) (λv' τ' hG2=>?_);refine Za (hG2.grows.len _) (Za (Xbw ..) ?_);have hw:IntKind.i64.wrap (((L.length+1:Nat):Int)-1)=(L.length:Int):=by
   rw[IntWalk.i64_in _ (by omega)]; omega
  rw[hw];obtain⟨q1,q2,⟨q3,_⟩|⟨_,b,q4,rfl,q5,q6⟩⟩:=hG2
  ·omega
  refine Qcd q4 hL rfl (by omega) q2 (by rw[List.map_append]; exact q5) (K:=_) (λτ2 L2 r1 r2 r3 r4 r5=>?_) rfl;have hl2:L2.length=L.length+1:=by rw[r4.length_eq]; simp
  refine Za (Qj ..) ?_;rw[Qe (n:=i) (by omega),←hl2];refine hag (i+1) _ _ (by omega) ⟨⟨L2,_,rfl,Gr.mk' r1 r2 q4 (by omega) r5,r3,?_⟩,by omega⟩;rw[←htk,←List.append_assoc];exact r4.trans (hp.append_right _)
 have h:i=s.s1.units.length:=by simp at h; omega
 subst h;rw[List.take_length] at hp;clear hag again hi hB0 hLl;refine Za rfl (Ym ?_);exact Za rfl (Xi (hfin hG hL hp))
end Go.Ah.Tz
end
section
namespace Go.Ah.Tz
open Go.Proofs.Tryz (prog)
theorem XcD(n by_:Nat){σ:List ABlk}{b len:Nat}{ex e nn:Bool}{rs rows:List (List AVal)}(hb:hget σ b=.rows n rs)(hl:rs.length=len)(hr:YE rows=true)(hroom:(2*(len+rows.length)+192)*by_≤2 ^ 48) :
  Zi n by_ [.sl b 0 len ex,.rsl e nn n rows] σ=.ok (.sl σ.length 0 (len+rows.length) false) [] ([(b,.dead)]++[(σ.length,.rows n (rs++rows))]):=by
 have h1:YK n σ (.rsl e nn n rows)=some (rows,[]):=by simp[YK]
 have h2:Nat.ble ((2*(len+rows.length)+192)*by_) (2 ^ 48)=true:=Nat.ble_eq_true_of_le hroom;have:Zi n by_ [.sl b 0 len ex,.rsl e nn n rows] σ=ZF n by_ σ rs [(b,.dead)] (.rsl e nn n rows):=by
  simp[Zi,Zaj,hb,hl]
 rw[this];unfold ZF;simp only[h1,hr,h2,Bool.and_self,cond_true,hl]
attribute [local irreducible] Ans.rd Ans.pu Ans.wr Ans.dr Ans.gr Ans.gw Ans.gl Ans.gd Ans.opt joinK W
set_option maxHeartbeats 8000000
def LS(σb:List ABlk)(l:List Ac)(v:AVal)(τ:List ABlk):Prop:=OI σb.length l v τ∧σb.length≤τ.length∧∀c,c<σb.length→hget τ c=hget σb c
theorem LS.more{σb:List ABlk}{l:List Ac}{v:AVal}{τ:List ABlk}(h:LS σb l v τ)(m:List ABlk):LS σb l v (τ++m):=
 ⟨h.1.mono (RX.app _ _),by have:=h.2.1; simp; omega,λc hc=>by rw[Yt _ (by have:=h.2.1; omega)]; exact h.2.2 c hc⟩
theorem LS.get{σb:List ABlk}{l:List Ac}{v:AVal}{τ:List ABlk}(h:LS σb l v τ){c:Nat}{x:ABlk}(hx:hget σb c=x)(hd:x≠.dead):hget τ c=x:=by
 rw[h.2.2 c (Zo hx hd)]; exact hx
theorem LS.app{σb:List ABlk}{l:List Ac}{v:AVal}{τ:List ABlk}(h:LS σb l v τ)(hroom:l.length≤1000000000){x y:AVal}{a:Ac}(hx:IdN τ x a.ids)(hy:PrN τ y a.prs) :
  ∃v' rd up τ',Zi 6 80 [v,.sl τ.length 0 1 true] (τ++[.rows 6 [[iv8 a.op,iv a.side,iv a.place,iv a.target,x,y]]])=.ok v' rd up∧upL (τ++[.rows 6 [[iv8 a.op,iv a.side,iv a.place,iv a.target,x,y]]]) up=some τ'∧LS σb (l++[a]) v' τ':=by
 have h2:=h.more [.rows 6 [[iv8 a.op,iv a.side,iv a.place,iv a.target,x,y]]];obtain⟨v',rd,up,τ',o1,o2,o3,o4,o5,o6⟩:=h2.1.op (Yj _ _) (a:=a) (λd hd=>⟨x,y,rfl,(hx.mono (RX.app _ _)).at (h2.1.at hd),(hy.mono (RX.app _ _)).at (h2.1.at hd)⟩) h2.2.1 hroom;exact⟨v',rd,up,τ',o1,o2,o3,Nat.le_trans h2.2.1 o4,λc hc=>by rw[o5 c hc]; exact h2.2.2 c hc⟩
theorem LS.row{σb:List ABlk}{l:List Ac}{v:AVal}{τ:List ABlk}(_h:LS σb l v τ){x y:AVal}{a:Ac}(hx:IdN τ x a.ids)(hy:PrN τ y a.prs):cellsOf (.agg [iv8 a.op,iv a.side,iv a.place,iv a.target,x,y])=some [iv8 a.op,iv a.side,iv a.place,iv a.target,x,y]:=
 YaL (RowIs.cell (b:=τ.length) (τ:=τ) (a:=a) ⟨x,y,rfl,hx.at (.inl rfl),hy.at (.inl rfl)⟩)
theorem LS.put{σb:List ABlk}{l:List Ac}{v:AVal}{τ:List ABlk}(h:LS σb l v τ)(hroom:l.length≤1000000000){x y:AVal}(a:Ac)(hx:IdN τ x a.ids)(hy:PrN τ y a.prs){K:AVal→List ABlk→Prop}(hK:∀v' τ',LS σb (l++[a]) v' τ'→K v' τ') :
  VV.wr (Qh 6 1 [(.int .i8 0),(.int .i64 0),(.int .i64 0),(.int .i64 0),.nils,.nils] [(0,6)] [.agg [iv8 a.op,iv a.side,iv a.place,iv a.target,x,y]] τ) τ λt σ=>VV.wr (Zi 6 80 [v,t] σ) σ K:=by
 obtain⟨v',rd,up,τ',o1,o2,o3⟩:=h.app hroom hx hy;exact Zh (Qbb 6 _ _ _ [iv8 a.op,iv a.side,iv a.place,iv a.target,x,y] (by simp only[fill,h.row hx hy]; rfl) rfl) (Zy _ _) (Zh o1 o2 (hK _ _ o3))
theorem ZbY{b:Bk}(hf:bkFit b=true){s:St}(hs:StLe 1000000000 s)(hm:mayR (bkR b).1 b s false=true)(hph:s.phase≠2){σb:List ABlk}{l:List Ac}{lv:AVal}{σ2:List ABlk}(hL:LS σb l lv σ2)(hl:l.length≤1000000000)(hsm:∀a∈l,a.ids.length≤1∧a.prs.length≤1)
 (h0:hget σb 0=.box (bkC b))(h1:hget σb 1=.box (stC s)){K:AVal→List ABlk→Prop}(hK:∀v τ,OI σ2.length (flt b s l) v τ→K v τ) :
  VV.loop (λag91 v92 σ=>
 VV.rd (Xe [lv] σ) λt125_93=>
 VV.rd (Yh .lss false [(Go.Ah.h0 v92),t125_93] σ) λt126_94=>
 VV.test t126_94 (
 joinK (λk95=>
 VV.dr (Xc true 2 [.bptr 0 0] σ) σ λt129_97 l98 σ=>
 VV.dr (Xc true 23 [.bptr 1 0] σ) σ λt130_99 l100 σ=>
 VV.dr (Yb 6 [lv,(Go.Ah.h0 v92)] σ) σ λt133_101 l102 σ=>
 VV.dr (Xc true 6 [t133_101] σ) σ λt134_103 l104 σ=>
 VV.dcall (.call 36) [t129_97,t130_99,t134_103] σ λt135_105 l106 σ=>
 VV.pu (Yh .eql false [t135_105,(.int .i64 0)] σ) λt136_107=>
 VV.gd (Xg [[],[],[],[],[2,3],[2,3,4],[0,1,2,3,4,5],[0,1,2,3,4,5,6]] [l98,l100,([],[]),([],[]),l102,l104,l106,([],[])]) <|
 VV.test t136_107 (
 VV.rd (Yb 6 [lv,(Go.Ah.h0 v92)] σ) λt140_108=>
 VV.rd (Xc true 6 [t140_108] σ) λt141_109=>
 VV.wr (Qh 6 1 [(.int .i8 0),(.int .i64 0),(.int .i64 0),(.int .i64 0),.nils,.nils] [(0,6)] [t141_109] σ) σ λt142_110 σ=>
 VV.wr (Zi 6 80 [(Go.Ah.h1 v92),t142_110] σ) σ λt143_111 σ=>
 k95 [t143_111] σ) (
 k95 [(Go.Ah.h1 v92)] σ)) (λv96 σ=>
 VV.rd (Yh .add false [(Go.Ah.h0 v92),(.int .i64 1)] σ) λt128_112=>
 ag91 [t128_112,(Go.Ah.h0 v96)] σ)) (
 K (Go.Ah.h1 v92) σ)) [(.int .i64 0),.nils] σ2:=by
 refine Qi (ι:=Nat) (λi vs τ=>(∃done v,vs=[iv i,v]∧LS σ2 done v τ∧done++flt b s (l.drop i)=flt b s l)∧i≤l.length) (λi=>l.length-i) 0 ⟨⟨[],_,rfl,⟨OI.nil _ _,Nat.le_refl _,λ_ _=>rfl⟩,rfl⟩,by omega⟩ ?_;rintro i vs τ again ⟨⟨done,v,rfl,hD,hd⟩,hi⟩ hag;have hbig:done.length≤1000000000:=by
  have:=congrArg List.length hd;have:=Zbd b s l;simp at *; omega
 refine Za (hL.1.len _) (Za (Xt ..) (Zc (λh=>?_) (λh=>?_)));rotate_left
 ·have h:i=l.length:=by simp at h; omega
  subst h;rw[List.drop_length,show flt b s []=[] from rfl,List.append_nil] at hd;subst hd;exact hK _ _ hD.1
 have h:i<l.length:=by simpa using h
 obtain⟨a,hla⟩:∃a,l[i]?=some a:=⟨l[i],by simp[h]⟩;have hdr:l.drop i=a::l.drop (i+1):=by
  rw[YLD h];rw[List.getElem?_eq_getElem h] at hla;rw[Option.some.inj hla]
 rw[hdr,ZL,←List.append_assoc] at hd;have g0:hget τ 0=.box (bkC b):=hD.get (hL.get h0 (by simp)) (by simp);have g1:hget τ 1=.box (stC s):=hD.get (hL.get h1 (by simp)) (by simp);obtain⟨hOI,hLl,hLf⟩:=hL;rcases hOI with ⟨rfl,rfl⟩|⟨lb,rs,k1,rfl,k3,k4,k5,k6⟩
 ·simp at h
 have hlb:=hD.get k4 (by simp);have hir:i<rs.length:=by omega
 obtain⟨row,hrow⟩:∃row,rs[i]?=some row:=⟨rs[i],by simp[hir]⟩;have hR:=k6 i row a hrow hla;have hix:=Zbc τ lb 0 l.length false 6 rs .i64 i h hlb;rw[Nat.zero_add] at hix;obtain⟨x,y,rfl,hx,hy⟩:=hR;have toN:IdN τ x a.ids∧PrN τ y a.prs:=by
  refine⟨?_,?_⟩
  ·rcases hx with h|⟨c,id,q1,q2,q3,_⟩
   ·exact .inl h
   ·exact .inr ⟨c,id,q1,q2,hD.get q3 (by simp)⟩
  ·rcases hy with h|⟨c,id,q1,q2,q3,_⟩
   ·exact .inl h
   ·exact .inr ⟨c,id,q1,q2,hD.get q3 (by simp)⟩
 have hld:=ldp (agg:=true) (j:=0) (n:=6) hlb hrow rfl;refine Yk λk95 hk95=>?_;obtain⟨rd,hbor⟩:=RowIs.bor (b:=τ.length) (τ:=τ) (a:=a) ⟨x,y,rfl,toN.1.at (.inl rfl),toN.2.at (.inl rfl)⟩;have ha:=hsm a (List.mem_of_getElem? hla);have h36:=c36 b hf s hs a (by omega) (by omega);rw[if_pos hm,if_neg hph] at h36;refine Xl (ld g0 (v:=bkV b) rfl) (Zl _) (Xl (ld g1 (v:=stV s) rfl) (Zl _) (Xl hix (Zl _) (Xl hld (Zl _) ?_)));refine XbB (rd:=rd) h36 rfl g36_ok.plain (.cons (Bor.ro rfl) <| .cons (Bor.ro rfl) <| .cons (Bor.agg hbor) .nil) rfl (Zj (Zf ..) (QC (Z9 (by simp[allRd])) ?_));refine Zc (λhq=>?_) (λhq=>?_)
 ·rw[if_pos (by simpa using hq)] at hd;refine Za hix (Za hld ?_);refine hD.put hbig a toN.1 toN.2 (λv' τ' hD'=>?_);rw[hk95];refine Za (Qj ..) ?_;rw[Qe (n:=i) (by omega)];exact hag (i+1) _ _ (by omega) ⟨⟨_,v',rfl,hD',hd⟩,by omega⟩
 ·rw[if_neg (by simpa using hq),List.append_nil] at hd;rw[hk95];refine Za (Qj ..) ?_;rw[Qe (n:=i) (by omega)];exact hag (i+1) _ _ (by omega) ⟨⟨_,v,rfl,hD,hd⟩,by omega⟩
end Go.Ah.Tz
end
