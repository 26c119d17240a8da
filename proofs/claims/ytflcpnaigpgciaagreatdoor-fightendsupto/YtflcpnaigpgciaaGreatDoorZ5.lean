/- Part of the proof that FightEnds holds of the program for arguments that together hold at most 1048576 values and letters; no other condition. -/
import Derived.Test.YtflcpnaigpgciaaGreatDoorZ4
import Derived.Test.YtflcpnaigpgciaaGreatDoorRows
import Derived.Test.YtflcpnaigpgciaaGreatDoorCards
import Derived.Test.YtflcpnaigpgciaaGreatDoorTie
import Derived.ProofKit
import Derived.OpenShut
import Derived.Carry
import Derived.SevenTiedAt
import Derived.JoinedCond
import Derived.LaidMore
import Derived.SizedLaws
import Derived.Stop.LaidErr
import Derived.Deep.DeepHandedRow
import Derived.Deep.DeepWitnessRowRef
import Derived.Lib.LaidTab
import Derived.Sort.OwnSortedInts
import Derived.Shelf.Sort.Plain
import Derived.Test.YtflcpnaigpgciaaGreatDoorChecked
import Derived.Shelf.Slices.In.SortNone
set_option linter.all false
section
namespace Go.Ah.Tz
open Go.Proofs.Tryz (prog)
theorem Pa(a:Int):kJ a=0∨kJ a=1∨kJ a=2∨kJ a=3:=by unfold kJ; split<;>omega
attribute [local irreducible] al.rd al.pu al.wr al.dr al.gr al.gw al.gl al.gd al.opt au W
theorem c252(a:Int):PC 252 [ar a] (ar (kJ a)):=by
 refine Qd hP gZ rfl rfl ?_;unfold g252;refine Za rfl (QD rfl rfl ?_);refine Zc (λh=>?_) (λh=>?_)
 ·rw[kJ,if_pos (by simpa using h)]
 ·rw[kJ,if_neg (by simpa using h)]
def FL:aa:=.agg [ar 0,ar 1,ar 2,ar 3,ar 1,ar 1,ar 3,ar 3,ar 2,ar 3,ar 2,ar 3,ar 3,ar 3,ar 3,ar 3]
theorem c263:PC 263 [] FL:=by
 refine Qd hP mo rfl rfl ?_;unfold g263;refine Ze rfl rfl (Za rfl (Za rfl (Za rfl (Za rfl (Za rfl (Ze rfl rfl (Ql rfl ?_)))))));rfl
theorem c250(a b:Int):PC 250 [ar a,ar b] (ar (bP a b)):=by
 refine Qd hP eM rfl rfl ?_;unfold g250;refine Qn c263 rfl mo.plain rfl ?_;refine Qn (c252 a) rfl gZ.plain rfl ?_;have h1:=Pa a;have h2:=Pa b;unfold bP;have k:=c252 b;generalize kJ a=p at h1 ⊢;generalize kJ b=q at h2 k ⊢;rcases h1 with h1|h1|h1|h1<;>subst h1<;>refine Zk rfl ?_<;>refine Qn k rfl gZ.plain rfl ?_<;>rcases h2 with h2|h2|h2|h2<;>subst h2<;>exact Zk rfl (XJ (by kernel_rfl) rfl)
theorem c253(a b:Int):PC 253 [ar a,ar b] (.bool (decide (bP a b=kJ b))):=by
 refine Qd hP mh rfl rfl ?_;unfold g253;refine Qc (c250 a b) rfl eM.plain rfl ?_;refine Qc (c252 b) rfl gZ.plain rfl ?_;refine Za (Qf ..) ?_;rfl
theorem NW(b:Int):bP b b=kJ b:=by rw[bP,if_pos (Or.inl rfl)]
end Go.Ah.Tz
end
section
namespace Go.Ah.Tz
open Go.Proofs.Tryz (prog)
attribute [local irreducible] al.rd al.pu al.wr al.dr al.gr al.gw al.gl al.gd al.opt au W
set_option maxHeartbeats 1000000
theorem SJ(x:Nm):rr x=if x.op=6 then 3 else if 8≤x.op∧x.op≤12 then fT 0 x.kids else 0:=by
 rw[NG];by_cases h:x.op=6
 ·rw[if_neg (by omega),if_pos h,if_pos h]
 ·rw[if_neg h,if_neg h]
theorem yg:∀(k:Nat) (x:Nm),SizeOf.sizeOf x≤k→cQ x=true→PC 251 [.agg (aP x)] (ar (rr x))
 |0,x,h,_=>by cases x; simp at h
 |k+1,x,hk,hf=>by
  rw[QA];refine Qd hP gY rfl rfl ?_;unfold g251;refine Ze rfl rfl ?_;rw[SJ];have hlen:=Q2 hf;rw[cM] at hlen;generalize hB:([]++[ab.box [ar x.op,iv x.n,ar x.aB,.ax false false 4 (x.kids.map aP)]]:List ab)=base;have aC:ah base 0=.box [ar x.op,iv x.n,ar x.aB,.ax false false 4 (x.kids.map aP)]:=by rw[←hB]; rfl
  clear hB;refine Za rfl (Za (ld aC rfl) (Za (Qf ..) ?_));refine Zc (λh=>?_) (λh=>?_)
  ·rw[if_pos (by simpa using h)]
  rw[if_neg (by simpa using h)];refine Za rfl (Za (ld aC rfl) (Za rfl ?_));refine C' rfl (ld aC rfl) rfl ?_;rw[show (decide (x.op ≥ 8)&&decide (x.op≤12))=decide (8≤x.op∧x.op≤12) by simp];refine Zc (λh=>?_) (λh=>?_);rotate_left
  ·rw[if_neg (by simpa using h)]
  rw[if_pos (by simpa using h)];refine Za rfl (Za (ld aC rfl) (Za rfl ?_));clear aC;refine Zl (ι:=Nat) (λi vs σ=>∃n,vs=[iv i,ar n]∧i≤x.kids.length∧fT 0 x.kids=fT n (x.kids.drop i)) (λi=>x.kids.length-i) 0 ⟨0,rfl,by omega,by simp⟩ ?_;rintro i vs σ again ⟨n,rfl,hi,hu⟩ aM;refine Za rfl ?_;refine Zc (λh=>?_) (λh=>?_)
  ·have h:i<x.kids.length:=by simpa using h
   have cO:x.kids.drop i=x.kids[i]::x.kids.drop (i+1):=by rw[eD h]
   rw[cO,fT] at hu;have hm:x.kids[i]∈x.kids:=List.getElem_mem h;have bW:=λ(s:List ab)=>Zp s aP false false 4 x.kids .i64 i h;have ei:=zg hm;have yA:=XU hf hm;generalize x.kids[i]=y at hu bW ei yA;refine Za (bW _) (Za (aj (qp _)) ?_);refine Yt (row:=[ar y.op,iv y.n,ar y.aB,.ax false false 4 (y.kids.map aP)]) (row':=[ar y.op,iv y.n,ar y.aB,.ax false false 4 (y.kids.map aP)]) (by rw[QA]; rfl) rfl rfl ?_;have cK:=Zi σ (ab.box [ar y.op,iv y.n,ar y.aB,.ax false false 4 (y.kids.map aP)]);have hN:Zd true 4 [.an σ.length 0] (σ++[ab.box [ar y.op,iv y.n,ar y.aB,.ax false false 4 (y.kids.map aP)]])=.ok (.agg (aP y)) [σ.length] []:=ld cK (by rw[QA]; rfl);refine Za hN ?_;refine Qc (yg k y (by omega) yA) rfl gY.plain (kT _) ?_;refine Qc (c250 _ _) rfl eM.plain rfl ?_;refine Za (Xk ..) ?_;rw[Zf (n:=i) (by omega)];exact aM (i+1) _ _ (by omega) ⟨_,rfl,by omega,hu⟩
  ·have h:i=x.kids.length:=by simp at h; omega
   subst h;rw[List.drop_length,fT] at hu;rw[hu]; rfl
theorem c251(x:Nm)(hf:cQ x=true):PC 251 [.agg (aP x)] (ar (rr x)):=yg _ x (Nat.le_refl _) hf
theorem yh:∀(k:Nat) (x:Cn),SizeOf.sizeOf x≤k→cy x=true→PC 254 [.agg (b_ x)] (ar (nM x))
 |0,x,h,_=>by cases x; simp at h
 |k+1,x,hk,hf=>by
  rw[XH];refine Qd hP ko rfl rfl ?_;unfold g254;refine Ze rfl rfl ?_;rw[Pl];have ik:=YL hf;have eR:=ZL hf;rw[cM] at ik eR;generalize hB:([]++[ab.box [ar x.op,ar x.aB,.str x.name,.ax false false 4 (x.aw.map aP),.ax false false 5 (x.kids.map b_)]]:List ab)=base;have aC:ah base 0=.box [ar x.op,ar x.aB,.str x.name,.ax false false 4 (x.aw.map aP),.ax false false 5 (x.kids.map b_)]:=by rw[←hB]; rfl
  clear hB;refine Za rfl (Za (ld aC rfl) (Za (Qf ..) ?_));refine Zc (λh=>?_) (λh=>?_)
  ·rw[if_pos (by simpa using h)];refine Za rfl (Za (ld aC rfl) (Za (Qf ..) ?_));refine Zc (λh=>?_) (λh=>?_)
   ·rw[if_pos (by simpa using h)]
   rw[if_neg (by simpa using h)];refine Za (Qf ..) ?_;refine Zc (λh=>?_) (λh=>?_)
   ·rw[if_pos (by simpa using h)]
   ·rw[if_neg (by simpa using h)]
  rw[if_neg (by simpa using h)];refine Za rfl (Za (ld aC rfl) (Za rfl ?_));refine Zl (ι:=Nat) (λi vs σ=>∃n,vs=[iv i,ar n]∧ah σ 0=.box [ar x.op,ar x.aB,.str x.name,.ax false false 4 (x.aw.map aP),.ax false false 5 (x.kids.map b_)]∧i≤x.aw.length∧fT 0 x.aw=fT n (x.aw.drop i)) (λi=>x.aw.length-i) 0 ⟨0,rfl,aC,by omega,by simp⟩ ?_;rintro i vs σ again ⟨n,rfl,aC,hi,hu⟩ aM;refine Za rfl ?_;refine Zc (λh=>?_) (λh=>?_)
  ·have h:i<x.aw.length:=by simpa using h
   have cO:x.aw.drop i=x.aw[i]::x.aw.drop (i+1):=by rw[eD h]
   rw[cO,fT] at hu;have hm:x.aw[i]∈x.aw:=List.getElem_mem h;have bW:=λ(s:List ab)=>Zp s aP false false 4 x.aw .i64 i h;have yA:=ZT hf hm;generalize x.aw[i]=y at hu bW yA;refine Za (bW _) (Za (aj (qp _)) ?_);refine Yt (row:=[ar y.op,iv y.n,ar y.aB,.ax false false 4 (y.kids.map aP)]) (row':=[ar y.op,iv y.n,ar y.aB,.ax false false 4 (y.kids.map aP)]) (by rw[QA]; rfl) rfl rfl ?_;have cK:=Zi σ (ab.box [ar y.op,iv y.n,ar y.aB,.ax false false 4 (y.kids.map aP)]);have hN:Zd true 4 [.an σ.length 0] (σ++[ab.box [ar y.op,iv y.n,ar y.aB,.ax false false 4 (y.kids.map aP)]])=.ok (.agg (aP y)) [σ.length] []:=ld cK (by rw[QA]; rfl);refine Za hN ?_;refine Qc (c251 y yA) rfl gY.plain (kT _) ?_;refine Qc (c250 _ _) rfl eM.plain rfl ?_;refine Za (Xk ..) ?_;rw[Zf (n:=i) (by omega)];exact aM (i+1) _ _ (by omega) ⟨_,rfl,Zg _ aC (by simp),by omega,hu⟩
  have h:i=x.aw.length:=by simp at h; omega
  subst h;rw[List.drop_length,fT] at hu;rw[hu];clear aM hu hi;refine Za rfl (Za (ld aC rfl) (Za rfl ?_));refine Zl (ι:=Nat) (λi vs s=>∃m,vs=[iv i,ar m]∧i≤x.kids.length∧mO n x.kids=mO m (x.kids.drop i)) (λi=>x.kids.length-i) 0 ⟨n,rfl,by omega,by simp⟩ ?_;rintro i vs s again ⟨m,rfl,hi,hu⟩ aM;refine Za rfl ?_;refine Zc (λh=>?_) (λh=>?_)
  ·have h:i<x.kids.length:=by simpa using h
   have cO:x.kids.drop i=x.kids[i]::x.kids.drop (i+1):=by rw[eD h]
   rw[cO,mO] at hu;have hm:x.kids[i]∈x.kids:=List.getElem_mem h;have bW:=λ(s:List ab)=>Zp s b_ false false 5 x.kids .i64 i h;have yA:=QS hf hm;have ei:=zj hm;generalize x.kids[i]=y at hu bW yA ei;refine Za (bW _) (Za (aj (vM _)) ?_);refine Yt (row:=[ar y.op,ar y.aB,.str y.name,.ax false false 4 (y.aw.map aP),.ax false false 5 (y.kids.map b_)]) (row':=[ar y.op,ar y.aB,.str y.name,.ax false false 4 (y.aw.map aP),.ax false false 5 (y.kids.map b_)]) (by rw[XH]; rfl) rfl rfl ?_;have cK:=Zi s (ab.box [ar y.op,ar y.aB,.str y.name,.ax false false 4 (y.aw.map aP),.ax false false 5 (y.kids.map b_)]);have hN:Zd true 5 [.an s.length 0] (s++[ab.box [ar y.op,ar y.aB,.str y.name,.ax false false 4 (y.aw.map aP),.ax false false 5 (y.kids.map b_)]])=.ok (.agg (b_ y)) [s.length] []:=ld cK (by rw[XH]; rfl);refine Za hN ?_;refine Qc (yh k y (by omega) yA) rfl ko.plain (pK _) ?_;refine Qc (c250 _ _) rfl eM.plain rfl ?_;refine Za (Xk ..) ?_;rw[Zf (n:=i) (by omega)];exact aM (i+1) _ _ (by omega) ⟨_,rfl,by omega,hu⟩
  ·have h:i=x.kids.length:=by simp at h; omega
   subst h;rw[List.drop_length,mO] at hu;rw[hu]; rfl
theorem c254(x:Cn)(hf:cy x=true):PC 254 [.agg (b_ x)] (ar (nM x)):=yh _ x (Nat.le_refl _) hf
end Go.Ah.Tz
end
section
namespace Go.Ah.Tz
open Go.Proofs.Tryz (prog)
attribute [local irreducible] al.rd al.pu al.wr al.dr al.gr al.gw al.gl al.gd al.opt au W
theorem Kj(u:Int)(x:Ef):el [.agg [ar u],.agg (aX x)]=true:=by rw[QH]; rfl
theorem c235(u:Int)(x:Ef)(hf:cX x=true):PC 235 [.agg [ar u],.agg (aX x)] (.bool (decide (bP u (rr x.n)=0))):=by
 rw[QH];refine Qd hP gW rfl rfl ?_;unfold g235;refine Ze rfl rfl (Ze rfl rfl (Zk rfl (Yk rfl rfl (Zk rfl (Yk (ld (v:=.agg (aP x.n)) rfl (by rw[QA]; rfl)) rfl ?_)))));refine Qn (c251 _ (Y4 hf)) rfl gY.plain (kT _) ?_;refine Qn (c250 _ _) rfl eM.plain rfl ?_;exact Zk (Qf ..) (XJ (by kernel_rfl) rfl)
theorem c236(u:Int)(x:Ef):PC 236 [.agg [ar u],.agg (aX x)] (.bool (decide (kJ u=0))):=by
 rw[QH];refine Qd hP gX rfl rfl ?_;unfold g236;refine Ze rfl rfl (Ze rfl rfl (Za rfl (Za rfl ?_)));refine Qc (c252 _) rfl gZ.plain rfl ?_;exact Za (Qf ..) rfl
theorem c237(u:Int)(x:Ef)(hf:cX x=true):PC 237 [.agg [ar u],.agg (aX x)] (.bool (CZ (bP u (rr x.n)) 1)):=by
 rw[QH];refine Qd hP lZ rfl rfl ?_;unfold g237;refine Ze rfl rfl (Ze rfl rfl (Zk rfl (Yk rfl rfl (Zk rfl (Yk (ld (v:=.agg (aP x.n)) rfl (by rw[QA]; rfl)) rfl ?_)))));refine Qn (c251 _ (Y4 hf)) rfl gY.plain (kT _) ?_;refine Qn (c250 _ _) rfl eM.plain rfl ?_;refine Qn (c253 _ _) rfl mh.plain rfl ?_;refine XJ (by kernel_rfl) ?_;rw[CZ,NW]
end Go.Ah.Tz
end
section
namespace Go.Ah.Tz
open Go.Proofs.Tryz (prog)
theorem Yp{σ:List ab}(l:List ab){c:Nat}(h:c<σ.length):ah (σ++l) c=ah σ c:=by
 have h1:=He h;exact ZN (by rw[List.getElem?_append_left h]; exact h1)
theorem Yi{σ:List ab}{b c:Nat}(x:ab)(h:c<σ.length)(hc:c≠b):ah (σ.set b x) c=ah σ c:=by
 have h1:=He h;exact ZN (by rw[List.getElem?_set_ne (λe=>hc e.symm)]; exact h1)
def Gr(σ0:List ab)(n:Nat)(rows:List (List aa))(k:Nat)(v:aa)(σ:List ab):Prop:=
 σ0.length≤σ.length∧(∀c,c<σ0.length→ah σ c=ah σ0 c)∧((k=0∧v=.af∧rows=[])∨(0<k∧∃b,σ0.length≤b∧v=.sl b 0 k false∧ah σ b=.rows n rows∧rows.length=k))
theorem Gr.nil(n:Nat)(σ:List ab):Gr σ n [] 0 .af σ:=⟨Nat.le_refl _,λ_ _=>rfl,.inl ⟨rfl,rfl,rfl⟩⟩
theorem Gr.EG{σ0 σ:List ab}{n k:Nat}{rows:List (List aa)}{v:aa}(h:Gr σ0 n rows k v σ):cL n rows k v σ:=by
 rcases h.2.2 with h|⟨h1,b,_,h2,h3,h4⟩
 ·exact .inl h
 ·exact .inr ⟨h1,b,h2,h3,h4⟩
theorem Gr.sn{σ0 σ:List ab}{n k:Nat}{rows:List (List aa)}{v:aa}(h:Gr σ0 n rows k v σ){c:Nat}{x:ab}(hx:ah σ0 c=x)(hd:x≠.dead):ah σ c=x:=by
 rw[h.2.1 c (Qh hx hd)]; exact hx
theorem Gr.base{σ0 σ:List ab}{l:List ab}{n k:Nat}{rows:List (List aa)}{v:aa}(h:Gr (σ0++l) n rows k v σ):Gr σ0 n rows k v σ:=by
 obtain⟨h1,h2,h3⟩:=h;simp only[List.length_append] at h1 h2 h3;refine⟨by omega,λc hc=>?_,?_⟩
 ·rw[h2 c (by omega),Yp l hc]
 ·rcases h3 with h3|⟨q1,b,q2,q3⟩
  ·exact .inl h3
  ·exact .inr ⟨q1,b,by omega,q3⟩
theorem Gr.put{σ0 σ:List ab}{n cd k:Nat}{rows:List (List aa)}{v:aa}{z cs:List aa}{x:aa}(hg:Gr σ0 n rows k v σ)(hx:fill z [(0,n)] [x]=some cs)(hc:chunk n 1 cs=some [cs])(hr:cs.all aa.cell=true)(cr:(2*(k+1)+192)*cd≤2 ^ 48){K:aa→List ab→Prop}
 (hK:∀v' σ',Gr σ0 n (rows++[cs]) (k+1) v' σ'→K v' σ'):VV.wr (Xi n 1 z [(0,n)] [x] σ) σ (λt σ=>VV.wr (Qj n cd [v,t] σ) σ K):=by
 rw[Q7 _ _ _ _ _ cs hx hc];obtain⟨g1,g2,hg⟩:=hg;rcases hg with ⟨rfl,rfl,rfl⟩|⟨hk,b,De,rfl,hb,hl⟩
 ·rw[Ip _ n cd σ cs hr (by simpa using cr)];refine hK _ _ ⟨by simp; omega,λc hc=>?_,.inr ⟨by omega,_,?_,rfl,by have:=Zi (σ++[.rows n [cs]]) (.rows n [cs]); simpa using this,rfl⟩⟩
  ·rw[Yp _ (by simp; omega),Yp _ (by omega),g2 c hc]
  ·omega
 ·rw[I_ _ n cd σ b k false rows cs hb hl hr cr];refine hK _ _ ⟨by simp; omega,λc hc=>?_,.inr ⟨by omega,_,?_,rfl,?_,by simp[hl]⟩⟩
  ·rw[Yp _ (by simp; omega),Yp _ (by simp; omega),Yi _ (by omega) (by omega),g2 c hc]
  ·omega
  ·have:=Zi (σ.set b .dead++[.rows n [cs]]) (.rows n (rows++[cs]));simpa using this
inductive Pt where
 |ef (x:Ef)
 |nm (x:Nm)
 |cn (x:Cn)
inductive y9:aa→Pt→Prop
 |ef (x:Ef):y9 (.iface 272 (.agg [.ay (aX x) 0])) (.ef x)
 |nm (row:List aa) (j:Nat) (x:Nm):sD row j x→y9 (.iface 290 (.agg [.ay row j])) (.nm x)
 |cn (row:List aa) (j:Nat) (x:Cn):sB row j x→y9 (.iface 292 (.agg [.ay row j])) (.cn x)
def Pt.kids:Pt→List Pt
 |.ef x=>(if aU x.op then [.nm x.n] else [])++(if x.op=8 then .cn x.c::(x.bk.map .ef++x.br.map .ef) else [])
 |.nm x=>x.kids.map .nm
 |.cn x=>x.aw.map .nm++x.kids.map .cn
def Pt.fit:Pt→Bool
 |.ef x=>cX x
 |.nm x=>cQ x
 |.cn x=>cy x
mutual
def sZ:Nm→List Pt
 |.mk op n aB kids=>.nm (.mk op n aB kids)::nF kids
def nF:List Nm→List Pt
 |[]=>[]
 |x::l=>sZ x++nF l
end
mutual
def te:Cn→List Pt
 |.mk op aB name aw kids=>.cn (.mk op aB name aw kids)::(nF aw++nT kids)
def nT:List Cn→List Pt
 |[]=>[]
 |x::l=>te x++nT l
end
mutual
def tZ:Ef→List Pt
 |.mk op aB n name c bk br=>.ef (.mk op aB n name c bk br)::((if aU op then sZ n else [])++(if op=8 then te c++(fy bk++fy br) else []))
def fy:List Ef→List Pt
 |[]=>[]
 |x::l=>tZ x++fy l
end
def flat:Pt→List Pt
 |.ef x=>tZ x
 |.nm x=>sZ x
 |.cn x=>te x
def cN:List Pt→List Pt
 |[]=>[]
 |p::l=>flat p++cN l
theorem YX:∀a b,cN (a++b)=cN a++cN b
 |[],b=>rfl
 |p::a,b=>by simp[cN,YX a b]
theorem JH:∀l,cN (l.map .nm)=nF l
 |[]=>rfl
 |x::l=>by simp[cN,JH l,flat,nF]
theorem N8:∀l,cN (l.map .cn)=nT l
 |[]=>rfl
 |x::l=>by simp[cN,N8 l,flat,nT]
theorem DQ:∀l,cN (l.map .ef)=fy l
 |[]=>rfl
 |x::l=>by simp[cN,DQ l,flat,fy]
theorem MP(p:Pt):flat p=p::cN p.kids:=by
 cases p with
 |ef x=>
  obtain⟨op,aB,n,name,c,bk,br⟩:=x;have e:Pt.kids (.ef (.mk op aB n name c bk br))=(if aU op then [.nm n] else [])++(if op=8 then .cn c::(bk.map .ef++br.map .ef) else []):=rfl;rw[e,YX];simp only[flat,tZ]
  congr 2
  ·by_cases h:aU op=true<;>simp[h,cN,flat]
  ·by_cases h:op=8<;>simp[h,cN,flat,YX,DQ]
 |nm x=>cases x; simp[flat,sZ,Pt.kids,Nm.kids,JH]
 |cn x=>cases x; simp[flat,te,Pt.kids,Cn.aw,Cn.kids,YX,JH,N8]
theorem O1(p:Pt):0<(flat p).length:=by rw[MP]; simp
theorem IZ:∀ {l:List Pt} {p:Pt},p∈l→(flat p).length≤(cN l).length
 |q::l,p,h=>by
  simp only[cN,List.length_append];rcases List.mem_cons.1 h with rfl|h
  ·omega
  ·have:=IZ h; omega
theorem Jp:∀l:List Pt,l.length≤(cN l).length
 |[]=>by simp
 |p::l=>by
  have:=Jp l;have:=O1 p;simp[cN]; omega
theorem T0{p q:Pt}(h:p.fit=true)(hq:q∈p.kids):q.fit=true:=by
 cases p with
 |ef x=>
  simp only[Pt.kids,List.mem_append] at hq;rcases hq with hq|hq
  ·split at hq
   ·simp at hq; subst hq; exact Y4 h
   ·simp at hq
  ·split at hq
   ·simp only[List.mem_cons,List.mem_append,List.mem_map] at hq;rcases hq with rfl|⟨y,hy,rfl⟩|⟨y,hy,rfl⟩
    ·exact YZ h
    ·exact QN (QI h) hy
    ·exact QN (XI h) hy
   ·simp at hq
 |nm x=>
  simp only[Pt.kids,List.mem_map] at hq;obtain⟨y,hy,rfl⟩:=hq;exact XU h hy
 |cn x=>
  simp only[Pt.kids,List.mem_append,List.mem_map] at hq;rcases hq with ⟨y,hy,rfl⟩|⟨y,hy,rfl⟩
  ·exact ZT h hy
  ·exact QS h hy
def eA{S:Type}(step:S→Pt→S×Bool):S→List Pt→S×Bool
 |s,[]=>(s,true)
 |s,p::l=>if (step s p).2=true then eA step (step s p).1 l else ((step s p).1,false)
theorem Z6{S:Type}(step:S→Pt→S×Bool):∀(a:List Pt) (s:S) (b:List Pt),eA step s (a++b)=if (eA step s a).2=true then eA step (eA step s a).1 b else ((eA step s a).1,false)
 |[],s,b=>by simp[eA]
 |p::a,s,b=>by
  simp only[List.cons_append,eA];by_cases h:(step s p).2=true
  ·simp only[if_pos h]; exact Z6 step a _ b
  ·simp[if_neg h]
def Bt(b:Nat)(σ σ':List ab):Prop:=σ.length≤σ'.length∧∀c,c<σ.length→c≠b→ah σ' c=ah σ c
theorem Bt.refl(b:Nat)(σ:List ab):Bt b σ σ:=⟨Nat.le_refl _,λ_ _ _=>rfl⟩
theorem Bt.trans{b:Nat}{x y z:List ab}(h:Bt b x y)(k:Bt b y z):Bt b x z:=⟨Nat.le_trans h.1 k.1,λc hc hb=>by rw[k.2 c (by have:=h.1; omega) hb,h.2 c hc hb]⟩
theorem Bt.sn{b:Nat}{σ σ':List ab}(h:Bt b σ σ'){c:Nat}{x:ab}(hx:ah σ c=x)(hd:x≠.dead)(hc:c≠b):ah σ' c=x:=by
 rw[h.2 c (Qh hx hd) hc]; exact hx
theorem Bt.gr{σ σ':List ab}(b:Nat)(h1:σ.length≤σ'.length)(h:∀c,c<σ.length→ah σ' c=ah σ c):Bt b σ σ':=⟨h1,λc hc _=>h c hc⟩
def GJ{S:Type}(vq:aa)(b:Nat)(enc:S→List aa)(step:S→Pt→S×Bool):Prop:=
 ∀p v,y9 v p→∀s σ K,ah σ b=.box (enc s)→(∀σ',Bt b σ σ'→ah σ' b=.box (enc (step s p).1)→K (.bool (step s p).2) σ')→VV.call .cH [vq,v] σ K
inductive mB:List aa→List Pt→Prop
 |nil:mB [] []
 |snoc (vs:List aa) (ps:List Pt) (v:aa) (p:Pt):mB vs ps→y9 v p→mB (vs++[v]) (ps++[p])
theorem mB.length{vs:List aa}{ps:List Pt}(h:mB vs ps):vs.length=ps.length:=by
 induction h with
 |nil=>rfl
 |snoc vs ps v p h hv ih=>simp[ih]
theorem mB.get{vs:List aa}{ps:List Pt}(h:mB vs ps):∀i (h1:i<vs.length) (h2:i<ps.length),y9 vs[i] ps[i]:=by
 induction h with
 |nil=>intro i h; simp at h
 |snoc vs ps v p h hv ih=>
  intro i h1 h2;have hl:=h.length;simp only[List.length_append,List.length_singleton] at h1 h2;by_cases hi:i<vs.length
  ·rw[List.getElem_append_left hi,List.getElem_append_left (by omega)]; exact ih i hi (by omega)
  ·have e1:i=vs.length:=by omega
   subst e1;have:ps[vs.length]?=none:=by rw[List.getElem?_eq_none (by omega)]
   simp[hl,hv]
def one(v:aa):List aa:=[v]
end Go.Ah.Tz
end
section
namespace Go.Ah.Tz
open Go.Proofs.Tryz (prog)
attribute [local irreducible] al.rd al.pu al.wr al.dr al.gr al.gw al.gl al.gd al.opt au W
set_option maxHeartbeats 2000000
def jt(x:Ef):List aa:=[.iface 272 (.agg [.ay (aX x) 0])]
def kS(x:Nm):List aa:=[.iface 290 (.agg [.ay (aP x) 0])]
def nU(x:Cn):List aa:=[.iface 292 (.agg [.ay (b_ x) 0])]
theorem NA{σ0 σ:List ab}{k:Nat}{rows:List (List aa)}{v:aa}(l:List Ef)(hl:k+l.length≤1000000000)(hg:Gr σ0 1 rows k v σ){K:List aa→List ab→Prop}
 (hK:∀v' σ' w,Gr σ0 1 (rows++l.map jt) (k+l.length) v' σ'→K [w,v'] σ') :
  VV.loop (λag v55 σ=>VV.rd (Yj .lss false [(h0 v55),iv l.length] σ) λBL=>VV.test BL (
   VV.rd (Yb 14 [ju l,(h0 v55)] σ) λBS=>VV.rd (Qe [.bQ] [(0,1)] [BS] σ) λBV=>VV.rd (YC 272 [BV] σ) λBW=>
   VV.wr (Xi 1 1 [.dX] [(0,1)] [BW] σ) σ λB1 σ=>VV.wr (Qj 1 16 [(h1 v55),B1] σ) σ λB5 σ=>
   VV.rd (Yj .add false [(h0 v55),(.int .i64 1)] σ) λpr=>ag [pr,B5] σ) (K v55 σ)) [(.int .i64 0),v] σ:=by
 refine Zl (ι:=Nat) (λi vs s=>∃v,vs=[iv i,v]∧i≤l.length∧Gr σ0 1 (rows++(l.take i).map jt) (k+i) v s) (λi=>l.length-i) 0 ⟨v,rfl,by omega,by simpa using hg⟩ ?_;rintro i vs s again ⟨v,rfl,hi,hg⟩ aM;refine Za rfl (Zc (λh=>?_) (λh=>?_))
 ·have h:i<l.length:=by simpa using h
  refine Za (Zp _ aX _ _ _ l _ i h) (Za rfl (Za rfl ?_));refine hg.put (cs:=jt l[i]) rfl rfl rfl (by omega) (λv' σ' nO=>?_);refine Za (Xk ..) ?_;rw[Zf (n:=i) (by omega)];refine aM (i+1) _ _ (by omega) ⟨v',rfl,by omega,?_⟩;rw[←YE _ _ _ h,←List.append_assoc]; exact nO
 ·have h:i=l.length:=by simp at h; omega
  subst h;rw[List.take_length] at hg;exact hK _ _ _ hg
theorem yp{vs:List aa}{ps:List Pt}(h:mB vs ps):∀l:List Ef,mB (vs++(l.map jt).flatten) (ps++l.map .ef):=by
 intro l
 induction l generalizing vs ps with
 |nil=>simpa using h
 |cons x l ih=>
  have:=ih (mB.snoc _ _ _ _ h (.ef x));simpa[jt] using this
theorem yS{vs:List aa}{ps:List Pt}(h:mB vs ps):∀l:List Nm,mB (vs++(l.map kS).flatten) (ps++l.map .nm):=by
 intro l
 induction l generalizing vs ps with
 |nil=>simpa using h
 |cons x l ih=>
  have:=ih (mB.snoc _ _ _ _ h (.nm (aP x) 0 x (Aw x)));simpa[kS] using this
theorem Et{vs:List aa}{ps:List Pt}(h:mB vs ps):∀l:List Cn,mB (vs++(l.map nU).flatten) (ps++l.map .cn):=by
 intro l
 induction l generalizing vs ps with
 |nil=>simpa using h
 |cons x l ih=>
  have:=ih (mB.snoc _ _ _ _ h (.cn (b_ x) 0 x (Es x)));simpa[nU] using this
theorem G_{α:Type}{f:α→List aa}(h:∀x,∃v,f x=[v]):∀l:List α,l.map f=((l.map f).flatten).map one
 |[]=>rfl
 |x::l=>by
  obtain⟨v,hv⟩:=h x;have:=G_ h l;simp only[List.map_cons,List.flatten_cons,hv,List.map_append,List.map_nil,one];rw[←this]; rfl
theorem Hk(l:List Ef):l.map jt=((l.map jt).flatten).map one:=G_ (λ_=>⟨_,rfl⟩) l
theorem Nh(l:List Nm):l.map kS=((l.map kS).flatten).map one:=G_ (λ_=>⟨_,rfl⟩) l
theorem S5(l:List Cn):l.map nU=((l.map nU).flatten).map one:=G_ (λ_=>⟨_,rfl⟩) l
theorem c208{S:Type}{enc:S→List aa}{step:S→Pt→S×Bool}{vq:aa}{b:Nat}(hc:GJ vq b enc step):∀(k:Nat) (p:Pt),(flat p).length≤k→p.fit=true→(flat p).length≤500000000→∀v,y9 v p→∀s σ K,ah σ b=.box (enc s) →
  (∀σ',Bt b σ σ'→ah σ' b=.box (enc (eA step s (flat p)).1)→K (.bool (eA step s (flat p)).2) σ')→g208 VV [v,vq] σ K
 |0,p,h,_,_=>by have:=O1 p; omega
 |k+1,p,hk,hf,hN=>by
  intro v hv s σ K hb hK;rw[MP] at hk hN hK;simp only[List.length_cons] at hk hN;have kH:=Jp p.kids;unfold g208;refine hc p v hv s σ _ hb (λσ1 t1 b1=>?_);simp only[eA] at hK;refine Za rfl (Zc (λh=>?_) (λh=>?_))
  ·have h:(step s p).2=false:=by simpa using h
   rw[h] at hK;exact hK σ1 t1 b1
  have h:(step s p).2=true:=by simpa using h
  rw[h,if_pos rfl] at hK;generalize (step s p).1=s1 at hK b1;refine Qk λk2 oV=>?_;have kk:∀v2 σ2 vs,mB vs p.kids→Gr σ1 1 (vs.map one) vs.length v2 σ2→k2 [v2] σ2:=by
   intro v2 σ2 vs hp hg;rw[oV]; clear oV k2;have hlen:=hp.length;have kG:=hg.sn b1 (by simp);have t2:Bt b σ1 σ2:=⟨hg.1,λc hc _=>hg.2.1 c hc⟩;refine Za (hg.EG.len _) ?_;refine Zl (ι:=Nat) (λi ws σ3=>∃s',ws=[iv i]∧i≤p.kids.length∧ah σ3 b=.box (enc s')∧Bt b σ2 σ3∧eA step s1 (cN p.kids)=eA step s' (cN (p.kids.drop i))) (λi=>p.kids.length-i) 0 ⟨s1,rfl,by omega,kG,Bt.refl _ _,by simp⟩ ?_;rintro i ws σ3 again ⟨s',rfl,hi,EO,t3,hr⟩ aM;refine Za rfl (Zc (λh=>?_) (λh=>?_))
   ·have h:i<vs.length:=by simpa using h
    have h':i<p.kids.length:=by omega
    have E2:cL 1 (vs.map one) vs.length v2 σ3:=by
     rcases hg.2.2 with h|⟨q1,c,q2,q3,q4,q5⟩
     ·exact .inl h
     ·refine .inr ⟨q1,c,q3,?_,q5⟩;have qV:c≠b:=by
       intro e; subst e;rw[kG] at q4; cases q4
      exact t3.sn q4 (by simp) qV
    obtain⟨c,e1,hj,e2⟩:=E2.at .i64 i h;refine Za e1 (Za (e2 false 1 vs[i] (by simp[one])) ?_);have nf:p.kids[i]∈p.kids:=List.getElem_mem h';have sP:=IZ nf;have cO:p.kids.drop i=p.kids[i]::p.kids.drop (i+1):=eD h';rw[cO,cN,Z6] at hr;refine Yu hP rfl lS rfl ?_;refine c208 hc k p.kids[i] (by omega) (T0 hf nf) (by omega) _ (hp.get i h h') s' σ3 _ EO (λσ4 t4 b4=>?_);refine Za rfl (Zc (λh5=>?_) (λh5=>?_))
    ·have h5:(eA step s' (flat p.kids[i])).2=false:=by simpa using h5
     rw[h5] at hr;have:=hK σ4 ((t1.trans t2).trans (t3.trans t4)) (by rw[hr]; exact b4);rw[hr] at this; exact this
    ·have h5:(eA step s' (flat p.kids[i])).2=true:=by simpa using h5
     rw[h5,if_pos rfl] at hr;refine Za (Xk ..) ?_;rw[Zf (n:=i) (by omega)];exact aM (i+1) _ _ (by omega) ⟨_,rfl,by omega,b4,t3.trans t4,hr⟩
   ·have h:i=p.kids.length:=by simp at h; omega
    subst h;rw[List.drop_length,cN,eA] at hr;have:=hK σ3 ((t1.trans t2).trans t3) (by rw[hr]; exact EO);rw[hr] at this; exact this
  clear oV hK hb hc;cases hv with
  |ef x=>
   refine Za rfl (Za rfl (Za rfl (Ye ?_)));refine Yt (row:=[.ay (aX x) 0]) rfl rfl rfl ?_;have hB:=Zi σ1 (ab.box [.ay (aX x) 0]);have bj:σ1.length<(σ1++[ab.box [.ay (aX x) 0]]).length:=by simp
   have kb:∀v2 σ2 vs,mB vs (Pt.ef x).kids→Gr (σ1++[ab.box [.ay (aX x) 0]]) 1 (vs.map one) vs.length v2 σ2→k2 [v2] σ2:=λv2 σ2 vs h1 h2=>kk v2 σ2 vs h1 h2.base;clear kk b1 t1;generalize σ1++[ab.box [.ay (aX x) 0]]=τ at hB bj kb ⊢;generalize σ1.length=c at hB bj ⊢;refine Za rfl (Za (ld hB rfl) (Za rfl (Za rfl (Za (aj (ba _)) ?_))));refine Qc (c210 _) rfl jc.plain rfl ?_;refine Qk λk14 zV=>?_;have k1:∀v σ2 vs,mB vs (if aU x.op then [.nm x.n] else [])→Gr τ 1 (vs.map one) vs.length v σ2→k14 [v] σ2:=by
    intro v σ2 vs hp hg;rw[zV]; clear zV k14;have dB:=hg.sn hB (by simp);have hvl:vs.length≤1:=by rw[hp.length]; split<;>simp
    refine Za rfl (Za (ld dB rfl) (Za rfl (Za rfl (Za (aj (ba _)) (Za (Qf ..) ?_)))));refine Zc (λh=>?_) (λh=>?_);rotate_left
    ·have h:¬x.op=8:=by simpa using h
     refine kb _ _ vs ?_ hg;simp only[Pt.kids,if_neg h,List.append_nil]; exact hp
    have h:x.op=8:=by simpa using h
    have uE:(Pt.ef x).kids=(if aU x.op then [.nm x.n] else [])++(.cn x.c::(x.bk.map .ef++x.br.map .ef)):=by simp only[Pt.kids,if_pos h]
    have iG:x.bk.length+x.br.length+1≤500000000:=by
     rw[uE] at kH;simp only[List.length_append,List.length_cons,List.length_map] at kH;rw[uE] at hN;omega
    refine Za rfl (Za (ld dB rfl) (Za rfl (Za rfl (Za rfl (Za rfl ?_)))));refine hg.put (cs:=[.iface 292 (.agg [.ay (aX x) 7])]) rfl rfl rfl (by omega) (λv' σ' nO=>?_);have kF:=nO.sn hB (by simp);refine Za rfl (Za (ld kF rfl) (Za rfl (Za rfl (Za (aj (Zr _)) ?_))));refine Za rfl (Za (ld kF rfl) (Za rfl (Za rfl (Za (aj (Yr _)) ?_))));refine Za rfl ?_;refine XF 3 (Xm (Za rfl (Ye (Za rfl ?_))));refine Za (v:=iv x.bk.length) (rd:=[]) (by simp[Yh]) ?_;refine NA x.bk (by omega) nO (λv3 σ3 w E2=>?_);refine Za rfl (Xm (Za rfl (Ye (Za rfl ?_))));refine Za (v:=iv x.br.length) (rd:=[]) (by simp[Yh]) ?_;refine NA x.br (by omega) E2 (λv4 σ4 w Y'=>?_);refine Za rfl (Xm (Za rfl (Xh ?_)));refine kb _ _ ((vs++[.iface 292 (.agg [.ay (aX x) 7])])++(x.bk.map jt).flatten++(x.br.map jt).flatten) ?_ ?_
    ·rw[uE];have:=yp (yp (mB.snoc _ _ _ _ hp (.cn (aX x) 7 x.c (yl x))) x.bk) x.br;simpa using this
    ·have e1:((vs++[aa.iface 292 (.agg [.ay (aX x) 7])])++(x.bk.map jt).flatten++(x.br.map jt).flatten).map one=List.map one vs++[[aa.iface 292 (.agg [.ay (aX x) 7])]]++List.map jt x.bk++List.map jt x.br:=by
      rw[List.map_append,List.map_append,←Hk,←Hk,List.map_append]; rfl
     have e2:((vs++[aa.iface 292 (.agg [.ay (aX x) 7])])++(x.bk.map jt).flatten++(x.br.map jt).flatten).length=vs.length+1+x.bk.length+x.br.length:=by
      have l1:=congrArg List.length (Hk x.bk);have l2:=congrArg List.length (Hk x.br);simp only[List.length_map] at l1 l2;simp only[List.length_append,List.length_cons,List.length_nil,←l1,←l2]
     rw[e1,e2]; exact Y'
   clear zV;refine Zc (λh=>?_) (λh=>?_)
   ·refine Za rfl (Za (ld hB rfl) (Za rfl (Za rfl (Za rfl (Za rfl ?_)))));refine(Gr.nil 1 τ).put (cs:=[.iface 290 (.agg [.ay (aX x) 2])]) rfl rfl rfl (by omega) (λv' σ' nO=>?_);refine k1 _ _ [.iface 290 (.agg [.ay (aX x) 2])] ?_ nO;rw[if_pos h];exact mB.snoc [] [] _ _ .nil (.nm (aX x) 2 x.n (yR x))
   ·refine k1 _ _ [] ?_ (Gr.nil 1 τ);rw[h]; exact .nil
  |nm row j x hx=>
   refine Za rfl (Za rfl (Za rfl (Xh ?_)));refine Za rfl (Za rfl (Za rfl (Ye ?_)));refine Yt (row:=[.ay row j]) rfl rfl rfl ?_;have hB:=Zi σ1 (ab.box [.ay row j]);have kb:∀v2 σ2 vs,mB vs (Pt.nm x).kids→Gr (σ1++[ab.box [.ay row j]]) 1 (vs.map one) vs.length v2 σ2→k2 [v2] σ2:=λv2 σ2 vs h1 h2=>kk v2 σ2 vs h1 h2.base;clear kk b1 t1;generalize σ1++[ab.box [.ay row j]]=τ at hB kb ⊢;generalize σ1.length=c at hB ⊢;have iG:x.kids.length≤500000000:=by
    simp only[Pt.kids,List.length_map] at kH hN; omega
   refine Za rfl (Za (ld hB rfl) (Za rfl (Za rfl (Za (aj hx.h3) ?_))));refine Za (v:=iv x.kids.length) (rd:=[]) (by simp[Yh]) ?_;refine Zl (ι:=Nat) (λi vs s=>∃v,vs=[iv i,v]∧i≤x.kids.length∧Gr τ 1 ((x.kids.take i).map kS) i v s) (λi=>x.kids.length-i) 0 ⟨_,rfl,by omega,by simpa using Gr.nil 1 τ⟩ ?_;rintro i vs s again ⟨v,rfl,hi,hg⟩ aM;refine Za rfl (Zc (λh=>?_) (λh=>?_))
   ·have h:i<x.kids.length:=by simpa using h
    refine Za rfl (Za (ld (hg.sn hB (by simp)) rfl) (Za rfl (Za rfl (Za (aj hx.h3) ?_))));refine Za (Zp _ aP _ _ _ x.kids _ i h) (Za rfl (Za rfl ?_));refine hg.put (cs:=kS x.kids[i]) rfl rfl rfl (by omega) (λv' σ' nO=>?_);refine Za (Xk ..) ?_;rw[Zf (n:=i) (by omega)];refine aM (i+1) _ _ (by omega) ⟨v',rfl,by omega,?_⟩;rw[←YE _ _ _ h]; exact nO
   ·have h:i=x.kids.length:=by simp at h; omega
    subst h;rw[List.take_length] at hg;refine kb _ _ (x.kids.map kS).flatten ?_ ?_
    ·have:=yS .nil x.kids;simpa[Pt.kids] using this
    ·have e1:=Nh x.kids;have e2:=congrArg List.length e1;rw[←e1];simp only[List.length_map] at e2;rw[←e2]; exact hg
  |cn row j x hx=>
   refine Za rfl (Za rfl (Za rfl (Xh ?_)));refine Za rfl (Za rfl (Za rfl (Xh ?_)));refine Za rfl (Za rfl (Za rfl (Ye ?_)));refine Yt (row:=[.ay row j]) rfl rfl rfl ?_;have hB:=Zi σ1 (ab.box [.ay row j]);have kb:∀v2 σ2 vs,mB vs (Pt.cn x).kids→Gr (σ1++[ab.box [.ay row j]]) 1 (vs.map one) vs.length v2 σ2→k2 [v2] σ2:=λv2 σ2 vs h1 h2=>kk v2 σ2 vs h1 h2.base;clear kk b1 t1;generalize σ1++[ab.box [.ay row j]]=τ at hB kb ⊢;generalize σ1.length=c at hB ⊢;have iG:x.aw.length+x.kids.length≤500000000:=by
    simp only[Pt.kids,List.length_map,List.length_append] at kH hN; omega
   refine Za rfl (Za (ld hB rfl) (Za rfl (Za rfl (Za (aj hx.h3) ?_))));refine Za (v:=iv x.aw.length) (rd:=[]) (by simp[Yh]) ?_;refine Zl (ι:=Nat) (λi vs s=>∃v,vs=[iv i,v]∧i≤x.aw.length∧Gr τ 1 ((x.aw.take i).map kS) i v s) (λi=>x.aw.length-i) 0 ⟨_,rfl,by omega,by simpa using Gr.nil 1 τ⟩ ?_;rintro i vs s again ⟨v,rfl,hi,hg⟩ aM;refine Za rfl (Zc (λh=>?_) (λh=>?_))
   ·have h:i<x.aw.length:=by simpa using h
    refine Za rfl (Za (ld (hg.sn hB (by simp)) rfl) (Za rfl (Za rfl (Za (aj hx.h3) ?_))));refine Za (Zp _ aP _ _ _ x.aw _ i h) (Za rfl (Za rfl ?_));refine hg.put (cs:=kS x.aw[i]) rfl rfl rfl (by omega) (λv' σ' nO=>?_);refine Za (Xk ..) ?_;rw[Zf (n:=i) (by omega)];refine aM (i+1) _ _ (by omega) ⟨v',rfl,by omega,?_⟩;rw[←YE _ _ _ h]; exact nO
   have h:i=x.aw.length:=by simp at h; omega
   subst h;rw[List.take_length] at hg;clear aM;refine Za rfl (Za (ld (hg.sn hB (by simp)) rfl) (Za rfl (Za rfl (Za (aj hx.h4) ?_))));refine Za (v:=iv x.kids.length) (rd:=[]) (by simp[Yh]) ?_;refine Zl (ι:=Nat) (λi vs s=>∃v,vs=[iv i,v]∧i≤x.kids.length∧Gr τ 1 (x.aw.map kS++(x.kids.take i).map nU) (x.aw.length+i) v s) (λi=>x.kids.length-i) 0 ⟨_,rfl,by omega,by simpa[h1,pC,gO] using hg⟩ ?_;clear hg;rintro i vs s again ⟨v,rfl,hi,hg⟩ aM;refine Za rfl (Zc (λh=>?_) (λh=>?_))
   ·have h:i<x.kids.length:=by simpa using h
    refine Za rfl (Za (ld (hg.sn hB (by simp)) rfl) (Za rfl (Za rfl (Za (aj hx.h4) ?_))));refine Za (Zp _ b_ _ _ _ x.kids _ i h) (Za rfl (Za rfl ?_));refine hg.put (cs:=nU x.kids[i]) rfl rfl rfl (by omega) (λv' σ' nO=>?_);refine Za (Xk ..) ?_;rw[Zf (n:=i) (by omega)];refine aM (i+1) _ _ (by omega) ⟨v',rfl,by omega,?_⟩;rw[←YE _ _ _ h,←List.append_assoc]; exact nO
   ·have h:i=x.kids.length:=by simp at h; omega
    subst h;rw[List.take_length] at hg;refine kb _ _ ((x.aw.map kS).flatten++(x.kids.map nU).flatten) ?_ ?_
    ·have:=Et (yS .nil x.aw) x.kids;simpa[Pt.kids] using this
    ·have e1:((x.aw.map kS).flatten++(x.kids.map nU).flatten).map one=x.aw.map kS++x.kids.map nU:=by
      rw[List.map_append,←Nh,←S5]
     have e2:=congrArg List.length e1;simp only[List.length_map,List.length_append] at e2;rw[e1,List.length_append,e2]; exact hg
end Go.Ah.Tz
end
section
namespace Go.Ah.Tz
open Go.Proofs.Tryz (prog)
mutual
theorem Oq:∀x:Nm,nQ x=min ((sZ x).length:Int) 1073741824
 |.mk op n aB kids=>by
  simp only[nQ,sZ,List.length_cons]
  rw[JG 1 kids (by omega) (by omega)]; omega
theorem JG:∀(n:Int) (l:List Nm),0≤n→n≤1073741824→iN n l=min (n+((nF l).length:Int)) 1073741824
 |n,[],h1,h2=>by simp only[iN,nF,List.length_nil]; omega
 |n,x::l,h1,h2=>by
  simp only[iN,nF,List.length_append]
  rw[Oq x,JG _ l (by omega) (by omega)]; omega
end
mutual
theorem Pr:∀x:Cn,nV x=min ((te x).length:Int) 1073741824
 |.mk op aB name aw kids=>by
  simp only[nV,te,List.length_cons,List.length_append]
  rw[JG 1 aw (by omega) (by omega),MH _ kids (by omega) (by omega)]; omega
theorem MH:∀(n:Int) (l:List Cn),0≤n→n≤1073741824→mP n l=min (n+((nT l).length:Int)) 1073741824
 |n,[],h1,h2=>by simp only[mP,nT,List.length_nil]; omega
 |n,x::l,h1,h2=>by
  simp only[mP,nT,List.length_append]
  rw[Pr x,MH _ l (by omega) (by omega)]; omega
end
mutual
theorem EA:∀(n:Int) (x:Ef),0≤n→n≤1073741824→zq n x=min (n+((tZ x).length:Int)) 1073741824
 |n,.mk op aB nn name c bk br,h1,h2=>by
  simp only[zq,tZ,List.length_cons,List.length_append]
  rw[Oq nn,Pr c,CY 0 bk (by omega) (by omega),CY 0 br (by omega) (by omega)]
  generalize aU op=cb
  by_cases h:op=8
  ·simp only[if_pos h]
   cases cb<;>simp only[if_true,if_false,List.length_append,List.length_nil,Bool.false_eq_true]<;>omega
  ·simp only[if_neg h]
   cases cb<;>simp only[if_true,if_false,List.length_nil,Bool.false_eq_true]<;>omega
theorem CY:∀(n:Int) (l:List Ef),0≤n→n≤1073741824→dU n l=min (n+((fy l).length:Int)) 1073741824
 |n,[],h1,h2=>by simp only[dU,fy,List.length_nil]; omega
 |n,x::l,h1,h2=>by
  simp only[dU,fy,List.length_append]
  rw[EA n x h1 h2,CY _ l (by omega) (by omega)]; omega
end
def tV(c:Cd):List Pt:=fy c.bB++(fy c.dead++fy c.eh)
theorem Ep(c:Cd):qF c=min ((tV c).length:Int) 1073741824:=by
 rw[qF,CY 0 _ (by omega) (by omega),CY 0 _ (by omega) (by omega),CY 0 _ (by omega) (by omega),tV];simp only[List.length_append]; omega
attribute [local irreducible] al.rd al.pu al.wr al.dr al.gr al.gw al.gl al.gd al.opt au W
set_option maxHeartbeats 1000000
theorem Tg(l:List Ef):fy l=cN (l.map .ef):=(DQ l).symm
theorem IJ{S:Type}{enc:S→List aa}{step:S→Pt→S×Bool}{vq:aa}{b:Nat}(hc:GJ vq b enc step)(l:List Ef)(hf:bA l=true)(hN:(fy l).length≤500000000){s:S}{σ:List ab}(hb:ah σ b=.box (enc s)){R:List ab→Prop}{K:List aa→List ab→Prop}
 (hR:∀σ',Bt b σ σ'→ah σ' b=.box (enc (eA step s (fy l)).1)→(eA step s (fy l)).2=false→R σ')(hK:∀w σ',Bt b σ σ'→ah σ' b=.box (enc (eA step s (fy l)).1)→(eA step s (fy l)).2=true→K w σ') :
  VV.loop (λJ1 v16 σ=>VV.rd (Yj .lss false [(h0 v16),iv l.length] σ) λrC=>VV.test rC (
   VV.rd (Yb 14 [ju l,(h0 v16)] σ) λAQ=>VV.rd (Qe [.bQ] [(0,1)] [AQ] σ) λAV=>VV.rd (YC 272 [AV] σ) λAX=>
   VV.call (.call 208) [AX,vq] σ λA1 σ=>VV.rd (Xp .not [A1] σ) λA4=>VV.test A4 (R σ) (
   VV.rd (Yj .add false [(h0 v16),(.int .i64 1)] σ) λA6=>J1 [A6] σ)) (K v16 σ)) [(.int .i64 0)] σ:=by
 have hl:=Jp (l.map .ef);rw[DQ,List.length_map] at hl;rw[Tg] at hR hK;refine Zl (ι:=Nat) (λi ws σ3=>∃s',ws=[iv i]∧i≤l.length∧ah σ3 b=.box (enc s')∧Bt b σ σ3∧eA step s (cN (l.map .ef))=eA step s' (cN ((l.drop i).map .ef))) (λi=>l.length-i) 0 ⟨s,rfl,by omega,hb,Bt.refl _ _,by simp⟩ ?_;rintro i ws σ3 again ⟨s',rfl,hi,EO,t3,hr⟩ aM;refine Za rfl (Zc (λh=>?_) (λh=>?_))
 ·have h:i<l.length:=by simpa using h
  refine Za (Zp _ aX _ _ _ l _ i h) (Za rfl (Za rfl ?_));have cO:l.drop i=l[i]::l.drop (i+1):=eD h;rw[cO,List.map_cons,cN,Z6] at hr;refine Yu hP rfl lS rfl ?_;have hm:=IZ (l:=l.map .ef) (p:=.ef l[i]) (List.mem_map_of_mem (List.getElem_mem h));rw[DQ] at hm;refine c208 hc _ (.ef l[i]) (Nat.le_refl _) (QN hf (List.getElem_mem h)) (by omega) _ (.ef _) s' σ3 _ EO (λσ4 t4 b4=>?_);refine Za rfl (Zc (λh5=>?_) (λh5=>?_))
  ·have h5:(eA step s' (flat (.ef l[i]))).2=false:=by simpa using h5
   rw[h5] at hr;exact hR σ4 (t3.trans t4) (by rw[hr]; exact b4) (by rw[hr]; rfl)
  ·have h5:(eA step s' (flat (.ef l[i]))).2=true:=by simpa using h5
   rw[h5,if_pos rfl] at hr;refine Za (Xk ..) ?_;rw[Zf (n:=i) (by omega)];exact aM (i+1) _ _ (by omega) ⟨_,rfl,by omega,b4,t3.trans t4,hr⟩
 ·have h:i=l.length:=by simp at h; omega
  subst h;rw[List.drop_length,List.map_nil,cN,eA] at hr;exact hK _ σ3 t3 (by rw[hr]; exact EO) (by rw[hr])
theorem c155{S:Type}{enc:S→List aa}{step:S→Pt→S×Bool}{vq:aa}{b:Nat}(hc:GJ vq b enc step)(c:Cd)(f1:bA c.bB=true)(f2:bA c.dead=true)(f3:bA c.eh=true)(hN:(tV c).length≤500000000){s:S}{σ:List ab}{cb:Nat}(qV:ah σ cb=.box (cD c))(hb:ah σ b=.box (enc s)){K:aa→List ab→Prop}
 (hK:∀σ',Bt b σ σ'→ah σ' b=.box (enc (eA step s (tV c)).1)→K (.aG []) σ'):g155 VV [.an cb 0,vq] σ K:=by
 simp only[tV,List.length_append] at hN;simp only[tV,Z6] at hK;unfold g155;refine Za rfl (Za rfl (Za (ld qV rfl) (Za rfl (Za rfl (Za (ld qV rfl) (Za rfl (Za rfl (Za (ld qV rfl) (Za rfl ?_)))))))));refine XF 4 (Xm (Za rfl (Ye (Za rfl ?_))));refine Za (v:=iv c.bB.length) (rd:=[]) (by simp[Yh]) ?_;refine IJ hc c.bB f1 (by omega) hb (λσ1 t1 b1 h1=>?_) (λw σ1 t1 b1 h1=>?_)
 ·rw[h1] at hK; exact hK σ1 t1 b1
 rw[h1,if_pos rfl] at hK;refine Za rfl (Xm (Za rfl (Ye (Za rfl ?_))));refine Za (v:=iv c.dead.length) (rd:=[]) (by simp[Yh]) ?_;refine IJ hc c.dead f2 (by omega) b1 (λσ2 t2 b2 h2=>?_) (λw σ2 t2 b2 h2=>?_)
 ·rw[h2] at hK; exact hK σ2 (t1.trans t2) b2
 rw[h2,if_pos rfl] at hK;refine Za rfl (Xm (Za rfl (Ye (Za rfl ?_))));refine Za (v:=iv c.eh.length) (rd:=[]) (by simp[Yh]) ?_;refine IJ hc c.eh f3 (by omega) b2 (λσ3 t3 b3 h3=>?_) (λw σ3 t3 b3 h3=>?_)
 ·exact hK σ3 ((t1.trans t2).trans t3) b3
 refine Za rfl (Xm (Za rfl (Xh ?_)));exact hK σ3 ((t1.trans t2).trans t3) b3
def zo(n:Int)(_:Pt):Int×Bool:=(IntKind.i64.wrap (n+1),decide (IntKind.i64.wrap (n+1)<1073741824))
theorem MR:∀(l:List Pt) (n:Int),0≤n→n+(l.length:Int)<1073741824→eA zo n l=(n+(l.length:Int),true)
 |[],n,_,_=>by simp[eA]
 |p::l,n,h1,h2=>by
  simp only[List.length_cons] at h2;have hw:IntKind.i64.wrap (n+1)=n+1:=aY (by omega) (by omega);simp only[eA,zo,hw];rw[if_pos (by simp; omega),MR l (n+1) (by omega) (by omega),List.length_cons]
  congr 1; omega
theorem zn(b:Nat):GJ (.func (.func 156) [] [.an b 0]) b (λn:Int=>[iv n]) zo:=by
 intro p v hv s σ K hb hK;refine Yu hP rfl ou rfl ?_;show g156 VV [v,.an b 0] σ K;unfold g156;have bj:=Qh hb (by simp);refine Za (ld hb rfl) (Za (Xk ..) (Ze (iy hb rfl rfl rfl) (Xn _ bj) ?_));have kG:ah (σ.set b (.box [iv (IntKind.i64.wrap (s+1))])) b=.box [iv (IntKind.i64.wrap (s+1))]:=Xj _ bj;refine Za (ld kG rfl) (Za (Qv ..) ?_);exact hK _ ⟨by simp,λc hc dL=>Yi _ hc dL⟩ kG
theorem c124(c:Cd)(f1:bA c.bB=true)(f2:bA c.dead=true)(f3:bA c.eh=true)(hN:(tV c).length≤500000000):PC 124 [.agg (cD c)] (iv (qF c)):=by
 refine Qd hP lE rfl rfl ?_;unfold g124;refine Ze rfl rfl (Ze rfl rfl (Ze rfl rfl (Za rfl ?_)));refine Yu hP rfl ot rfl ?_;refine c155 (zn 1) c f1 f2 f3 hN (s:=0) rfl rfl (λσ' _ hb=>?_);rw[MR _ 0 (by omega) (by omega)] at hb;refine Za (ld hb rfl) ?_;rw[Ep]
 congr 1; omega
end Go.Ah.Tz
end
section
namespace Go.Ah.Tz
open Go.Proofs.Tryz (prog)
attribute [local irreducible] al.rd al.pu al.wr al.dr al.gr al.gw al.gl al.gd al.opt au W
set_option maxHeartbeats 1000000
theorem Mp(σ:List ab)(x:Ef):Zm [.agg (aX x)] σ=.ok (.an σ.length 0) [] [(σ.length,.box (aX x))]:=by rw[QH]; rfl
def dI{α:Type}(f:α→Bool):List α→Int→Int
 |[],_=>-1
 |x::l,n=>if f x=true then n else dI f l (n+1)
theorem Ir{α:Type}(f:α→Bool):∀(l:List α) (n:Int),0≤n→decide (0≤dI f l n)=l.any f
 |[],_,_=>rfl
 |x::l,n,h=>by
  by_cases hf:f x=true
  ·have e:dI f (x::l) n=n:=if_pos hf;rw[e,List.any_cons,hf]; simpa using h
  ·have e:dI f (x::l) n=dI f l (n+1):=if_neg hf;have H6:f x=false:=by simpa using hf
   rw[e,Ir f l (n+1) (by omega),List.any_cons,H6]; rfl
theorem TV{P:Program}{GL:aA}{c d:Bool}{K:aa→Prop}{r1:az}{f2 f3 f4:aa→az}{σ:List ab}{v1 v2 v3:aa}{q1 q2 q3 q4:List Nat}(h1:r1=.ok v1 q1 [])(h2:f2 v1=.ok v2 q2 [])(h3:f3 v2=.ok v3 q3 [])(h4:f4 v3=.ok (.bool d) q4 [])(hK:K (.bool (c&&d))) :
  (W P GL).gr (.bool c) true (λk=>(W P GL).rd r1 k) λt1=>(W P GL).gr (.bool c) true (λk=>(W P GL).rd (f2 t1) k) λt2=>(W P GL).gr (.bool c) true (λk=>(W P GL).rd (f3 t2) k) λt3=>(W P GL).gr (.bool c) true (λk=>(W P GL).rd (f4 t3) k) λt4=>(W P GL).rd (Xo [.bool c,t4,.bool false] σ) K:=by
 cases c with
 |true=>exact Xa (Za h1 (Xa (Za h2 (Xa (Za h3 (Xa (Za h4 (Za rfl hK))))))))
 |false=>exact Qb rfl (Qb rfl (Qb rfl (Qb rfl (Za rfl hK))))
theorem c255(l:List Ef)(hl:l.length≤fO)(id:FuncId)(fs cs:List aa)(hp:Xl prog id=true)(f:Ef→Bool)(hc:∀x∈l,PC id (fs++[.agg (aX x)]++cs) (.bool (f x)))(hr:∀x,el (fs++[.agg (aX x)]++cs)=true) :
  PC 255 [ju l,.func (.func id) fs cs] (iv (dI f l 0)):=by
 rw[cM] at hl;refine Qd hP mi rfl rfl ?_;unfold g255;refine Za (v:=iv l.length) (rd:=[]) (by simp[Yh]) ?_;refine Zl (ι:=Nat) (λi vs s=>vs=[iv i]∧i≤l.length∧dI f l 0=dI f (l.drop i) i) (λi=>l.length-i) 0 ⟨rfl,by omega,by simp⟩ ?_;rintro i vs s again ⟨rfl,hi,jh⟩ aM;refine Za rfl (Zc (λh=>?_) (λh=>?_))
 ·have h:i<l.length:=by simpa using h
  refine Za (Zp _ aX _ _ _ l _ i h) (Za (aj (vP _)) ?_);refine Qc (hc _ (List.getElem_mem h)) rfl hp (hr _) ?_;rw[eD h,dI] at jh;refine Zc (λh2=>?_) (λh2=>?_)
  ·rw[if_pos h2] at jh; rw[jh]; rfl
  ·rw[if_neg (by rw[h2]; simp)] at jh;refine Za (Xk ..) ?_;rw[Zf (n:=i) (by omega)];exact aM (i+1) _ _ (by omega) ⟨rfl,by omega,by rw[jh]; push_cast; rfl⟩
 ·have h:i=l.length:=by simp at h; omega
  subst h;rw[List.drop_length,dI] at jh;rw[jh]
theorem c239(l:List Ef)(hl:l.length≤fO)(id:FuncId)(fs cs:List aa)(hp:Xl prog id=true)(f:Ef→Bool)(hc:∀x∈l,PC id (fs++[.agg (aX x)]++cs) (.bool (f x)))(hr:∀x,el (fs++[.agg (aX x)]++cs)=true)(tt:el [ju l,.func (.func id) fs cs]=true) :
  PC 239 [ju l,.func (.func id) fs cs] (.bool (l.any f)):=by
 refine Qd hP ma rfl rfl ?_;unfold g239;refine Qc (c255 l hl id fs cs hp f hc hr) rfl mi.plain tt ?_;refine Za (sE ..) ?_;rw[Ir f l 0 (by omega)]
def tK(u:Int):List aa:=[.func (.func 235) [.agg [ar u]] [],.func (.func 235) [.agg [ar u]] [],.func (.func 235) [.agg [ar u]] [],.func (.func 235) [.agg [ar u]] [],.func (.func 236) [.agg [ar u]] [],.func (.func 237) [.agg [ar u]] [],.func (.func 236) [.agg [ar u]] [],.func (.func 236) [.agg [ar u]] [],.func (.func 238) [.agg [ar u]] []]
theorem c240(u:Int)(x:Ef)(hf:cX x=true)(h238:x.op=8→PC 238 [.agg [ar u],.agg (aX x)] (.bool (pO u x))):PC 240 [.agg (aX x),.ay [ar u] 0,.ay (tK u) 0] (.bool (!pO u x)):=by
 have qy:=Vn hf;refine Qd hP mc rfl rfl ?_;unfold g240;refine Ze (Mp _ _) rfl (Za rfl (Za rfl (Za rfl (Za (ld rfl (ba x)) (Za (sE ..) ?_)))));have p235:x.op=0∨x.op=1∨x.op=2∨x.op=3→PC 235 [.agg [ar u],.agg (aX x)] (.bool (pO u x)):=by
  intro h;have e:pO u x=decide (bP u (rr x.n)=0):=by rw[D3,if_neg (by omega),if_neg (by omega),if_pos h]
  rw[e]; exact c235 u x hf
 have p236:¬(x.op=0∨x.op=1∨x.op=2∨x.op=3)→x.op≠5→x.op≠8→PC 236 [.agg [ar u],.agg (aX x)] (.bool (pO u x)):=by
  intro h h5 h8;have e:pO u x=decide (kJ u=0):=by rw[D3,if_neg h5,if_neg h8,if_neg h,NW]
  rw[e]; exact c236 u x
 have p237:x.op=5→PC 237 [.agg [ar u],.agg (aX x)] (.bool (pO u x)):=by
  intro h;have e:pO u x=CZ (bP u (rr x.n)) 1:=by rw[D3,if_pos h]
  rw[e]; exact c237 u x hf
 refine TV rfl (ld rfl (ba x)) rfl (Qv ..) ?_;rw[aY (n:=x.op) (by omega) (by omega)];refine Qk λk11 jB=>?_;have hk:∀id,Xl prog id=true→PC id [.agg [ar u],.agg (aX x)] (.bool (pO u x))→k11 [.func (.func id) [.agg [ar u]] []] [.box (aX x)]:=by
  intro id hp hc;rw[jB];refine Za (ld rfl (vP x)) ?_;refine Qc hc rfl hp (Kj u x) ?_;exact Za rfl rfl
 clear jB;refine Zc (λh=>?_) (λh=>?_)
 ·have h:0≤x.op∧x.op<9:=by simpa using h
  refine Za rfl (Za (ld rfl (ba x)) ?_);have jA:x.op=0∨x.op=1∨x.op=2∨x.op=3∨x.op=4∨x.op=5∨x.op=6∨x.op=7∨x.op=8:=by omega
  rcases jA with e|e|e|e|e|e|e|e|e
  ·have q:=p235 (by omega); rw[e]; exact Za rfl (Za rfl (hk _ gW.plain q))
  ·have q:=p235 (by omega); rw[e]; exact Za rfl (Za rfl (hk _ gW.plain q))
  ·have q:=p235 (by omega); rw[e]; exact Za rfl (Za rfl (hk _ gW.plain q))
  ·have q:=p235 (by omega); rw[e]; exact Za rfl (Za rfl (hk _ gW.plain q))
  ·have q:=p236 (by omega) (by omega) (by omega); rw[e]; exact Za rfl (Za rfl (hk _ gX.plain q))
  ·have q:=p237 e; rw[e]; exact Za rfl (Za rfl (hk _ lZ.plain q))
  ·have q:=p236 (by omega) (by omega) (by omega); rw[e]; exact Za rfl (Za rfl (hk _ gX.plain q))
  ·have q:=p236 (by omega) (by omega) (by omega); rw[e]; exact Za rfl (Za rfl (hk _ gX.plain q))
  ·have q:=h238 e; rw[e]; exact Za rfl (Za rfl (hk _ l_.plain q))
 ·have h:0≤x.op→¬x.op<9:=by simpa using h
  exact hk _ gX.plain (p236 (by omega) (by omega) (by omega))
theorem c238(u:Int)(x:Ef)(hf:cX x=true)(h1:∀u',PC 222 [.agg [ar u'],ju x.bk] (.bool (cq u' x.bk)))(h2:∀u',PC 222 [.agg [ar u'],ju x.br] (.bool (cq u' x.br))) :
  PC 238 [.agg [ar u],.agg (aX x)] (.bool (cq (bP u (nM x.c)) x.bk&&cq (bP u (nM x.c)) x.br)):=by
 refine Qd hP l_ rfl rfl ?_;unfold g238;refine Ze rfl rfl (Ze (Mp _ _) rfl (Zk rfl (Yk rfl rfl (Zk rfl (Yk (ld rfl (rM x)) rfl ?_)))));refine Qn (c254 _ (YZ hf)) rfl ko.plain (pK _) ?_;refine Qn (c250 _ _) rfl eM.plain rfl ?_;refine Zk rfl (Yk rfl rfl (Yk rfl rfl (XJ (by kernel_rfl) ?_)));refine Za rfl (Za rfl (Za (ld rfl (Zr x)) ?_));refine Qc (h1 _) rfl gg.plain rfl ?_;rcases aL (cq (bP u (nM x.c)) x.bk) with h|h
 ·rw[h];refine Xa (Za rfl (Xa (Za rfl (Xa (Za (ld rfl (Yr x)) (Zb ?_))))));refine Qc (h2 _) rfl gg.plain rfl ?_;exact Za rfl rfl
 ·rw[h];exact Qb rfl (Qb rfl (Qb rfl (Yc rfl (Za rfl rfl))))
theorem N7(u:Int):∀l,cq u l=l.all (pO u)
 |[]=>rfl
 |x::l=>by simp[cq,N7 u l]
theorem tO:∀(k:Nat) (l:List Ef) (u:Int),SizeOf.sizeOf l≤k→bA l=true→PC 222 [.agg [ar u],ju l] (.bool (cq u l))
 |0,l,_,h,_=>by cases l<;>simp at h
 |k+1,l,u,hk,hf=>by
  refine Qd hP gg rfl rfl ?_;unfold g222;refine Ze rfl rfl (Za rfl (Za rfl (Za rfl (Za rfl (Za rfl (Za rfl (Za rfl (Za rfl (Za rfl (Za rfl (Za rfl (Za rfl (Za rfl (Za rfl (Za rfl (Za rfl (Za rfl (Za rfl (Za rfl (Ze rfl rfl (Ze rfl rfl (Za rfl ?_))))))))))))))))))))));have hc:∀x∈l,PC 240 ([]++[.agg (aX x)]++[.ay [ar u] 0,.ay (tK u) 0]) (.bool (!pO u x)):=by
   intro x hx;have jg:=QN hf hx;refine c240 u x jg (λh8=>?_);have e:pO u x=(cq (bP u (nM x.c)) x.bk&&cq (bP u (nM x.c)) x.br):=by rw[D3,if_neg (by omega),if_pos h8]
   have hs:=List.sizeOf_lt_of_mem hx;have o_:=ZX x;rw[e];exact c238 u x jg (λu'=>tO k x.bk u' (by omega) (QI jg)) (λu'=>tO k x.br u' (by omega) (XI jg))
  refine YB (c239 l (ZC hf) 240 [] [.ay [ar u] 0,.ay (tK u) 0] mc.plain (λx=>!pO u x) hc (λx=>by rw[QH]; rfl) rfl) rfl ma.plain rfl rfl ?_;refine Za rfl ?_;rw[N7]
  congr 1
  simp only[List.any_eq_not_all_not,Bool.not_not]
theorem c222(l:List Ef)(u:Int)(hf:bA l=true):PC 222 [.agg [ar u],ju l] (.bool (cq u l)):=tO _ l u (Nat.le_refl _) hf
theorem c182(cs:List Cd)(hf:YS cs=true):PC 182 [gG cs] (.agg [iv (gH cs).1,iv (gH cs).2]):=by
 simp only[YS,Bool.and_eq_true,decide_eq_true_eq] at hf;obtain⟨f0,f1⟩:=hf;rw[cM] at f0;refine Qd hP lM rfl rfl ?_;unfold g182;refine Ze rfl rfl (Za rfl (Ze rfl rfl (Ze rfl rfl ?_)));refine Za (v:=iv cs.length) (rd:=[]) (by simp[Yh]) ?_;refine Zl (ι:=Nat) (λi vs σ=>vs=[iv i]∧ah σ 0=.box [iv 0,iv 0]∧ah σ 1=.box [ar 0]∧0<σ.length∧i≤cs.length∧gH cs=gH (cs.drop i)) (λi=>cs.length-i) 0 ⟨rfl,rfl,rfl,by simp,by omega,by simp⟩ ?_;rintro i vs σ again ⟨rfl,hz,ho,uR,hi,hu⟩ aM;refine Za rfl ?_;refine Zc (λh=>?_) (λh=>?_);rotate_left
 ·have h:i=cs.length:=by simp at h; omega
  subst h;rw[List.drop_length,gH] at hu;refine Za rfl (Ze (iy hz rfl rfl rfl) (Xn _ uR) (Ql (YI uR rfl) ?_));rw[hu]
 have hi:i<cs.length:=by simpa using h
 have cO:cs.drop i=cs[i]::cs.drop (i+1):=by rw[eD hi]
 have bW:=λ(s:List ab)=>Zp s cD false false 12 cs .i64 i hi;have vv:=List.all_eq_true.1 f1 _ (List.getElem_mem hi);generalize cs[i]=c at cO bW vv;rw[cO,gH] at hu;simp only[gE,Bool.and_eq_true,decide_eq_true_eq] at vv;obtain⟨g0,g1,g2,g3⟩:=vv;refine Za (bW _) (Za (aj (pJ _)) (Yt (row:=cD c) (row':=cD c) rfl rfl rfl ?_));have aC:=Zi σ (ab.box (cD c));have rl:ah (σ++[ab.box (cD c)]) 0=.box [iv 0,iv 0]:=Zg _ hz (by simp);have dV:ah (σ++[ab.box (cD c)]) 1=.box [ar 0]:=Zg _ ho (by simp);have pe:0<(σ++[ab.box (cD c)]).length:=by simp
 generalize σ++[ab.box (cD c)]=base at aC rl dV pe ⊢;generalize σ.length=b at aC ⊢;clear hz uR ho;refine Za (ld dV rfl) (Za rfl (Za (ld aC rfl) ?_));refine Qc (c222 _ 0 g1) rfl gg.plain rfl ?_;refine Za rfl ?_;apply nW (rK c=false)
 ·intro hR;have sL:rK c=true→VV.rd (Yj .add false [iv i,(.int .i64 1)] base) λrA=>again [rA] base:=by
   intro hc;rw[hc,if_pos rfl] at hu;refine Za (Xk ..) ?_;rw[Zf (n:=i) (by omega)];exact aM (i+1) _ _ (by omega) ⟨rfl,rl,dV,pe,by omega,hu⟩
  rcases aL (!cq 0 c.bB) with a1|a1
  ·rw[a1];repeat first|refine Xa ?_|refine Zb ?_|refine Qb rfl ?_|refine Yc rfl ?_|refine Yd rfl ?_|refine Xd rfl ?_|refine Za (ld aC rfl) ?_|refine Za rfl ?_
   refine Ye (hR ?_);have a1:cq 0 c.bB=false:=by simpa using a1
   simp[rK,a1]
  rw[a1];repeat first|refine Xa ?_|refine Zb ?_|refine Za (ld dV rfl) ?_|refine Za (ld aC rfl) ?_|refine Za rfl ?_
  have a1:cq 0 c.bB=true:=by simpa using a1
  refine Qc (c222 _ 0 g2) rfl gg.plain rfl ?_;repeat first|refine Xa ?_|refine Zb ?_|refine Za (ld dV rfl) ?_|refine Za (ld aC rfl) ?_|refine Za rfl ?_
  rcases aL (!cq 0 c.dead) with a2|a2
  ·rw[a2];repeat first|refine Xa ?_|refine Zb ?_|refine Qb rfl ?_|refine Yc rfl ?_|refine Yd rfl ?_|refine Xd rfl ?_|refine Za (ld aC rfl) ?_|refine Za rfl ?_
   refine Ye (hR ?_);have a2:cq 0 c.dead=false:=by simpa using a2
   simp[rK,a2]
  rw[a2];repeat first|refine Xa ?_|refine Zb ?_|refine Za (ld dV rfl) ?_|refine Za (ld aC rfl) ?_|refine Za rfl ?_
  have a2:cq 0 c.dead=true:=by simpa using a2
  refine Qc (c222 _ 0 g3) rfl gg.plain rfl ?_;repeat first|refine Xa ?_|refine Zb ?_|refine Za (ld aC rfl) ?_|refine Za rfl ?_
  refine Zc (λa3=>hR ?_) (λa3=>sL ?_)
  ·have a3:cq 0 c.eh=false:=by simpa using a3
   simp[rK,a3]
  ·have a3:cq 0 c.eh=true:=by simpa using a3
   simp[rK,a1,a2,a3]
 intro hc;rw[hc] at hu
 replace hu:gH cs=(140,c.pl):=hu
 refine Za rfl (Za (ld aC rfl) (Za rfl (Ze (iy rl rfl rfl rfl) (Xn _ pe) (Ql (YI pe rfl) ?_))));rw[hu]
theorem c259(l:List Cd)(hl:l.length≤fO)(id:FuncId)(fs cs:List aa)(hp:Xl prog id=true)(f:Cd→Bool)(hc:∀x∈l,PC id (fs++[.agg (cD x)]++cs) (.bool (f x)))(hr:∀x,el (fs++[.agg (cD x)]++cs)=true) :
  PC 259 [gG l,.func (.func id) fs cs] (iv (dI f l 0)):=by
 rw[cM] at hl;refine Qd hP mn rfl rfl ?_;unfold g259;refine Za (v:=iv l.length) (rd:=[]) (by simp[Yh]) ?_;refine Zl (ι:=Nat) (λi vs s=>vs=[iv i]∧i≤l.length∧dI f l 0=dI f (l.drop i) i) (λi=>l.length-i) 0 ⟨rfl,by omega,by simp⟩ ?_;rintro i vs s again ⟨rfl,hi,jh⟩ aM;refine Za rfl (Zc (λh=>?_) (λh=>?_))
 ·have h:i<l.length:=by simpa using h
  refine Za (Zp _ cD _ _ _ l _ i h) (Za (aj (pJ _)) ?_);refine Qc (hc _ (List.getElem_mem h)) rfl hp (hr _) ?_;rw[eD h,dI] at jh;refine Zc (λh2=>?_) (λh2=>?_)
  ·rw[if_pos h2] at jh; rw[jh]; rfl
  ·rw[if_neg (by rw[h2]; simp)] at jh;refine Za (Xk ..) ?_;rw[Zf (n:=i) (by omega)];exact aM (i+1) _ _ (by omega) ⟨rfl,by omega,by rw[jh]; push_cast; rfl⟩
 ·have h:i=l.length:=by simp at h; omega
  subst h;rw[List.drop_length,dI] at jh;rw[jh]
theorem Pu(t:Tx):∀(l:List Cd) (n:Nat),((fJ n l t).2=true∧n≤(fJ n l t).1∧(fJ n l t).1<n+l.length∧dI (λc=>c.name==t) l (n:Int)=((fJ n l t).1:Int))∨((fJ n l t)=(0,false)∧dI (λc=>c.name==t) l (n:Int) = -1)
 |[],n=>.inr ⟨rfl,rfl⟩
 |c::l,n=>by
  by_cases h:c.name==t
  ·left;have e1:fJ n (c::l) t=(n,true):=if_pos h;have e2:dI (λc:Cd=>c.name==t) (c::l) (n:Int)=n:=if_pos h;rw[e1,e2]; simp
  ·have e1:fJ n (c::l) t=fJ (n+1) l t:=if_neg h;have e2:dI (λc:Cd=>c.name==t) (c::l) (n:Int)=dI (λc:Cd=>c.name==t) l ((n+1:Nat):Int):=by
    have:=(if_neg h:(if (c.name==t)=true then (n:Int) else dI (λc:Cd=>c.name==t) l ((n:Int)+1))=_)
    push_cast; exact this
   rw[e1,e2];rcases Pu t l (n+1) with ⟨q1,q2,q3,q4⟩|q
   ·exact .inl ⟨q1,by omega,by simp; omega,q4⟩
   ·exact .inr q
theorem c244(c:Cd)(t:Tx):PC 244 [.agg (cD c),.ay [.str t] 0] (.bool (c.name==t)):=by
 refine Qd hP mg rfl rfl ?_;unfold g244;exact Ze rfl rfl (Za rfl (Za (ld rfl rfl) (Za rfl (Za rfl rfl))))
theorem c243(l:List Cd)(hl:l.length≤fO)(t:Tx)(x:ab)(K:aa→List ab→Prop)(hK:∀cs σ,cs.all aa.cell=true→cs.length=12→K (.aG [.agg cs,iv (fJ 0 l t).1,.bool (fJ 0 l t).2]) ([x,.box [.str t]]++σ)) :
  g243 VV [gG l,.func (.func 244) [] [.an 1 0]] [x,.box [.str t]] K:=by
 have hc:=c259 l hl 244 [] [.ay [.str t] 0] mg.plain (λc=>c.name==t) (λx _=>c244 x t) (λx=>rfl);unfold g243;refine Ze rfl rfl ?_;refine YB hc rfl mn.plain rfl rfl ?_;clear hc;rcases Pu t l 0 with ⟨q1,q2,q3,q4⟩|⟨q1,q4⟩
 ·rw[Nat.zero_add] at q3;have q4:dI (λc=>c.name==t) l 0=((fJ 0 l t).1:Int):=q4;rw[q4];rw[q1] at hK;generalize (fJ 0 l t).1=i at q2 q3 hK ⊢;refine Za (Qv ..) ?_;rw[decide_eq_false (by omega)];refine Xh (Za (Zp _ cD _ _ _ l _ i q3) (Za (aj (pJ _)) (Ze rfl rfl (Ql rfl ?_))));exact hK (cD l[i]) _ rfl rfl
 ·have q4:dI (λc=>c.name==t) l 0 = -1:=q4;rw[q4];rw[q1] at hK;refine Za rfl ?_;refine Ye (Za rfl (Ze rfl rfl (Ql rfl ?_)));exact hK [.str [],.bool false,iv 0,iv 0,iv 0,iv 0,iv 0,iv 0,.af,.af,.af,iv 0] _ rfl rfl
theorem V_(cs:List aa)(h:cs.all aa.cell=true):cellsOf (.agg cs)=some cs:=by simp[cellsOf,h]
theorem ZI{α:Type}:∀(a b:List α),a.length=b.length→bR 0 a b=some a
 |[],[],_=>rfl
 |x::a,y::b,h=>by simp only[bR,ZI a b (by simpa using h)]
theorem c224(b:Bk)(hl:b.ai.length≤fO)(t:Tx):PC 224 [eY b,.str t] (.aG [iv (fJ 0 b.ai t).1,.bool (fJ 0 b.ai t).2]):=by
 refine Qd hP lV rfl rfl ?_;unfold g224;refine Ze rfl rfl (Ze rfl rfl (Za rfl (Za rfl (Za rfl ?_))));refine Yu hP rfl oJ rfl (c243 b.ai hl t _ _ (λcs σ h1 h2=>?_));refine Za rfl (Za rfl (Za rfl ?_));refine Yt (row:=cs) (row':=cs) (V_ cs h1) (by rw[h2]; rfl) (ZI _ _ (by rw[h2]; rfl)) ?_;rfl
theorem Ua{P:Program}{GL:aA}{c d:Bool}{K:aa→Prop}{r1:az}{σ:List ab}(h1:r1=.ok (.bool d) [] [])(hK:K (.bool (c&&d))) :
  (W P GL).gr (.bool c) true (λk=>(W P GL).rd r1 k) λt1=>(W P GL).rd (Xo [.bool c,t1,.bool false] σ) K:=by
 cases c with
 |true=>exact Xa (Za h1 (Za rfl hK))
 |false=>exact Qb rfl (Za rfl hK)
theorem Wm{P:Program}{GL:aA}{c d:Bool}{K:aa→Prop}{r1 r2:az}{f3:aa→aa→az}{f4:aa→az}{σ:List ab}{v1 v2 v3:aa}{q1 q2 q3 q4:List Nat}(h1:r1=.ok v1 q1 [])(h2:r2=.ok v2 q2 [])(h3:f3 v1 v2=.ok v3 q3 [])(h4:f4 v3=.ok (.bool d) q4 [])(hK:K (.bool (c&&d))) :
  (W P GL).gr (.bool c) true (λk=>(W P GL).rd r1 k) λt1=>(W P GL).gr (.bool c) true (λk=>(W P GL).rd r2 k) λt2=>(W P GL).gr (.bool c) true (λk=>(W P GL).rd (f3 t1 t2) k) λt3=>(W P GL).gr (.bool c) true (λk=>(W P GL).rd (f4 t3) k) λt4=>(W P GL).rd (Xo [.bool c,t4,.bool false] σ) K:=by
 cases c with
 |true=>exact Xa (Za h1 (Xa (Za h2 (Xa (Za h3 (Xa (Za h4 (Za rfl hK))))))))
 |false=>exact Qb rfl (Qb rfl (Qb rfl (Qb rfl (Za rfl hK))))
theorem Vi{P:Program}{GL:aA}{c d:Bool}{K:aa→Prop}{r1 r3:az}{f2 f4:aa→az}{f5:aa→aa→az}{σ:List ab}{v1 v2 v3 v4:aa}{q1 q2 q3 q4 q5:List Nat}(h1:r1=.ok v1 q1 [])(h2:f2 v1=.ok v2 q2 [])(h3:r3=.ok v3 q3 [])(h4:f4 v3=.ok v4 q4 [])(h5:f5 v2 v4=.ok (.bool d) q5 [])(hK:K (.bool (c&&d))) :
  (W P GL).gr (.bool c) true (λk=>(W P GL).rd r1 k) λt1=>(W P GL).gr (.bool c) true (λk=>(W P GL).rd (f2 t1) k) λt2=>(W P GL).gr (.bool c) true (λk=>(W P GL).rd r3 k) λt3=>(W P GL).gr (.bool c) true (λk=>(W P GL).rd (f4 t3) k) λt4=>(W P GL).gr (.bool c) true (λk=>(W P GL).rd (f5 t2 t4) k) λt5=>(W P GL).rd (Xo [.bool c,t5,.bool false] σ) K:=by
 cases c with
 |true=>exact Xa (Za h1 (Xa (Za h2 (Xa (Za h3 (Xa (Za h4 (Xa (Za h5 (Za rfl hK))))))))))
 |false=>exact Qb rfl (Qb rfl (Qb rfl (Qb rfl (Qb rfl (Za rfl hK)))))
theorem Ub{P:Program}{GL:aA}{c d:Bool}{K:aa→Prop}{r1 r2:az}{f3:aa→az}{f4:aa→aa→az}{f5:aa→az}{σ:List ab}{v1 v2 v3 v4:aa}{q1 q2 q3 q4 q5:List Nat}(h1:r1=.ok v1 q1 [])(h2:r2=.ok v2 q2 [])(h3:f3 v2=.ok v3 q3 [])(h4:f4 v1 v3=.ok v4 q4 [])(h5:f5 v4=.ok (.bool d) q5 [])(hK:K (.bool (c&&d))) :
  (W P GL).gr (.bool c) true (λk=>(W P GL).rd r1 k) λt1=>(W P GL).gr (.bool c) true (λk=>(W P GL).rd r2 k) λt2=>(W P GL).gr (.bool c) true (λk=>(W P GL).rd (f3 t2) k) λt3=>(W P GL).gr (.bool c) true (λk=>(W P GL).rd (f4 t1 t3) k) λt4=>(W P GL).gr (.bool c) true (λk=>(W P GL).rd (f5 t4) k) λt5=>(W P GL).rd (Xo [.bool c,t5,.bool false] σ) K:=by
 cases c with
 |true=>exact Xa (Za h1 (Xa (Za h2 (Xa (Za h3 (Xa (Za h4 (Xa (Za h5 (Za rfl hK))))))))))
 |false=>exact Qb rfl (Qb rfl (Qb rfl (Qb rfl (Qb rfl (Za rfl hK)))))
theorem SW{P:Program}{GL:aA}{c d:Bool}{K:List ab→aa→Prop}{r1:az}{f2:aa→az}{f3:aa→(aa→List ab→Prop)→Prop}{g:List ab→List ab}{σ:List ab}{v1 v2:aa}{q1 q2:List Nat}(h1:r1=.ok v1 q1 [])(h2:f2 v1=.ok v2 q2 [])(h3:∀k:aa→List ab→Prop,k (.bool d) σ→f3 v2 k)(hK:K σ (.bool (c&&d))) :
  (W P GL).gr (.bool c) true (λk=>(W P GL).rd r1 k) λt1=>(W P GL).gr (.bool c) true (λk=>(W P GL).rd (f2 t1) k) λt2=>(W P GL).gw (.bool c) true (λk=>f3 t2 k) σ λt3 σ'=>(W P GL).rd (Xo [.bool c,t3,.bool false] (g σ')) (K σ'):=by
 cases c with
 |true=>exact Xa (Za h1 (Xa (Za h2 (Zb (h3 _ (Za rfl hK))))))
 |false=>exact Qb rfl (Qb rfl (Yc rfl (Za rfl hK)))
def Old(σ σ':List ab):Prop:=σ.length≤σ'.length∧∀c,c<σ.length→ah σ' c=ah σ c
theorem Old.trans{a b c:List ab}(h:Old a b)(k:Old b c):Old a c:=⟨Nat.le_trans h.1 k.1,λi hi=>by rw[k.2 i (by have:=h.1; omega),h.2 i hi]⟩
theorem Old.app(σ l:List ab):Old σ (σ++l):=⟨by simp,λ_ h=>Yp l h⟩
theorem Old.get{σ σ':List ab}(h:Old σ σ'){c:Nat}{x:ab}(hx:ah σ c=x)(hd:x≠.dead):ah σ' c=x:=by
 rw[h.2 c (Qh hx hd)]; exact hx
theorem Bt.FT{σ σ':List ab}{x:ab}(h:Bt σ.length (σ++[x]) σ'):Old σ σ':=by
 obtain⟨h1,h2⟩:=h;simp only[List.length_append,List.length_singleton] at h1 h2;exact⟨by omega,λc hc=>by rw[h2 c (by omega) (by omega),Yp _ hc]⟩
def mC(m:List (Tx×Bool))(l:List Tx):Prop:=∀t,(bg t m).getD false=l.any λd=>d==t
theorem mC.nil:mC [] []:=λt=>by simp[bg]
theorem mC.put{m:List (Tx×Bool)}{l:List Tx}(h:mC m l)(c:Tx):mC (jM c true m) (l++[c]):=by
 intro t;rw[QR,List.any_append,←h t];by_cases h2:t==c
 ·have e:t=c:=by simpa using h2
  simp[e]
 ·have h3:(c==t)=false:=by
   rw[Bool.eq_false_iff]; intro h; apply h2; simp at h; simp[h]
  rw[if_neg h2]; simp[h3]
theorem OC{α:Type}(l:List α)(f:α→Bool):(!l.any f)=l.all λx=>!f x:=by
 induction l with
 |nil=>rfl
 |cons x l ih=>simp[←ih]
theorem Ox(b:Bk)(hc:b.ai.length≤fO)(l:List Tx)(hl:l.length≤fO)(ok:Bool){σ:List ab}(pz:ah σ 0=.box [gG b.ai,jZ b.ao]){K:List aa→List ab→Prop}
 (hK:∀w σ',Old σ σ'→K [w,.bool (ok&&ft b.ai [] l)] σ') :
  VV.loop (λJ4 v57 τ=>VV.rd (Yj .lss false [(h0 v57),iv l.length] τ) λBQ=>VV.test BQ (
   VV.rd (Yb 1 [Dr l,(h0 v57)] τ) λBT=>VV.rd (Zd false 1 [BT] τ) λrF=>VV.rd (Zd true 2 [.an 0 0] τ) λB2=>
   VV.call (.call 224) [B2,rF] τ λpr τ=>VV.rd (Xc 0 [pr] τ) λLZ=>VV.rd (Xc 1 [pr] τ) λB_=>
   VV.gr (h1 v57) true (λk=>VV.rd (Qi [B_] τ) k) λCe=>VV.rd (Xo [(h1 v57),Ce,(.bool false)] τ) λns=>
   VV.gr ns true (λk=>VV.rd (Qi [.map σ.length] τ) k) λCp=>VV.gr ns true (λk=>VV.rd (Qi [rF] τ) k) λCt=>
   VV.gr ns true (λk=>VV.rd (Qr true false (.bool false) [Cp,Ct] τ) k) λCx=>VV.gr ns true (λk=>VV.rd (Xp .not [Cx] τ) k) λCA=>
   VV.rd (Xo [ns,CA,(.bool false)] τ) λCD=>VV.wr (Xz true [.map σ.length,rF,(.bool true)] τ) τ λ_ τ=>
   VV.rd (Yj .add false [(h0 v57),(.int .i64 1)] τ) λCN=>J4 [CN,CD] τ) (K v57 τ)) [(.int .i64 0),.bool ok] (σ ++ [.map []]):=by
 rw[cM] at hl;have eu:ah (σ++[.map []]) σ.length=.map (hO []):=Zi _ _;have hlen:σ.length<(σ++[ab.map []]).length:=by simp
 refine Zl (ι:=Nat) (λi vs s=>∃Ly m,vs=[iv i,.bool Ly]∧i≤l.length∧ah s σ.length=.map (hO m)∧mC m (l.take i)∧Bt σ.length (σ++[.map []]) s∧(ok&&ft b.ai [] l)=(Ly&&ft b.ai (l.take i) (l.drop i))) (λi=>l.length-i) 0 ⟨ok,[],rfl,by omega,eu,by simpa using mC.nil,Bt.refl _ _,by simp⟩ ?_;rintro i vs s again ⟨Ly,m,rfl,hi,hm,yK,Df,hr⟩ aM;have Kv:ah s 0=.box [gG b.ai,jZ b.ao]:=Df.FT.get pz (by simp);refine Za rfl (Zc (λh=>?_) (λh=>?_))
 ·have h:i<l.length:=by simpa using h
  refine Za (Zp _ s9 _ _ _ l _ i h) (Za (aj (vi _)) (Za (ld Kv rfl) ?_));refine Qc (c224 b hc _) rfl lV.plain rfl ?_;refine Za rfl (Za rfl (Ua rfl ?_));refine Wm rfl rfl (Iq hm _) rfl ?_;refine Ze (DA hm _ _) (Xn _ (Qh hm (by simp))) (Za (Xk ..) ?_);rw[Zf (n:=i) (by omega)];have Fh:=Qh hm (by simp);refine aM (i+1) _ _ (by omega) ⟨_,_,rfl,by omega,Xj _ Fh,by rw[Yy _ _ h]; exact yK.put _,Df.trans ⟨by simp,λc hc dL=>Yi _ hc dL⟩,?_⟩;rw[hr,eD h,ft,Yy _ _ h,yK,OC];simp only[Bool.and_assoc]
 ·have h:i=l.length:=by simp at h; omega
  subst h;rw[List.drop_length,ft,Bool.and_true] at hr;have:=hK (iv (l.length:Int)) s Df.FT;rw[hr] at this; exact this
def rI(m:List (Tx×Bool))(l:List Fo):Prop:=∀t,(bg t m).getD false=l.any λd=>d.name==t
theorem rI.put{m:List (Tx×Bool)}{l:List Fo}(h:rI m l)(c:Fo):rI (jM c.name true m) (l++[c]):=by
 intro t;rw[QR,List.any_append,←h t];by_cases h2:t==c.name
 ·have e:t=c.name:=by simpa using h2
  simp[e]
 ·have h3:(c.name==t)=false:=by
   rw[Bool.eq_false_iff]; intro h; apply h2; simp at h; simp[h]
  rw[if_neg h2]; simp[h3]
theorem c184(b:Bk)(hf:bE b=true):PC 184 [eY b] (.agg [iv (eI b [] b.ao).1,iv (eI b [] b.ao).2]):=by
 simp only[bE,YS,Bool.and_eq_true,decide_eq_true_eq] at hf;obtain⟨⟨fc,_⟩,fl,fa⟩:=hf;have WE:=fl;rw[cM] at WE;refine Qd hP lO rfl rfl ?_;unfold g184;refine Ze rfl rfl (Ze rfl rfl (Ze rfl rfl (Za rfl (Za rfl ?_))));refine Za (v:=iv b.ao.length) (rd:=[]) (by simp[Yh]) ?_;refine Zl (ι:=Nat) (λi vs σ=>∃m,vs=[iv i]∧i≤b.ao.length∧ah σ 0=.box [gG b.ai,jZ b.ao]∧ah σ 1=.box [iv 0,iv 0]∧ah σ 2=.map (hO m)∧rI m (b.ao.take i)∧eI b [] b.ao=eI b (b.ao.take i) (b.ao.drop i)) (λi=>b.ao.length-i) 0 ⟨[],rfl,by omega,rfl,rfl,rfl,λt=>by simp[bg],by simp⟩ ?_;rintro i vs σ again ⟨m,rfl,hi,De,ny,kG,yK,hr⟩ aM;refine Za rfl (Zc (λh=>?_) (λh=>?_));rotate_left
 ·have h:i=b.ao.length:=by simp at h; omega
  subst h;rw[List.drop_length,eI] at hr;refine Za rfl (Ze (iy ny rfl rfl rfl) (Xn _ (Qh ny (by simp))) (Ql (YI (Qh ny (by simp)) rfl) ?_));rw[hr]
 have h:i<b.ao.length:=by simpa using h
 have bW:=λ(s:List ab)=>Zp s mS false false 7 b.ao .i64 i h;have Dh:=List.all_eq_true.1 fa _ (List.getElem_mem h);have hJ:=Yy _ _ h;rw[eD h,eI] at hr;generalize b.ao[i]=f at bW Dh hJ hr;simp only[mT,Bool.and_eq_true,decide_eq_true_eq] at Dh;obtain⟨WG,WH,WI⟩:=Dh;refine Za (bW _) (Za (aj (EB f)) (Yt (row:=mS f) (row':=mS f) rfl rfl rfl ?_));have hB:=Zi σ (ab.box (mS f));have wY:ah (σ++[ab.box (mS f)]) 0=.box [gG b.ai,jZ b.ao]:=Zg _ De (by simp);have EN:ah (σ++[ab.box (mS f)]) 1=.box [iv 0,iv 0]:=Zg _ ny (by simp);have zK:ah (σ++[ab.box (mS f)]) 2=.map (hO m):=Zg _ kG (by simp);generalize σ++[ab.box (mS f)]=τ at hB wY EN zK ⊢;generalize σ.length=c at hB ⊢;clear De ny kG;refine Za (Qv ..) ?_;refine SW (g:=λs=>s) (σ:=τ) (d:=cP f.name) rfl (ld hB rfl) (λk hk=>Qc (c223 _ WG) rfl km.plain rfl hk) ?_;refine Ub rfl rfl (ld hB rfl) (Iq zK _) rfl ?_;refine C' rfl (ld hB rfl) (sE ..) ?_;refine Vi rfl (ld hB rfl) rfl (ld hB rfl) (DS ..) ?_;refine C' rfl (ld hB rfl) (DS ..) ?_;refine C' rfl (ld hB rfl) (sE ..) ?_;refine C' rfl (ld hB rfl) (DS ..) ?_;refine Za rfl (Za (ld hB rfl) (Za rfl (Za (ld hB rfl) (Za rfl ?_))));refine XF 3 (Xm (Za rfl (Ye (Za rfl (Ze rfl (Yq _ _) ?_)))));refine Za (v:=iv f.gp.length) (rd:=[]) (by simp[Yh]) ?_;refine Ox b fc f.gp WH _ wY (λw τ2 o2=>?_);refine Za rfl (Xm (Za rfl (Ye (Za rfl (Ze rfl (Yq _ _) ?_)))));refine Za (v:=iv f.single.length) (rd:=[]) (by simp[Yh]) ?_;refine Ox b fc f.single WI _ (o2.get wY (by simp)) (λw τ3 o3=>?_);have o:=o2.trans o3;refine Za rfl (Xm (Za rfl (Xh ?_)));have de:((((((((((decide ((i:Int)<240)&&cP f.name) && !(bg f.name m).getD false)&&decide (0≤f.least))&&decide (f.least≤f.most))&&decide (f.most≤60))&&decide (0≤f.fH))&&decide (f.fH≤999))&&ft b.ai [] f.gp)&&ft b.ai [] f.single))=jY b (b.ao.take i) f:=by
  have hti:(b.ao.take i).length=i:=by rw[List.length_take]; omega
  have e:decide ((i:Int)<240)=decide (i<240):=by congr 1; simp; omega
  rw[jY,hti,yK,e];generalize (List.take i b.ao).any (λg=>g.name==f.name)=x1;generalize decide (i<240)=x2;generalize cP f.name=x3;cases x1<;>cases x2<;>cases x3<;>simp[Bool.and_assoc]
 have sc:=o.get EN (by simp);have uw:=o.get zK (by simp);have EH:=o.get hB (by simp);have EM:=o.get wY (by simp);refine Za (v:=.bool (!jY b (b.ao.take i) f)) (rd:=[]) (by rw[←de]; rfl) ?_;refine Zc (λh2=>?_) (λh2=>?_)
 ·have h2:jY b (b.ao.take i) f=false:=by simpa using h2
  rw[h2,if_neg (by simp)] at hr;refine Za rfl (Za (ld EH rfl) (Za rfl (Ze (iy sc rfl rfl rfl) (Xn _ (Qh sc (by simp))) (Ql (YI (Qh sc (by simp)) rfl) ?_))));rw[hr]
 ·have h2:jY b (b.ao.take i) f=true:=by simpa using h2
  rw[h2,if_pos rfl] at hr;refine Za rfl (Za (ld EH rfl) (Ze (DA uw _ _) (Xn _ (Qh uw (by simp))) (Za (Xk ..) ?_)));rw[Zf (n:=i) (by omega)];refine aM (i+1) _ _ (by omega) ⟨_,rfl,by omega,?_,?_,Xj _ (Qh uw (by simp)),by rw[hJ]; exact yK.put f,by rw[hJ]; exact hr⟩
  ·exact Zj EM (by simp) (by omega)
  ·exact Zj sc (by simp) (by omega)
def Zu(l:List Cd):Prop:=∀c∈l,(tV c).length≤500000000
theorem Ee(cs:List Cd)(hf:YS cs=true)(hs:Zu cs):PC 180 [gG cs] (.agg [iv (dF cs).1,iv (dF cs).2]):=by
 refine c180 cs hf (λm hm c hc=>?_);have P5:gE c=true:=by
  simp only[YS,Bool.and_eq_true] at hf;exact List.all_eq_true.1 hf.2 c hc
 have EZ:=P5;simp only[gE,Bool.and_eq_true,decide_eq_true_eq] at EZ;obtain⟨q0,q1,q2,q3⟩:=EZ;exact c221 m cs hm c P5 (c223 _ q0) (c124 c q1 q2 q3 (hs c hc))
theorem c143(b:Bk)(hf:bE b=true)(hs:Zu b.ai):PC 143 [eY b] (.agg [iv (ej b).1,iv (ej b).2]):=by
 have H6:=hf;simp only[bE,Bool.and_eq_true] at H6;have P3:=H6.1;have p179:PC 179 [.ay [gG b.ai,jZ b.ao] 0] (.agg [iv (dF b.ai).1,iv (dF b.ai).2]):=by
  refine Qd hP lJ rfl rfl ?_;unfold g179;refine Ze rfl rfl (Za rfl (Za rfl ?_));refine Qc (Ee _ P3 hs) rfl lK.plain rfl ?_;exact Ze rfl rfl (Ql rfl rfl)
 have p181:PC 181 [.ay [gG b.ai,jZ b.ao] 0] (.agg [iv (gH b.ai).1,iv (gH b.ai).2]):=by
  refine Qd hP lL rfl rfl ?_;unfold g181;refine Ze rfl rfl (Za rfl (Za rfl ?_));refine Qc (c182 _ P3) rfl lM.plain rfl ?_;exact Ze rfl rfl (Ql rfl rfl)
 have p183:PC 183 [.ay [gG b.ai,jZ b.ao] 0] (.agg [iv (eI b [] b.ao).1,iv (eI b [] b.ao).2]):=by
  refine Qd hP lN rfl rfl ?_;unfold g183;refine Ze rfl rfl (Za rfl ?_);refine Qc (c184 b hf) rfl lO.plain rfl ?_;exact Ze rfl rfl (Ql rfl rfl)
 refine Qd hP kh rfl rfl ?_;unfold g143;refine Ze rfl rfl (Ze rfl rfl (Za rfl (Za rfl (Za rfl (Za rfl ?_)))));refine XF 4 (Xm (Za rfl (Ye (Za rfl ?_))));refine YB p179 rfl lJ.plain rfl rfl (Ze rfl rfl (Ze rfl rfl (Za rfl (Za rfl (Za (XN ..) (Zc (λh=>?_) (λh=>Za rfl ?_)))))))
 ·refine Za rfl (Ze rfl rfl (Ql rfl ?_));rw[ej,if_pos (by simpa using h)]
 refine Xm (Za rfl (Ye (Za rfl ?_)));refine YB p181 rfl lL.plain rfl rfl (Ze rfl rfl (Ze rfl rfl (Za rfl (Za rfl (Za (XN ..) (Zc (λh2=>?_) (λh2=>Za rfl ?_)))))))
 ·refine Za rfl (Ze rfl rfl (Ql rfl ?_));rw[ej,if_neg (by simpa using h),if_pos (by simpa using h2)]
 refine Xm (Za rfl (Ye (Za rfl ?_)));refine YB p183 rfl lN.plain rfl rfl (Ze rfl rfl (Ze rfl rfl (Za rfl (Za rfl (Za (XN ..) (Zc (λh3=>?_) (λh3=>Za rfl ?_)))))))
 ·refine Za rfl (Ze rfl rfl (Ql rfl ?_));rw[ej,if_neg (by simpa using h),if_neg (by simpa using h2)]
 refine Xm (Za rfl (Xh (Za rfl (Ze rfl rfl (Ql rfl ?_)))));rw[ej,if_neg (by simpa using h),if_neg (by simpa using h2)];have h3:(eI b [] b.ao).1=0:=by simpa using h3
 have key:∀(l pre:List Fo),(eI b pre l).1=0→(eI b pre l).2=0:=by
  intro l
  induction l with
  |nil=>intro pre _; rfl
  |cons f l ih=>
   intro pre;rw[eI];split
   ·exact ih _
   ·intro h; simp at h
 rw[h3,key _ _ h3]
end Go.Ah.Tz
end
section
namespace Go.Ah.Tz
open Go.Proofs.Tryz (prog)
theorem cE.yi{P:Program}{GL:aA}{f:FuncId}{e:Bool}{sz:Nat}{v:aa}{bs:List ab}(h1:cE P GL f [.af] v bs)(h2:cE P GL f [.ax e true sz []] v bs):cE P GL f [.ax e false sz []] v bs:=by
 intro w M vs hM hg hx
 match vs,hx with
 |[u],⟨hu,_⟩=>
  have hu':Den M aV (.ax e false sz []) u:=hu;cases hu' with
  |ax _ _ _ _ _ a cap blk off f q1 q2 q3 q4 q5 q6 q7 q8=>
   cases a with
   |none=>
    have:=q4 rfl;subst this;exact h1 w M _ hM hg ⟨.af _,trivial⟩
   |some p=>exact h2 w M _ hM hg ⟨.ax _ e true sz [] (some p) cap blk off f q1 (λ_=>rfl) q3 q4 q5 q6 q7 q8,trivial⟩
attribute [local irreducible] al.rd al.pu al.wr al.dr al.gr al.gw al.gl al.gd al.opt au W
theorem c96(l:List Int)(hl:l.length≤1000000000):cE prog rH 96 [bd l] (.sl 0 0 l.length false) [.rows 1 (l.map bL)]:=by
 cases l with
 |nil=>
  refine cE.yi ?_ ?_
  ·refine Xy hP iF rfl ?_;unfold g96;exact Za rfl (Ye (Tidy.ghost 1 (.inl rfl)))
  ·refine Xy hP iF rfl ?_;unfold g96;exact Za rfl (Xh (Za rfl (Ze rfl rfl (Tidy.refl _ _))))
 |cons x l=>
  refine Xy hP iF rfl ?_;unfold g96;refine Za rfl (Xh (Za rfl ?_));refine Ze (v:=.sl 0 0 (x :: l).length false) (rd:=[]) (up:=[(0,.rows 1 ((x :: l).map bL))]) ?_ rfl (Tidy.refl _ _);show (match QG 1 [] (bd (x :: l)) with
   |some (ys,rd)=>bif Qw ys&&Nat.ble ((2*(([]:List (List aa)).length+ys.length)+192)*8) (2 ^ 48) then az.ok (.sl 0 0 (([]:List (List aa)).length+ys.length) false) rd ([]++[(0,ab.rows 1 ([]++ys))]) else az.stop
   | none=>.stop)=_
  have h1:QG 1 [] (bd (x::l))=some ((x::l).map bL,[]):=rfl;have h2:∀q:List Int,Qw (q.map bL)=true:=by
   intro q; induction q with
   |nil=>rfl
   |cons y q ih=>simp only[List.map_cons,Qw,ih,Bool.and_true]; rfl
  have h3:Nat.ble ((2*(([]:List (List aa)).length+((x::l).map bL).length)+192)*8) (2 ^ 48)=true:=Nat.ble_eq_true_of_le (by simp only[List.length_map,List.length_nil]; omega);simp only[h1,h2,h3,Bool.and_self,cond_true];simp
theorem w96{l:List Int}(hl:l.length≤1000000000){σ:List ab}{K:aa→List ab→Prop}(hK:K (.sl σ.length 0 l.length false) (σ++[.rows 1 (l.map bL)])):VV.call (.call 96) [bd l] σ K:=by
 refine DJ (c96 l hl) rfl iF.plain rfl ?_;simp only[Zw,List.map_cons,List.map_nil,QP,aa.bG,ZB,Nat.zero_add];exact hK
theorem d96{l:List Int}(hl:l.length≤1000000000){σ:List ab}{K:aa→List Nat×List Nat→List ab→Prop}(hK:K (.sl σ.length 0 l.length false) ([],[σ.length]) (σ++[.rows 1 (l.map bL)])):VV.aE (.call 96) [bd l] σ K:=by
 refine HA (c96 l hl) rfl iF.plain rfl ?_;simp only[Zw,List.map_cons,List.map_nil,QP,aa.bG,ZB,Nat.zero_add,X4];exact hK
theorem c112(l:List Th)(hl:l.length≤1000000000):cE prog rH 112 [nA l] (.sl 0 0 l.length false) [.rows 4 (l.map bf)]:=by
 cases l with
 |nil=>
  refine cE.yi ?_ ?_
  ·refine Xy hP iZ rfl ?_;unfold g112;exact Za rfl (Ye (Tidy.ghost 4 (.inl rfl)))
  ·refine Xy hP iZ rfl ?_;unfold g112;exact Za rfl (Xh (Za rfl (Ze rfl rfl (Tidy.refl _ _))))
 |cons x l=>
  refine Xy hP iZ rfl ?_;unfold g112;refine Za rfl (Xh (Za rfl ?_));refine Ze (v:=.sl 0 0 (x :: l).length false) (rd:=[]) (up:=[(0,.rows 4 ((x :: l).map bf))]) ?_ rfl (Tidy.refl _ _);show (match QG 4 [] (nA (x :: l)) with
   |some (ys,rd)=>bif Qw ys&&Nat.ble ((2*(([]:List (List aa)).length+ys.length)+192)*32) (2 ^ 48) then az.ok (.sl 0 0 (([]:List (List aa)).length+ys.length) false) rd ([]++[(0,ab.rows 4 ([]++ys))]) else az.stop
   | none=>.stop)=_
  have h1:QG 4 [] (nA (x::l))=some ((x::l).map bf,[]):=rfl;have h2:∀q:List Th,Qw (q.map bf)=true:=by
   intro q; induction q with
   |nil=>rfl
   |cons y q ih=>simp only[List.map_cons,Qw,ih,Bool.and_true]; rfl
  have h3:Nat.ble ((2*(([]:List (List aa)).length+((x::l).map bf).length)+192)*32) (2 ^ 48)=true:=Nat.ble_eq_true_of_le (by simp only[List.length_map,List.length_nil]; omega);simp only[h1,h2,h3,Bool.and_self,cond_true];simp
theorem d112{l:List Th}(hl:l.length≤1000000000){σ:List ab}{K:aa→List Nat×List Nat→List ab→Prop}(hK:K (.sl σ.length 0 l.length false) ([],[σ.length]) (σ++[.rows 4 (l.map bf)])):VV.aE (.call 112) [nA l] σ K:=by
 refine HA (c112 l hl) rfl iZ.plain rfl ?_;simp only[Zw,List.map_cons,List.map_nil,Da,aa.bG,ZB,Nat.zero_add,X4];exact hK
theorem c59(s:St)(hs:cw 1000000000 s):cE prog rH 59 [eC s] (.agg (jP s 0)) (iC s):=by
 refine Xy hP mW rfl ?_;unfold g59;have w1:IntKind.i64.wrap (0+1)=1:=by decide
 have w2:IntKind.i64.wrap (1+1)=2:=by decide
 repeat first|refine Za rfl ?_|refine Ze rfl rfl ?_|refine Zk rfl ?_|refine Yk rfl rfl ?_
 refine w96 hs.ak ?_;simp only[List.length_cons,List.length_nil,List.nil_append,List.cons_append,Nat.zero_add,Nat.reduceAdd];repeat first|refine Za rfl ?_|refine Ze rfl rfl ?_|refine Zk rfl ?_|refine Yk rfl rfl ?_
 refine XF 3 (Xm ?_);refine Za rfl (Ye ?_);repeat first|refine Za rfl ?_|refine Ze rfl rfl ?_|refine Zk rfl ?_|refine Yk rfl rfl ?_
 refine d96 hs.s0.bJ ?_;simp only[List.length_cons,List.length_nil,List.nil_append,List.cons_append,Nat.zero_add,Nat.reduceAdd];repeat first|refine Za rfl ?_|refine Ze rfl rfl ?_|refine Zk rfl ?_|refine Yk rfl rfl ?_
 refine d96 hs.s0.hand ?_;simp only[List.length_cons,List.length_nil,List.nil_append,List.cons_append,Nat.zero_add,Nat.reduceAdd];repeat first|refine Za rfl ?_|refine Ze rfl rfl ?_|refine Zk rfl ?_|refine Yk rfl rfl ?_
 refine d96 hs.s0.aR ?_;simp only[List.length_cons,List.length_nil,List.nil_append,List.cons_append,Nat.zero_add,Nat.reduceAdd];repeat first|refine Za rfl ?_|refine Ze rfl rfl ?_|refine Zk rfl ?_|refine Yk rfl rfl ?_
 refine d96 hs.s0.told ?_;simp only[List.length_cons,List.length_nil,List.nil_append,List.cons_append,Nat.zero_add,Nat.reduceAdd];repeat first|refine Za rfl ?_|refine Ze rfl rfl ?_|refine Zk rfl ?_|refine Yk rfl rfl ?_
 refine d112 hs.s0.ae ?_;simp only[List.length_cons,List.length_nil,List.nil_append,List.cons_append,Nat.zero_add,Nat.reduceAdd];repeat first|refine Za rfl ?_|refine Ze rfl rfl ?_|refine Zk rfl ?_|refine Yk rfl rfl ?_
 refine XJ (by kernel_rfl) (Za rfl ?_);rw[w1];refine Xm ?_;refine Za rfl (Ye ?_);repeat first|refine Za rfl ?_|refine Ze rfl rfl ?_|refine Zk rfl ?_|refine Yk rfl rfl ?_
 refine d96 hs.s1.bJ ?_;simp only[List.length_cons,List.length_nil,List.nil_append,List.cons_append,Nat.zero_add,Nat.reduceAdd];repeat first|refine Za rfl ?_|refine Ze rfl rfl ?_|refine Zk rfl ?_|refine Yk rfl rfl ?_
 refine d96 hs.s1.hand ?_;simp only[List.length_cons,List.length_nil,List.nil_append,List.cons_append,Nat.zero_add,Nat.reduceAdd];repeat first|refine Za rfl ?_|refine Ze rfl rfl ?_|refine Zk rfl ?_|refine Yk rfl rfl ?_
 refine d96 hs.s1.aR ?_;simp only[List.length_cons,List.length_nil,List.nil_append,List.cons_append,Nat.zero_add,Nat.reduceAdd];repeat first|refine Za rfl ?_|refine Ze rfl rfl ?_|refine Zk rfl ?_|refine Yk rfl rfl ?_
 refine d96 hs.s1.told ?_;simp only[List.length_cons,List.length_nil,List.nil_append,List.cons_append,Nat.zero_add,Nat.reduceAdd];repeat first|refine Za rfl ?_|refine Ze rfl rfl ?_|refine Zk rfl ?_|refine Yk rfl rfl ?_
 refine d112 hs.s1.ae ?_;simp only[List.length_cons,List.length_nil,List.nil_append,List.cons_append,Nat.zero_add,Nat.reduceAdd];repeat first|refine Za rfl ?_|refine Ze rfl rfl ?_|refine Zk rfl ?_|refine Yk rfl rfl ?_
 refine XJ (by kernel_rfl) (Za rfl ?_);rw[w2];refine Xm ?_;refine Za rfl (Xh ?_);repeat first|refine Za rfl ?_|refine Ze rfl rfl ?_|refine Zk rfl ?_|refine Yk rfl rfl ?_
 refine Ql rfl ?_;refine Tidy.gc [2,3,4,5,7,6,8,9,10,12,11] (by decide) (by simp) ?_ rfl;simp only[EE,List.map_cons,List.map_nil,ah,QP,Da]
end Go.Ah.Tz
end
section
namespace Go.Ah.Tz
open Go.Proofs.Tryz (prog)
def cf{α:Type}(t:Int):List (Int×α)→Option α
 |[]=>none
 |p::l=>if t==p.1 then some p.2 else cf t l
def pg{α:Type}(f:α→aa)(l:List (Int×α)):List (aa×aa):=l.map λp=>(iv p.1,f p.2)
theorem Of{α:Type}(f:α→aa)(t:Int):∀l:List (Int×α),gD (iv t) (pg f l)=some ((cf t l).map f)
 |[]=>rfl
 |p::l=>by
  simp only[pg,List.map_cons,gD,gL,cf,gK,cond_true];cases h:t==p.1 with
  |true=>rfl
  |false=>exact Of f t l
theorem Nz{α:Type}(f:α→aa)(t:Int)(v:α):∀l:List (Int×α),cf t l=none→mK (iv t) (f v) (pg f l)=some (pg f (l++[(t,v)]))
 |[],_=>rfl
 |p::l,h=>by
  rw[cf] at h;split at h
  ·cases h
  ·rename_i h2;have h2:(t==p.1)=false:=by simpa using h2
   have:=Nz f t v l h;simp only[pg] at this;simp only[pg,List.map_cons,List.cons_append,mK,gL,gK,cond_true,h2,this]
theorem M8{α:Type}(t:Int):∀ (a b:List (Int × α)),cf t (a ++ b)=(match cf t a with
 |some v=>some v
 | none=>cf t b)
 |[],b=>rfl
 |p::a,b=>by
  simp only[List.cons_append,cf];split
  ·rfl
  ·exact M8 t a b
theorem GW{α:Type}(t:Int):∀l:List (Int×α),(cf t l).isSome=(l.map (·.1)).contains t
 |[]=>rfl
 |p::l=>by
  simp only[cf,List.map_cons,List.contains_cons];cases h:t==p.1 with
  |true=>simp
  |false=>simp only[Bool.false_eq_true,if_false,Bool.false_or]; exact GW t l
theorem G6{α:Type}(f:α→aa)(z:aa)(ok:Bool){σ:List ab}{b:Nat}{l:List (Int×α)}(h:ah σ b=.map (pg f l))(t:Int):Qr false ok z [.map b,iv t] σ=.ok (jo ok z ((cf t l).map f)) [b] []:=by
 simp only[Qr,Z5,mapOf,h,Of,cond_true]
theorem IC{α:Type}(f:α→aa){σ:List ab}{b:Nat}{l:List (Int×α)}(h:ah σ b=.map (pg f l))(t:Int)(v:α)(hn:cf t l=none):Xz false [.map b,iv t,f v] σ=.ok .aI [] [(b,.map (pg f (l++[(t,v)])))]:=by
 simp only[Xz,Z5,h,Nz f t v l hn,cond_true]
structure zc (row:List aa) (j:Nat) (x:Sd):Prop where
 h0:aF false (j+0) 1 row=some (iv x.aW)
 h1:aF false (j+1) 1 row=some (iv x.dj)
 h2:aF false (j+2) 1 row=some (iv x.most)
 h3:aF false (j+3) 1 row=some (bd x.bJ)
 h4:aF false (j+4) 1 row=some (bd x.hand)
 h5:aF false (j+5) 1 row=some (bd x.aR)
 h6:aF false (j+6) 1 row=some (nA x.ae)
 h7:aF false (j+7) 1 row=some (bd x.told)
theorem F7(s:St):zc (bX s) 7 s.s0:=⟨rfl,rfl,rfl,rfl,rfl,rfl,rfl,rfl⟩
theorem F8(s:St):zc (bX s) 15 s.s1:=⟨rfl,rfl,rfl,rfl,rfl,rfl,rfl,rfl⟩
attribute [local irreducible] al.rd al.pu al.wr al.dr al.gr al.gw al.gl al.gd al.opt au W
set_option maxHeartbeats 2000000
theorem c120(l:List Int)(hl:l.length≤fO)(id:FuncId)(fs cs:List aa)(hp:Xl prog id=true)(f:Int→Bool)(hc:∀x∈l,PC id (fs++[iv x]++cs) (.bool (f x)))(hr:∀x,el (fs++[iv x]++cs)=true) :
  PC 120 [bd l,.func (.func id) fs cs] (iv (dI f l 0)):=by
 rw[cM] at hl;refine Qd hP lD rfl rfl ?_;unfold g120;refine Za (v:=iv l.length) (rd:=[]) (by simp[Yh]) ?_;refine Zl (ι:=Nat) (λi vs s=>vs=[iv i]∧i≤l.length∧dI f l 0=dI f (l.drop i) i) (λi=>l.length-i) 0 ⟨rfl,by omega,by simp⟩ ?_;rintro i vs s again ⟨rfl,hi,jh⟩ aM;refine Za rfl (Zc (λh=>?_) (λh=>?_))
 ·have h:i<l.length:=by simpa using h
  refine Za (Zp _ bL _ _ _ l _ i h) (Za (aj rfl) ?_);refine Qc (hc _ (List.getElem_mem h)) rfl hp (hr _) ?_;rw[eD h,dI] at jh;refine Zc (λh2=>?_) (λh2=>?_)
  ·rw[if_pos h2] at jh; rw[jh]; rfl
  ·rw[if_neg (by rw[h2]; simp)] at jh;refine Za (Xk ..) ?_;rw[Zf (n:=i) (by omega)];exact aM (i+1) _ _ (by omega) ⟨rfl,by omega,by rw[jh]; push_cast; rfl⟩
 ·have h:i=l.length:=by simp at h; omega
  subst h;rw[List.drop_length,dI] at jh;rw[jh]
theorem c185(l:List Int)(hl:l.length≤fO)(id:FuncId)(fs cs:List aa)(hp:Xl prog id=true)(f:Int→Bool)(hc:∀x∈l,PC id (fs++[iv x]++cs) (.bool (f x)))(hr:∀x,el (fs++[iv x]++cs)=true)(tt:el [bd l,.func (.func id) fs cs]=true) :
  PC 185 [bd l,.func (.func id) fs cs] (.bool (l.any f)):=by
 refine Qd hP lP rfl rfl ?_;unfold g185;refine Qc (c120 l hl id fs cs hp f hc hr) rfl lD.plain tt ?_;refine Za (sE ..) ?_;rw[Ir f l 0 (by omega)]
theorem c186(b:Bk)(x:Int):PC 186 [iv x,.ay [.ay [gG b.ai,jZ b.ao] 0] 0] (.bool (decide (x<0)||decide ((b.ai.length:Int)≤x))):=by
 refine Qd hP lQ rfl rfl ?_;unfold g186;refine Za (Qv ..) ?_;refine Pq (λ_=>rfl) (λ_=>aj rfl) (λ_=>rfl) (λ_=>rfl) (λ_=>aj rfl) (v6:=iv b.ai.length) (q6:=[]) (λ_=>by simp[Yh]) (λ_=>sE ..) rfl
theorem VF(n:Nat)(l:List Int)(most:Int):(!(decide ((l.length:Int)>most)||l.any λx=>decide (x<0)||decide ((n:Int)≤x)))=Qq n l most:=by
 rw[Qq,Bool.not_or,OC]
 congr 1
 ·rw[Bool.eq_iff_iff]; simp
 ·congr 1; funext x
  rw[Bool.eq_iff_iff]; simp
end Go.Ah.Tz
end
section
namespace Go.Ah.Tz
open Go.Proofs.Tryz (prog)
theorem S4(f:Int→aa)(z:aa)(o:Option Int):jo true z (o.map f)=.aG [(o.map f).getD z,.bool o.isSome]:=by cases o<;>rfl
theorem VO{σ:List ab}{b:Nat}{row:List aa}(h:ah σ b=.box [.ay row 0])(l:List Int)(id:FuncId):Xu σ 1000 [bd l,.func (.func id) [] [.an b 0]]=some ([bd l,.func (.func id) [] [.ay [.ay row 0] 0]],[b]):=by
 show Xu σ (997+1+1+1) _=_;simp[Xu,h,aa.ro]
attribute [local irreducible] al.rd al.pu al.wr al.dr al.gr al.gw al.gl al.gd al.opt au W
set_option maxHeartbeats 4000000
@[reducible] def ed(b:Bk):List aa:=[gG b.ai,jZ b.ao]
theorem HH(b:Bk)(l:List Int)(hl:l.length≤fO)(most:Int){σ:List ab}{b4:Nat}(hb:ah σ b4=.box [.ay (ed b) 0]){R K:List ab→Prop}(hR:Qq b.ai.length l most=false→∀σ',Old σ σ'→R σ')(hK:Qq b.ai.length l most=true→∀σ',Old σ σ'→K σ') :
  VV.wr (Xe [.af,(.int .i64 0)] [] σ) σ λpq σ=>VV.wr (Xb 2 [pq,.agg [bd l,iv most]] σ) σ λ_ σ=>
  VV.rd (Ya 0 [pq] σ) λCg=>VV.rd (Zd false 1 [Cg] σ) λCj=>VV.rd (Yf [Cj] σ) λCo=>
  VV.rd (Ya 1 [pq] σ) λCs=>VV.rd (Zd false 1 [Cs] σ) λCw=>VV.rd (Yj .gtr false [Co,Cw] σ) λnt=>
  VV.gr nt false (λk=>VV.rd (Ya 0 [pq] σ) k) λCF=>VV.gr nt false (λk=>VV.rd (Zd false 1 [CF] σ) k) λCJ=>
  VV.gr nt false (λk=>VV.rd (Qp (.func 186) 0 [.an b4 0] σ) k) λCM=>VV.gw nt false (λk=>VV.call (.call 185) [CJ,CM] σ k) σ λnu σ=>
  VV.rd (Xo [nt,(.bool true),nu] σ) λCR=>VV.test CR (R σ) (K σ):=by
 refine Yt (row:=[bd l,iv most]) rfl rfl rfl ?_;have hB:=Zi σ (ab.box [bd l,iv most]);have bq:ah (σ++[ab.box [bd l,iv most]]) b4=.box [.ay (ed b) 0]:=Zg _ hb (by simp);have ho:=Old.app σ [ab.box [bd l,iv most]];generalize σ++[ab.box [bd l,iv most]]=τ at hB bq ho ⊢;generalize σ.length=c at hB ⊢;refine Za rfl (Za (ld hB rfl) (Za (v:=iv l.length) (rd:=[]) (by simp[Yh]) (Za rfl (Za (ld hB rfl) (Za (ZZ ..) ?_)))));refine Vj (d:=l.any λx=>decide (x<0)||decide ((b.ai.length:Int)≤x)) (λ_=>rfl) (λ_=>ld hB rfl) (λ_=>rfl) (λ_ k hk=>?_) ?_
 ·exact YB (c185 l hl 186 [] [.ay [.ay (ed b) 0] 0] lQ.plain (λx=>decide (x<0)||decide ((b.ai.length:Int)≤x)) (λx _=>c186 b x) (λx=>rfl) rfl) rfl lP.plain (VO bq l 186) rfl hk
 have he:=VF b.ai.length l most;refine Zc (λh=>hR ?_ _ ho) (λh=>hK ?_ _ ho)
 ·rw[←he,h]; rfl
 ·rw[←he,h]; rfl
theorem SM(b:Bk)(next:Int)(u:Th)(met:Bool) :
  (!((((((((met||decide (u.card<0))||decide ((b.ai.length:Int)≤u.card)) || !((b.ai[u.card.toNat]?).getD default).unit)||decide (u.aK<0))||decide (1000000<u.aK))||decide (u.id<1))||decide (next≤u.id))))=(Qt b next u && !met):=by
 rw[Qt];cases met with
 |true=>simp
 |false=>
  by_cases h1:u.card<0
  ·have:¬0≤u.card:=by omega
   simp[h1,this]
  by_cases h2:(b.ai.length:Int)≤u.card
  ·have:¬u.card<b.ai.length:=by omega
   simp[h2,this]
  have e1:0≤u.card:=by omega
  have e2:u.card<b.ai.length:=by omega
  have e3:u.card.toNat<b.ai.length:=by omega
  simp only[h1,h2,e1,e2,decide_true,decide_false,Bool.or_false,Bool.true_and,Bool.not_false,Bool.and_true,Bool.false_or];rw[List.getElem?_eq_getElem e3];simp only[Option.map_some,Option.getD_some];generalize b.ai[u.card.toNat].unit=q;rw[Bool.eq_iff_iff];cases q<;>simp<;>omega
theorem c144(b:Bk)(s:St)(side:Int)(j:Nat)(x:Sd)(hx:zc (bX s) j x)(hj:∀σ,Yg 2 8 [.ay (bX s) (0+7),iv side] σ=.ok (.ay (bX s) j) [] [])(hs:pH 1000000000 x)(ids:List (Int×Int)){m:Nat}{σ:List ab}(hm:ah σ m=.map (pg iv ids)){K:aa→List ab→Prop}
 (hF:(Zo b.ai.length x&&Xr b s.next (ids.map (·.1)) x.ae)=false→∀σ',K (.bool false) σ')
 (hT:(Zo b.ai.length x&&Xr b s.next (ids.map (·.1)) x.ae)=true→∀σ',Bt m σ σ'→ah σ' m=.map (pg iv (ids++x.ae.map λu=>(u.id,side)))→K (.bool true) σ') :
  g144 VV [.ay (ed b) 0,.ay (bX s) 0,iv side,.map m] σ K:=by
 unfold g144;refine Ze rfl (Yq _ _) ?_;have hB:=Zi σ (ab.box [.ay (ed b) 0]);have p_:ah (σ++[ab.box [.ay (ed b) 0]]) m=.map (pg iv ids):=Zg _ hm (by simp);have ho:=Old.app σ [ab.box [.ay (ed b) 0]];have Fh:=Qh hm (by simp);have dL:m≠σ.length:=by omega
 generalize σ++[ab.box [.ay (ed b) 0]]=τ at hB p_ ho ⊢;generalize σ.length=c at hB dL ⊢;refine Za rfl (Za rfl (Za (hj _) (Za rfl (Za rfl (Za (aj hx.h0) ?_)))));refine Qc (c57 _) rfl g_.plain rfl (Za rfl ?_);refine IP (λ_=>rfl) (λ_=>rfl) (λ_=>rfl) (λ_=>aj hx.h1) (λ_=>Qv ..) ?_;refine Pd (λ_=>rfl) (λ_=>rfl) (λ_=>rfl) (λ_=>aj hx.h1) (λ_ k hk=>Qc (c57 _) rfl g_.plain rfl hk) (λ_=>rfl) ?_;refine IP (λ_=>rfl) (λ_=>rfl) (λ_=>rfl) (λ_=>aj hx.h2) (λ_=>Qv ..) ?_;refine IP (λ_=>rfl) (λ_=>rfl) (λ_=>rfl) (λ_=>aj hx.h2) (λ_=>ZZ ..) ?_;refine MM (λ_=>rfl) (λ_=>rfl) (λ_=>rfl) (λ_=>aj hx.h6) (v5:=iv x.ae.length) (q5:=[]) (λ_=>by simp[Yh]) (λ_=>ZZ ..) ?_;refine Zc (λh=>hF ?_ _) (λh=>?_)
 ·have:Zo b.ai.length x=false:=by
   rw[Bool.eq_false_iff]; intro hh;simp only[Zo,Bool.and_eq_true,decide_eq_true_eq] at hh;obtain⟨p1,p2,p3,p4,p5,_,_,_,_,p6⟩:=hh;simp only[p1,p3,Bool.not_true,Bool.false_or,Bool.or_false,Bool.or_eq_true,decide_eq_true_eq] at h;omega
  rw[this]; rfl
 simp only[Bool.or_eq_false_iff,Bool.not_eq_false',decide_eq_false_iff_not] at h;obtain⟨⟨⟨⟨⟨p1,p2⟩,p3⟩,p4⟩,p5⟩,p6⟩:=h;have hh:Zo b.ai.length x=(Qq b.ai.length x.bJ 60&&(Qq b.ai.length x.hand 10&&(Qq b.ai.length x.aR 1000000&&Qq b.ai.length x.told 1000000))):=by
  have q2:decide (0≤x.dj)=true:=by simp; omega
  have q4:decide (0≤x.most)=true:=by simp; omega
  have q5:decide (x.most≤10)=true:=by simp; omega
  have q6:decide (x.ae.length≤7)=true:=by simp; omega
  rw[Zo,p1,p3,q2,q4,q5,q6]; simp
 rw[hh] at hF hT;clear hh p1 p2 p3 p4 p5 p6;refine Za rfl (Za rfl (Za (aj hx.h3) (Za rfl (Za rfl (Za rfl (Za (aj hx.h4) (Za rfl (Za rfl (Za rfl (Za (aj hx.h5) (Za rfl (Za rfl (Za rfl (Za (aj hx.h7) (Za rfl (Za rfl ?_))))))))))))))));have d1:=hs.bJ;have d2:=hs.hand;have d3:=hs.aR;have d4:=hs.told;have d5:=hs.ae;refine XF 5 (Xm (Za rfl (Ye (Za rfl ?_))));refine HH b x.bJ (by rw[cM]; omega) 60 hB (λh _ _=>hF (by rw[h]; rfl) _) (λa1 σ1 o1=>Za rfl (Xm (Za rfl (Ye (Za rfl ?_)))));refine HH b x.hand (by rw[cM]; omega) 10 (o1.get hB (by simp)) (λh _ _=>hF (by rw[a1,h]; rfl) _) (λa2 σ2 o2=>Za rfl (Xm (Za rfl (Ye (Za rfl ?_)))))
 replace o2:=o1.trans o2
 refine HH b x.aR (by rw[cM]; omega) 1000000 (o2.get hB (by simp)) (λh _ _=>hF (by rw[a1,a2,h]; rfl) _) (λa3 σ3 o3=>Za rfl (Xm (Za rfl (Ye (Za rfl ?_)))))
 replace o3:=o2.trans o3
 refine HH b x.told (by rw[cM]; omega) 1000000 (o3.get hB (by simp)) (λh _ _=>hF (by rw[a1,a2,a3,h]; rfl) _) (λa4 σ4 o4=>Za rfl (Xm (Za rfl (Xh ?_))))
 replace o4:=o3.trans o4
 rw[a1,a2,a3,a4] at hF hT;simp only[Bool.and_self,Bool.true_and] at hF hT;have PQ:=o4.get hB (by simp);have Rm:=o4.get p_ (by simp);have oo:=ho.trans o4;clear o1 o2 o3 o4 ho hB p_ hm;refine Za rfl (Za rfl (Za (aj hx.h6) (Za (v:=iv x.ae.length) (rd:=[]) (by simp[Yh]) ?_)));refine Zl (ι:=Nat) (λi vs τ=>vs=[iv i]∧i≤x.ae.length∧ah τ c=.box [.ay (ed b) 0]∧ah τ m=.map (pg iv (ids++(x.ae.take i).map λu=>(u.id,side)))∧Bt m σ τ∧Xr b s.next (ids.map (·.1)) x.ae=Xr b s.next ((ids++(x.ae.take i).map λu=>(u.id,side)).map (·.1)) (x.ae.drop i)) (λi=>x.ae.length-i) 0
  ⟨rfl,by omega,PQ,by simpa using Rm,⟨oo.1,λc hc _=>oo.2 c hc⟩,by simp⟩ ?_
 clear PQ Rm oo;rintro i vs τ1 again ⟨rfl,hi,hB,hm,Df,hr⟩ aM;refine Za rfl (Zc (λh=>?_) (λh=>?_));rotate_left
 ·have h:i=x.ae.length:=by simp at h; omega
  subst h;rw[List.drop_length,Xr] at hr;rw[List.take_length] at hm;exact hT hr _ Df hm
 have h:i<x.ae.length:=by simpa using h
 have bW:=λ(s:List ab)=>Zp s bf false false 4 x.ae .i64 i h;have hJ:=Yy _ _ h;rw[eD h,Xr] at hr;generalize x.ae[i]=u at bW hJ hr;generalize hq:ids++(x.ae.take i).map (λu=>(u.id,side))=cur at hm hr;have ET:ids++(x.ae.take (i+1)).map (λu=>(u.id,side))=cur++[(u.id,side)]:=by rw[hJ,List.map_append,←List.append_assoc,hq]; rfl
 refine Za (bW _) (Za (aj rfl) (Yt (row:=bf u) (row':=bf u) rfl rfl rfl ?_));have hU:=Zi τ1 (ab.box (bf u));have HY:ah (τ1++[ab.box (bf u)]) c=.box [.ay (ed b) 0]:=Zg _ hB (by simp);have p_:ah (τ1++[ab.box (bf u)]) m=.map (pg iv cur):=Zg _ hm (by simp);have Ab:=Qh p_ (by simp);have ER:Bt m σ (τ1++[ab.box (bf u)]):=Df.trans (Bt.gr m (Old.app _ _).1 (Old.app _ _).2);generalize τ1++[ab.box (bf u)]=τ2 at hU HY p_ Ab ER ⊢;generalize τ1.length=d at hU ⊢;refine Za rfl (Za (ld hU rfl) (Za (G6 iv _ _ p_ _) ?_));rw[S4];refine Za rfl (Za rfl ?_);refine za (λ_=>rfl) (λ_=>ld hU rfl) (λ_=>Qv ..) ?_;refine OA (λ_=>rfl) (λ_=>ld hU rfl) (λ_=>ld HY rfl) (λ_=>rfl) (λ_=>rfl) (λ_=>aj rfl) (v7:=iv b.ai.length) (q7:=[]) (λ_=>by simp[Yh]) (λ_=>sE ..) ?_;refine U8 (d:=!((b.ai[u.card.toNat]?).getD default).unit) (λ_=>ld HY rfl) (λ_=>rfl) (λ_=>rfl) (λ_=>aj rfl) (λ_=>rfl) (λ_=>ld hU rfl) (v7:=.ay (cD ((b.ai[u.card.toNat]?).getD default)) 0) (q7:=[]) (λhc=>?_) (λ_=>rfl) (λ_=>aj (yj _)) (λ_=>rfl) ?_
 ·simp only[Bool.or_eq_false_iff,decide_eq_false_iff_not] at hc;have e3:u.card.toNat<b.ai.length:=by omega
  rw[List.getElem?_eq_getElem e3];exact vJ _ cD _ _ _ b.ai _ u.card (by omega) e3
 refine za (λ_=>rfl) (λ_=>ld hU rfl) (λ_=>Qv ..) ?_;refine za (λ_=>rfl) (λ_=>ld hU rfl) (λ_=>ZZ ..) ?_;refine za (λ_=>rfl) (λ_=>ld hU rfl) (λ_=>Qv ..) ?_;refine Pq (λ_=>rfl) (λ_=>ld hU rfl) (λ_=>rfl) (λ_=>rfl) (λ_=>rfl) (v6:=iv s.next) (q6:=[]) (λ_=>aj rfl) (λ_=>sE ..) ?_;have pD:=SM b s.next u (cf u.id cur).isSome;have hk:=GW u.id cur;refine Zc (λh2=>hF ?_ _) (λh2=>?_)
 ·rw[h2] at pD;rw[hr,←hk];have pD:(Qt b s.next u && !(cf u.id cur).isSome)=false:=pD.symm;cases h5:Qt b s.next u with
  |false=>rfl
  |true=>
   rw[h5] at pD;have:(cf u.id cur).isSome=true:=by simpa using pD
   rw[this]; rfl
 ·rw[h2] at pD;have pD:(Qt b s.next u && !(cf u.id cur).isSome)=true:=pD.symm;simp only[Bool.and_eq_true,Bool.not_eq_true'] at pD;have kq:cf u.id cur=none:=by
   have:=pD.2;cases h5:cf u.id cur with
   |none=>rfl
   |some v=>rw[h5] at this; cases this
  rw[pD.1,←hk,pD.2,Bool.not_false,Bool.true_and,Bool.true_and] at hr;refine Za rfl (Za (ld hU rfl) (Ze (IC iv p_ _ side kq) (Xn _ Ab) (Za (Xk ..) ?_)));rw[Zf (n:=i) (by omega)];refine aM (i+1) _ _ (by omega) ⟨rfl,by omega,Zj HY (by simp) (λe=>dL e),?_,ER.trans ⟨by simp,λc hc dL=>Yi _ hc dL⟩,?_⟩
  ·rw[ET]; exact Xj _ Ab
  ·rw[ET,hr,List.map_append]; rfl
end Go.Ah.Tz
end
section
namespace Go.Ah.Tz
open Go.Proofs.Tryz (prog)
theorem IW(k:Int)(a:Int):∀l:List Th,cf a (l.map λu=>(u.id,k))=(ga l a).map λ_=>k
 |[]=>rfl
 |u::l=>by
  have:=IW k a l;simp only[List.map_cons,cf,ga,List.findIdx?_cons];by_cases h:u.id=a
  ·have h2:(a==u.id)=true:=by simp[h]
   simp[h]
  ·have h2:(a==u.id)=false:=by simp; exact λe=>h e.symm
   simp only[h2,Bool.false_eq_true,if_false,decide_eq_false h,this,ga,Option.map_map];rfl
theorem Vc(s:St)(a:Int):cf a (s.s0.ae.map (λu=>(u.id,(0:Int)))++s.s1.ae.map (λu=>(u.id,(1:Int))))=if (aH s a).2.2=true then some (aH s a).1 else none:=by
 rw[M8,IW,IW,aH];cases ga s.s0.ae a with
 |some k=>rfl
 |none=>cases ga s.s1.ae a<;>rfl
attribute [local irreducible] al.rd al.pu al.wr al.dr al.gr al.gw al.gl al.gd al.opt au W
set_option maxHeartbeats 4000000
theorem J8(b:Bk):aF true 0 2 (ed b)=some (eY b):=rfl
theorem Xw{e:Int}{b:Bk}{s:St}{bare:Bool}(h:bt e b s bare=true):e=0∧1≤s.turn∧s.turn≤4096∧0≤s.mover∧s.mover≤1∧0≤s.phase∧s.phase≤2∧0≤s.result∧s.result≤3∧((s.result==0)==(s.phase != 2))=true∧1≤s.next∧s.next≤1000000∧s.ak.length≤7:=by
 simp only[bt,Bool.and_eq_true,decide_eq_true_eq] at h;obtain⟨h1,h2,h3,h4,h5,h6,h7,h8,h9,h10,h11,h12,h13,h14⟩:=h;refine⟨h1,h2,h3,h4,h5,h6,h7,h8,h9,h10,h11,h12,?_⟩;by_cases hp:s.phase≠1
 ·rw[if_pos hp] at h14; simp at h14; simp[h14]
 ·rw[if_neg hp] at h14; simp at h14; exact h14.2.2.1
theorem Wh(o:Option Int):jo true (iv 0) (o.map iv)=.aG [iv (o.getD 0),.bool o.isSome]:=by cases o<;>rfl
theorem SQ(o:Option Bool):jo false (.bool false) (o.map aa.bool)=.bool (o.getD false):=by cases o<;>rfl
theorem Mu(t:Int):∀l:List Int,(cf t (l.map λa=>(a,true))).getD false=l.contains t
 |[]=>rfl
 |a::l=>by
  simp only[List.map_cons,cf,List.contains_cons];cases h:t==a with
  |true=>rfl
  |false=>simp only[Bool.false_eq_true,if_false,Bool.false_or]; exact Mu t l
theorem c111(b:Bk)(hf:bE b=true)(fS:Zu b.ai)(s:St)(hs:cw 1000000000 s)(bare:Bool):PC 111 [.ay (ed b) 0,.ay (bX s) 0,.bool bare] (.bool (bt (ej b).1 b s bare)):=by
 have h143:=c143 b hf fS;generalize (ej b).1=e at h143 ⊢;generalize (ej b).2=ep at h143;have sa:=hs.ak;refine Qd hP ke rfl rfl ?_;unfold g111;refine Za rfl (Za rfl (Za (aj rfl) (Za (Qv ..) ?_)));refine Qk λk4 H8=>?_;have kz:(bt e b s bare=true→False)→k4 [.bool true] []:=by
  intro h; rw[H8]; refine Ye ?_;rw[Bool.eq_false_iff.2 (λhm=>h hm)]
 apply nW (R:=k4 [.bool false] []) (1≤s.turn∧s.turn≤4096∧0≤s.mover∧s.mover≤1∧0≤s.phase∧s.phase≤2∧0≤s.result∧s.result≤3∧((s.result==0)==(s.phase != 2))=true∧1≤s.next∧s.next≤1000000∧s.ak.length≤7∧e=0)
 ·intro hR;clear H8;refine Zc (λh=>by rw[h]; exact kz (λhm=>by have:=Xw hm; simp at h; omega)) (λb1=>Za rfl (Za rfl (Za (aj rfl) (Za (ZZ ..) ?_))));refine Zc (λh=>by rw[h]; exact kz (λhm=>by have:=Xw hm; simp at h; omega)) (λb2=>Za rfl (Za rfl (Za (aj rfl) (Za (Qv ..) ?_))));refine Zc (λh=>by rw[h]; exact kz (λhm=>by have:=Xw hm; simp at h; omega)) (λb3=>Za rfl (Za rfl (Za (aj rfl) (Za (ZZ ..) ?_))));refine Zc (λh=>by rw[h]; exact kz (λhm=>by have:=Xw hm; simp at h; omega)) (λb4=>Za rfl (Za rfl (Za (aj rfl) (Za (Qv ..) ?_))));refine Zc (λh=>by rw[h]; exact kz (λhm=>by have:=Xw hm; simp at h; omega)) (λb5=>Za rfl (Za rfl (Za (aj rfl) (Za (ZZ ..) ?_))));refine Zc (λh=>by rw[h]; exact kz (λhm=>by have:=Xw hm; simp at h; omega)) (λb6=>Za rfl (Za rfl (Za (aj rfl) (Za (Qv ..) ?_))));refine Zc (λh=>by rw[h]; exact kz (λhm=>by have:=Xw hm; simp at h; omega)) (λb7=>Za rfl (Za rfl (Za (aj rfl) (Za (ZZ ..) ?_))));refine Zc (λh=>by rw[h]; exact kz (λhm=>by have:=Xw hm; simp at h; omega)) (λb8=>Za rfl (Za rfl (Za (aj rfl) (Za (Qf ..) (Za rfl (Za rfl (Za (aj rfl) (Za (XN ..) (Za (UW ..) ?_)))))))));have hx:(!(decide (s.result=0)==decide (s.phase≠2))) = !((s.result==0)==(s.phase != 2)):=by
   congr 1
   have e1:decide (s.result=0)=(s.result==0):=by rw[Bool.eq_iff_iff]; simp
   have e2:decide (s.phase≠2)=(s.phase != 2):=by rw[Bool.eq_iff_iff]; simp
   rw[e1,e2]
  rw[hx];refine Zc (λh=>by rw[h]; exact kz (λhm=>by have:=(Xw hm).2.2.2.2.2.2.2.2.2.1; rw[this] at h; cases h)) (λb9=>Za rfl (Za rfl (Za (aj rfl) (Za (Qv ..) ?_))));refine Zc (λh=>by rw[h]; exact kz (λhm=>by have:=Xw hm; simp at h; omega)) (λb10=>Za rfl (Za rfl (Za (aj rfl) (Za (ZZ ..) ?_))));refine Zc (λh=>by rw[h]; exact kz (λhm=>by have:=Xw hm; simp at h; omega)) (λb11=>Za rfl (Za rfl (Za (aj rfl) (Za (v:=iv s.ak.length) (rd:=[]) (by simp[Yh]) (Za (ZZ ..) ?_)))));refine Zc (λh=>by rw[h]; exact kz (λhm=>by have:=Xw hm; simp at h; omega)) (λb12=>Za rfl (Za (aj (J8 b)) ?_));refine Qc h143 rfl kh.plain rfl (Za rfl (Za (XN ..) ?_));by_cases he:e=0
  ·rw[show decide (e≠0)=false by simp[he]];simp at b1 b2 b3 b4 b5 b6 b7 b8 b10 b11 b12;exact hR ⟨by omega,by omega,by omega,by omega,by omega,by omega,by omega,by omega,by simpa using b9,by omega,by omega,by omega,he⟩
  ·rw[show decide (e≠0)=true by simp[he]];exact kz (λhm=>he (Xw hm).1)
 rintro⟨p1,p2,p3,p4,p5,p6,p7,p8,p9,p10,p11,p12,p13⟩;rw[H8]; clear H8 kz k4;have xd:bt e b s bare=(Zv b s&&(if s.phase≠1 then decide (s.ak.length=0) else !(decide (s.ak.length=0) && !bare)&&(s.cc&&dS s [] s.ak))):=by
  rw[bt,decide_eq_true p13,decide_eq_true p1,decide_eq_true p2,decide_eq_true p3,decide_eq_true p4,decide_eq_true p5,decide_eq_true p6,decide_eq_true p7,decide_eq_true p8,p9,decide_eq_true p10,decide_eq_true p11,decide_eq_true p12];rfl
 rw[xd]; clear xd h143 p1 p2 p3 p4 p5 p6 p7 p8 p9 p10 p11 p13;have w1:IntKind.i64.wrap (0+1)=1:=by decide
 have w2:IntKind.i64.wrap (1+1)=2:=by decide
 refine Xh (Ze rfl rfl (XF 3 (Xm (Za rfl (Ye ?_)))));refine Yu hP rfl lF rfl (c144 b s 0 7 s.s0 (F7 s) (λ_=>rfl) hs.s0 [] (by rfl) (λh σ1=>?_) (λh σ1 t1 m1=>?_))
 ·refine Za rfl (Ye ?_);have h:(Zo b.ai.length s.s0&&Xr b s.next [] s.s0.ae)=false:=h;have:Zv b s=false:=by
   rw[Zv,←Bool.and_assoc,h]; rfl
  rw[this]; rfl
 refine Za rfl (Xh (Za rfl ?_));rw[w1];refine Xm (Za rfl (Ye ?_));refine Yu hP rfl lF rfl (c144 b s 1 15 s.s1 (F8 s) (λ_=>rfl) hs.s1 _ m1 (λh2 σ2=>?_) (λh2 σ2 t2 m2=>?_))
 ·refine Za rfl (Ye ?_);have e0:(([]++s.s0.ae.map λu=>(u.id,(0:Int))):List (Int×Int)).map (·.1)=s.s0.ae.map Th.id:=by simp[Function.comp_def]
  rw[e0] at h2;have:Zv b s=false:=by
   rw[Zv,h2]; simp
  rw[this]; rfl
 have Ru:Zv b s=true:=by
  have e0:(([]++s.s0.ae.map λu=>(u.id,(0:Int))):List (Int×Int)).map (·.1)=s.s0.ae.map Th.id:=by simp[Function.comp_def]
  rw[e0] at h2;have h:(Zo b.ai.length s.s0&&Xr b s.next [] s.s0.ae)=true:=h;rw[Zv,←Bool.and_assoc,h,h2]; rfl
 rw[Ru,Bool.true_and];clear Ru h h2 m1 t1 t2;refine Za rfl (Xh (Za rfl ?_));rw[w2];refine Xm (Za rfl (Xh (Za rfl (Za rfl (Za (aj rfl) (Za (XN ..) ?_))))));refine Zc (λhp=>?_) (λhp=>?_)
 ·have hp:s.phase≠1:=by simpa using hp
  rw[if_pos hp];refine Za rfl (Za rfl (Za (aj rfl) (Za (v:=iv s.ak.length) (rd:=[]) (by simp[Yh]) (Za (Qf ..) ?_))))
  congr 1
  rw[Bool.eq_iff_iff]; simp
 have hp:¬s.phase≠1:=by simpa using hp
 rw[if_neg hp];refine Ze rfl (Yq _ _) (Za rfl (Za rfl (Za (aj rfl) (Za (v:=iv s.ak.length) (rd:=[]) (by simp[Yh]) ?_))));have eu:ah (σ2++[ab.map []]) σ2.length=.map (pg aa.bool (([]:List Int).map λa=>(a,true))):=Zi _ _;have hold:=Zg [ab.map []] m2 (by simp);have dL:σ2.length≠0:=by have:=Qh m2 (by simp); omega
 generalize σ2++[ab.map []]=τ at eu hold ⊢;generalize σ2.length=mb at eu dL ⊢;refine Zl (ι:=Nat) (λi vs τ=>vs=[iv i]∧i≤s.ak.length∧ah τ 0=.map (pg iv (([]++s.s0.ae.map λu=>(u.id,(0:Int)))++s.s1.ae.map λu=>(u.id,(1:Int))))∧ah τ mb=.map (pg aa.bool ((s.ak.take i).map λa=>(a,true)))∧dS s [] s.ak=dS s (s.ak.take i) (s.ak.drop i)) (λi=>s.ak.length-i) 0
  ⟨rfl,by omega,hold,by simpa using eu,by simp⟩ ?_
 clear eu hold m2;rintro i vs τ1 again ⟨rfl,hi,Rl,uI,hr⟩ aM;refine Za rfl (Zc (λh=>?_) (λh=>?_));rotate_left
 ·have h:i=s.ak.length:=by simp at h; omega
  subst h;rw[List.drop_length,dS] at hr;rw[hr,Bool.and_true];refine Za rfl (Za rfl (Za (aj rfl) ?_));cases dM:s.cc with
  |false=>
   refine Qb rfl (Qb rfl (Yd rfl (Yd rfl (Yd rfl (Yd rfl (Yd rfl (Yd rfl (Qb rfl (Za rfl ?_)))))))));simp
  |true=>
   refine Xa (Za rfl (Xa (Za rfl ?_)));cases bare with
   |true=>
    refine Qb rfl (Qb rfl (Qb rfl (Qb rfl (Qb rfl (Qb rfl (Xa (Za rfl (Za rfl ?_))))))));simp
   |false=>
    refine Xa (Za rfl (Xa (Za rfl (Xa (Za rfl (Xa (Za (aj rfl) (Xa (Za (v:=iv s.ak.length) (rd:=[]) (by simp[Yh]) (Xa (Za (ZZ ..) (Xa (Za rfl (Za rfl ?_))))))))))))));show aa.bool _=_
    congr 1
    rw[Bool.eq_iff_iff];simp[List.length_pos_iff]
 have h:i<s.ak.length:=by simpa using h
 have hJ:=Yy _ _ h;rw[eD h,dS] at hr;refine Za (Zp _ bL _ _ _ s.ak _ i h) (Za (aj rfl) (Za (G6 iv _ _ Rl _) ?_));rw[Wh,List.nil_append,Vc];generalize s.ak[i]=a at hJ hr ⊢;generalize ho:(if (aH s a).2.2=true then some (aH s a).1 else none)=o;have Ro:o.isSome=(aH s a).2.2:=by rw[←ho]; cases (aH s a).2.2<;>rfl
 have Rp:(aH s a).2.2=true→o.getD 0=(aH s a).1:=by intro q; rw[←ho,if_pos q]; rfl
 refine Za rfl (Za rfl (Za rfl ?_));refine MM (λ_=>rfl) (λ_=>rfl) (λ_=>rfl) (λ_=>rfl) (λ_=>aj rfl) (λ_=>XN ..) ?_;refine za (d:=(cf a ((s.ak.take i).map λa=>(a,true))).getD false) (λ_=>rfl) (λ_=>rfl) (λ_=>by rw[G6 aa.bool _ _ uI,SQ]) ?_;have Aa:=Mu a (s.ak.take i);refine Zc (λh2=>?_) (λh2=>?_)
 ·have:dS s [] s.ak=false:=by
   rw[hr,Bool.eq_false_iff]; intro q;simp only[Bool.and_eq_true,decide_eq_true_eq,Bool.not_eq_true'] at q;obtain⟨⟨q1,q2⟩,q3,q4⟩:=q;rw[Ro,Rp q1,q1,q2,Aa,q3] at h2;simp at h2
  rw[this]; simp
 ·simp only[Bool.or_eq_false_iff,Bool.not_eq_false',decide_eq_false_iff_not,Decidable.not_not] at h2;obtain⟨⟨q1,q2⟩,q3⟩:=h2;rw[Ro] at q1;rw[Rp q1] at q2;have kq:cf a ((s.ak.take i).map λa=>(a,true))=none:=by
   have:=GW a ((s.ak.take i).map λa=>(a,true));simp only[List.map_map,Function.comp_def,List.map_id'] at this;rw[←Aa,q3] at this;cases h5:cf a ((s.ak.take i).map λa=>(a,true)) with
   |none=>rfl
   |some v=>rw[h5] at this; cases this
  rw[Aa] at q3;rw[q1,q2,q3] at hr;have Fh:=Qh uI (by simp);refine Ze (IC aa.bool uI a true kq) (Xn _ Fh) (Za (Xk ..) ?_);rw[Zf (n:=i) (by omega)];refine aM (i+1) _ _ (by omega) ⟨rfl,by omega,Zj Rl (by simp) (λe=>dL e),?_,?_⟩
  ·rw[hJ,List.map_append]; exact Xj _ Fh
  ·rw[hJ,hr]; simp
end Go.Ah.Tz
end
section
namespace Go.Ah.Tz
open Go.Proofs.Tryz (prog)
def RI(σ:List ab)(rd:List Nat)(v:aa)(l:List Int):Prop:=aS (hp σ) rd v (bd l)
def RT(σ:List ab)(rd:List Nat)(v:aa)(l:List Th):Prop:=aS (hp σ) rd v (nA l)
theorem T3:∀ {l:List Int},∀r∈l.map bL,el r=true:=by
 intro l r hr;obtain⟨x,_,rfl⟩:=List.mem_map.1 hr; rfl
theorem Gq:∀ {l:List Th},∀r∈l.map bf,el r=true:=by
 intro l r hr;obtain⟨x,_,rfl⟩:=List.mem_map.1 hr; rfl
theorem RI.own{σ:List ab}{rd:List Nat}{b:Nat}{ex:Bool}{l:List Int}{n:Nat}(hb:ah σ b=.rows 1 (l.map bL))(cv:b∈rd)(hn:n=l.length):RI σ rd (.sl b 0 n ex) l:=
 aS.own hb cv (by simp[hn]) (Jo _ _ (by simp[hn])) T3
theorem RI.ro{σ:List ab}{rd:List Nat}(l:List Int):RI σ rd (bd l) l:=aS.ro rfl
theorem RI.af{σ:List ab}{rd:List Nat}:RI σ rd .af []:=aS.jl (aS.ro rfl) (λM u d=>d.eU 1)
theorem RT.af{σ:List ab}{rd:List Nat}:RT σ rd .af []:=aS.jl (aS.ro rfl) (λM u d=>d.eU 4)
theorem RT.own{σ:List ab}{rd:List Nat}{b:Nat}{ex:Bool}{l:List Th}{n:Nat}(hb:ah σ b=.rows 4 (l.map bf))(cv:b∈rd)(hn:n=l.length):RT σ rd (.sl b 0 n ex) l:=
 aS.own hb cv (by simp[hn]) (Jo _ _ (by simp[hn])) Gq
@[reducible] def F_(s:St)(a d0 h0 g0 u0 t0 d1 h1 g1 u1 t1:aa):List aa:=[iv s.turn,iv s.mover,ar s.phase,.bool s.cc,ar s.result,a,iv s.next,
 iv s.s0.aW,iv s.s0.dj,iv s.s0.most,d0,h0,g0,u0,t0,iv s.s1.aW,iv s.s1.dj,iv s.s1.most,d1,h1,g1,u1,t1]
def SB(σ:List ab)(rd:List Nat)(cs:List aa)(s:St):Prop:=bM (hp σ) rd cs (bX s)
theorem SB.mk{σ:List ab}{rd:List Nat}{s:St}{a d0 h0 g0 u0 t0 d1 h1 g1 u1 t1:aa}(x1:RI σ rd a s.ak)(x2:RI σ rd d0 s.s0.bJ)(x3:RI σ rd h0 s.s0.hand)(x4:RI σ rd g0 s.s0.aR)(x5:RT σ rd u0 s.s0.ae)(x6:RI σ rd t0 s.s0.told)
 (y2:RI σ rd d1 s.s1.bJ)(y3:RI σ rd h1 s.s1.hand)(y4:RI σ rd g1 s.s1.aR)(y5:RT σ rd u1 s.s1.ae)(y6:RI σ rd t1 s.s1.told):SB σ rd (F_ s a d0 h0 g0 u0 t0 d1 h1 g1 u1 t1) s:=
 .cons (aS.ro rfl) <| .cons (aS.ro rfl) <| .cons (aS.ro rfl) <| .cons (aS.ro rfl) <| .cons (aS.ro rfl) <| .cons x1 <| .cons (aS.ro rfl) <| .cons (aS.ro rfl) <| .cons (aS.ro rfl) <| .cons (aS.ro rfl) <| .cons x2 <| .cons x3 <| .cons x4 <| .cons x5 <| .cons x6 <|
 .cons (aS.ro rfl) <| .cons (aS.ro rfl) <| .cons (aS.ro rfl) <| .cons y2 <| .cons y3 <| .cons y4 <| .cons y5 <| .cons y6 .nil
theorem SB.ro{σ:List ab}{rd:List Nat}(s:St):SB σ rd (bX s) s:=bM.ro rfl
theorem SB.agg{σ:List ab}{rd:List Nat}{cs:List aa}{s:St}(h:SB σ rd cs s):aS (hp σ) rd (.agg cs) (eC s):=aS.agg h
def tz:Sd:=⟨0,0,0,[],[],[],[],[]⟩
def h_:St:=⟨0,0,0,false,0,[],0,tz,tz⟩
theorem SB.zero{σ:List ab}{rd:List Nat}:SB σ rd (F_ h_ .af .af .af .af .af .af .af .af .af .af .af) h_:=SB.mk .af .af .af .af .af .af .af .af .af .af .af
structure Ev where
 kind:Int
 side:Int
 card:Int
 id:Int
 other:Int
 n:Int
 ai:List Int
 deriving DecidableEq,Inhabited
@[reducible] def sK(e:Ev):List aa:=[ar e.kind,iv e.side,iv e.card,iv e.id,iv e.other,iv e.n,bd e.ai]
@[reducible] def HU(e:Ev):aa:=.agg (sK e)
def qB:Ev:=⟨0,0,0,0,0,0,[]⟩
theorem zt{σ:List ab}{rd:List Nat}{e:Ev}{v:aa}(h:RI σ rd v e.ai):aS (hp σ) rd (.agg [ar e.kind,iv e.side,iv e.card,iv e.id,iv e.other,iv e.n,v]) (HU e):=
 aS.agg (.cons (aS.ro rfl) <| .cons (aS.ro rfl) <| .cons (aS.ro rfl) <| .cons (aS.ro rfl) <| .cons (aS.ro rfl) <| .cons (aS.ro rfl) <| .cons h .nil)
attribute [local irreducible] al.rd al.pu al.wr al.dr al.gr al.gw al.gl al.gd al.opt au W
set_option maxHeartbeats 1000000
theorem c56(b:Bk)(hf:bE b=true)(fS:Zu b.ai)(s:St)(hs:cw 1000000000 s){σ:List ab}{bb sb:Nat}(h1:ah σ bb=.box (ed b))(h2:ah σ sb=.box (bX s)){K:aa→List ab→Prop}
 (hF:bt (ej b).1 b s true=false→K .bQ σ)(hT:bt (ej b).1 b s true=true→K (.an (σ++iC s).length 0) (σ++iC s++[.box (.an bb 0::jP s σ.length)])):g56 VV [.an bb 0,.an sb 0] σ K:=by
 unfold g56;have ny:hp σ bb=some (.box (ed b)):=ZE h1 (by simp);have kG:hp σ sb=some (.box (bX s)):=ZE h2 (by simp);refine ZP (rd:=[bb,sb]) (c111 b hf fS s hs true) rfl ke.plain (.cons (aS.box ny (by simp) (bM.ro rfl)) <| .cons (aS.box kG (by simp) (bM.ro rfl)) <| .cons (aS.ro rfl) .nil) rfl ?_;refine Za rfl (Zc (λh=>?_) (λh=>?_))
 ·exact hF (by simpa using h)
 refine Za rfl (Za (ld h2 rfl) ?_);refine DJ (c59 s hs) rfl mW.plain rfl ?_;have e1:(aa.agg (jP s 0)).bG (ZB σ.length)=.agg (jP s σ.length):=by
  simp[aa.bG,fg,ZB,Nat.add_comm]; omega
 have e2:Zw σ.length (iC s)=iC s:=by
  simp only[Zw,iC,tu,List.map_cons,List.map_append,List.map_nil,QP,Da]
 rw[e1,e2];refine Za rfl (Ze rfl (Yq _ _) ?_);exact hT (by simpa using h)
end Go.Ah.Tz
end
section
namespace Go.Ah.Tz
open Go.Proofs.Tryz (prog)
theorem NP(s:St)(n:Nat):(aa.agg (jP s 0)).bG (ZB n)=.agg (jP s n):=by
 simp[aa.bG,fg,ZB,Nat.add_comm]; omega
theorem OE(s:St)(n:Nat):Zw n (iC s)=iC s:=by
 simp only[Zw,iC,tu,List.map_cons,List.map_append,List.map_nil,QP,Da]
theorem N':∀l:List Int,QX (l.map bL)=true
 |[]=>rfl
 |x::l=>by simp only[List.map_cons,QX,N' l,Bool.and_true]; rfl
theorem Pw:∀l:List Th,QX (l.map bf)=true
 |[]=>rfl
 |x::l=>by simp only[List.map_cons,QX,Pw l,Bool.and_true]; rfl
theorem V7(s:St):xY (iC s)=true:=by
 simp only[iC,tu,List.cons_append,List.nil_append,xY,ab.cA,N',Pw,Bool.and_self]
theorem w59{s:St}(hs:cw 1000000000 s){σ:List ab}{rd:List Nat}{cs:List aa}(h:SB σ rd cs s){K:aa→List ab→Prop}(hK:K (.agg (jP s σ.length)) (σ++iC s)):VV.call (.call 59) [.agg cs] σ K:=by
 refine VN (c59 s hs) rfl mW.plain (.cons (SB.agg h) .nil) rfl (V7 s) ?_;rw[NP,OE]; exact hK
theorem pH.mono{n m:Nat}{s:Sd}(h:pH n s)(k:n≤m):pH m s:=⟨Nat.le_trans h.1 k,Nat.le_trans h.2 k,Nat.le_trans h.3 k,Nat.le_trans h.4 k,Nat.le_trans h.5 k⟩
theorem cw.mono{n m:Nat}{s:St}(h:cw n s)(k:n≤m):cw m s:=⟨Nat.le_trans h.1 k,h.2.mono k,h.3.mono k⟩
theorem Oi{e:Int}{b:Bk}{s:St}{bare:Bool}(h:bt e b s bare=true):Zv b s=true:=by
 simp only[bt,Bool.and_eq_true] at h;exact h.2.2.2.2.2.2.2.2.2.2.2.2.1
theorem Jh{n:Int}:gk n=true↔-1000000≤n∧n≤1000000:=by simp[gk]
theorem SB.copy{σ:List ab}{rd:List Nat}{s:St}{n:Nat}(key:∀i x,(iC s)[i]?=some x→ah σ (n+i)=x)(cv:∀i,i<11→n+i∈rd):SB σ rd (jP s n) s:=
 SB.mk (RI.own (key 0 _ rfl) (cv 0 (by decide)) rfl) (RI.own (key 1 _ rfl) (cv 1 (by decide)) rfl) (RI.own (key 2 _ rfl) (cv 2 (by decide)) rfl) (RI.own (key 3 _ rfl) (cv 3 (by decide)) rfl) (RT.own (key 4 _ rfl) (cv 4 (by decide)) rfl) (RI.own (key 5 _ rfl) (cv 5 (by decide)) rfl)
  (RI.own (key 6 _ rfl) (cv 6 (by decide)) rfl) (RI.own (key 7 _ rfl) (cv 7 (by decide)) rfl) (RI.own (key 8 _ rfl) (cv 8 (by decide)) rfl) (RT.own (key 9 _ rfl) (cv 9 (by decide)) rfl) (RI.own (key 10 _ rfl) (cv 10 (by decide)) rfl)
theorem Z1{agg:Bool}{σ:List ab}{b j n:Nat}{row:List aa}{v:aa}(hb:ah σ b=.box row)(hv:aF agg j n row=some v):av agg n (.an b j) σ=some v:=by
 simp only[av,hb,hv]
theorem sH(b:Bk)(hf:bE b=true)(fS:Zu b.ai)(s:St)(hs:cw 1000000000 s){σ:List ab}{bb sb n0 n:Nat}(kI:σ.length=n0)(hn:n0+11=n)(h1:ah σ bb=.box (ed b))(h2:ah σ sb=.box (bX s)){K:aa→List ab→Prop}
 (hF:bt (ej b).1 b s true=false→K .bQ σ)(hT:bt (ej b).1 b s true=true→K (.an n 0) (σ++iC s++[.box (.an bb 0::jP s n0)])):VV.call (.call 56) [.an bb 0,.an sb 0] σ K:=by
 subst kI; subst hn;refine Yu hP rfl qL rfl (c56 b hf fS s hs h1 h2 hF (λh=>?_));have:(σ++iC s).length=σ.length+11:=by simp[iC,tu]
 rw[this]; exact hT h
def St.side(s:St)(k:Int):Sd:=if k=0 then s.s0 else s.s1
def St.put(s:St)(k:Int)(d:Sd):St:=if k=0 then { s with s0:=d } else { s with s1:=d }
@[reducible] def FZ(s:St)(e:Ev)(x:aa):aa:=.aG [eC s,HU e,x]
@[reducible] def lC(r:St×Ev×Int):aa:=FZ r.1 r.2.1 (iv r.2.2)
theorem F0{σ:List ab}{rd:List Nat}{cs ec:List aa}{s:St}{e:Ev}{x:aa}(h1:SB σ rd cs s)(h2:aS (hp σ) rd (.agg ec) (HU e))(hx:x.ro=true):aS (hp σ) rd (.aG [.agg cs,.agg ec,x]) (FZ s e x):=
 aS.aG (.cons (SB.agg h1) <| .cons h2 <| .cons (aS.ro hx) .nil)
theorem ry{σ:List ab}{rd:List Nat}{cs ec:List aa}{r:St×Ev×Int}(h1:SB σ rd cs r.1)(h2:aS (hp σ) rd (.agg ec) (HU r.2.1)):aS (hp σ) rd (.aG [.agg cs,.agg ec,iv r.2.2]) (lC r):=F0 h1 h2 rfl
@[reducible] def bo:List aa:=F_ h_ .af .af .af .af .af .af .af .af .af .af .af
@[reducible] def dp:List aa:=[ar 0,iv 0,iv 0,iv 0,iv 0,iv 0,.af]
theorem s6{σ:List ab}{rd:List Nat}(e:Int):aS (hp σ) rd (.aG [.agg bo,.agg dp,iv e]) (lC (h_,qB,e)):=
 ry (r:=(h_,qB,e)) SB.zero (zt (e:=qB) RI.af)
end Go.Ah.Tz
end
section
namespace Go.Ah.Tz
open Go.Proofs.Tryz (prog)
attribute [local irreducible] al.rd al.pu al.wr al.dr al.gr al.gw al.gl al.gd al.opt au W
set_option maxHeartbeats 4000000
theorem c118(l:List Th)(hl:l.length≤1000000000)(id:FuncId)(fs cs:List aa)(hp:Xl prog id=true)(f:Th→Bool)(hc:∀x∈l,PC id (fs++[.agg (bf x)]++cs) (.bool (f x)))(hr:∀x,el (fs++[.agg (bf x)]++cs)=true) :
  PC 118 [nA l,.func (.func id) fs cs] (iv (dI f l 0)):=by
 refine Qd hP kf rfl rfl ?_;unfold g118;refine Za (v:=iv l.length) (rd:=[]) (by simp[Yh]) ?_;refine Zl (ι:=Nat) (λi vs s=>vs=[iv i]∧i≤l.length∧dI f l 0=dI f (l.drop i) i) (λi=>l.length-i) 0 ⟨rfl,by omega,by simp⟩ ?_;rintro i vs s again ⟨rfl,hi,jh⟩ aM;refine Za rfl (Zc (λh=>?_) (λh=>?_))
 ·have h:i<l.length:=by simpa using h
  refine Za (Zp _ bf _ _ _ l _ i h) (Za (aj rfl) ?_);refine Qc (hc _ (List.getElem_mem h)) rfl hp (hr _) ?_;rw[eD h,dI] at jh;refine Zc (λh2=>?_) (λh2=>?_)
  ·rw[if_pos h2] at jh; rw[jh]; rfl
  ·rw[if_neg (by rw[h2]; simp)] at jh;refine Za (Xk ..) ?_;rw[Zf (n:=i) (by omega)];exact aM (i+1) _ _ (by omega) ⟨rfl,by omega,by rw[jh]; push_cast; rfl⟩
 ·have h:i=l.length:=by simp at h; omega
  subst h;rw[List.drop_length,dI] at jh;rw[jh]
theorem c119(u:Th)(id:Int):PC 119 [.agg (bf u),.ay [iv id] 0] (.bool (decide (u.id=id))):=by
 refine Qd hP kg rfl rfl ?_;unfold g119;exact Ze rfl rfl (Za rfl (Za (ld rfl rfl) (Za rfl (Za (Qf ..) rfl))))
theorem N9(id:Int):∀(l:List Th) (n:Int),dI (λu:Th=>decide (u.id=id)) l n=match ga l id with
  |some k=>n+k
  |none=>-1
 |[],n=>rfl
 |u::l,n=>by
  have ih:=N9 id l (n+1);simp only[dI,ga,List.findIdx?_cons] at ih ⊢;by_cases h:u.id=id
  ·simp[h]
  ·simp only[decide_eq_false h,Bool.false_eq_true,if_false,ih];cases List.findIdx? (λu=>decide (u.id=id)) l with
   |none=>rfl
   |some k=>show n+1+(k:Int)=n+((k+1:Nat):Int); omega
theorem c71(s:St)(hs:cw 1000000000 s)(id:Int):PC 71 [eC s,iv id] (iU s id):=by
 have h0:=c118 s.s0.ae hs.s0.ae 119 [] [.ay [iv id] 0] kg.plain (λu=>decide (u.id=id)) (λx _=>c119 x id) (λx=>rfl);have h1:=c118 s.s1.ae hs.s1.ae 119 [] [.ay [iv id] 0] kg.plain (λu=>decide (u.id=id)) (λx _=>c119 x id) (λx=>rfl);have w1:IntKind.i64.wrap (0+1)=1:=by decide
 have w2:IntKind.i64.wrap (1+1)=2:=by decide
 rw[N9] at h0 h1;refine Qd hP iE rfl rfl ?_;unfold g71;refine Ze rfl rfl (Ze rfl rfl ?_);refine XF 3 (Xm ?_);refine Za rfl (Ye (Za rfl (Za rfl (Za rfl (Za rfl (Za rfl ?_))))));refine YB h0 rfl kf.plain rfl rfl ?_;simp only[iU,aH];cases q0:ga s.s0.ae id with
 |some k=>
  simp only[q0];refine Za (sE ..) ?_;rw[decide_eq_true (by omega)];exact Ye (by simp)
 |none=>
  simp only[q0];refine Za rfl (Xh (Za rfl ?_));rw[w1];refine Xm ?_;refine Za rfl (Ye (Za rfl (Za rfl (Za rfl (Za rfl (Za rfl ?_))))));refine YB h1 rfl kf.plain rfl rfl ?_;cases q1:ga s.s1.ae id with
  |some k=>
   simp only[q1];refine Za (sE ..) ?_;rw[decide_eq_true (by omega)];exact Ye (by simp)
  |none=>
   simp only[q1];refine Za rfl (Xh (Za rfl ?_));rw[w2];refine Xm ?_;exact Za rfl (Xh (by simp))
def ZQ(b:Bk)(c:Int):Int:=((b.ai[c.toNat]?).getD default).bC
def jj(b:Bk)(u:Th)(n:Int):Int:=max (IntKind.i64.wrap (n-ZQ b u.card)) 0
theorem yk(x:Cd):aF false 5 1 (cD x)=some (iv x.bC):=rfl
theorem J'(m:List aa)(aW n:Int):PC 66 [.ay m 0,.bQ,iv aW,iv n] (.aG [iv (IntKind.i64.wrap (aW-n)),iv n]):=by
 refine Qd hP mX rfl rfl ?_;unfold g66;exact Za rfl (Xh (Za (sG ..) rfl))
theorem Ka(b:Bk)(m:List aa)(u:Th)(aW n:Int)(h0:0≤u.card)(h1:u.card.toNat<b.ai.length):PC 66 [.ay (.ay (ed b) 0::m) 0,.ay (bf u) 0,iv aW,iv n] (.aG [iv (IntKind.i64.wrap (u.aK+jj b u n)),iv (jj b u n)]):=by
 refine Qd hP mX rfl rfl ?_;unfold g66;refine Za rfl (Ye (Za rfl (Za rfl (Za (aj rfl) (Za rfl (Za rfl (Za (aj rfl) (Za rfl (Za rfl (Za (aj rfl) ?_))))))))));have hx:=vJ [] cD false false 12 b.ai .i64 u.card h0 h1;refine Za hx (Za rfl (Za (aj (yk _)) (Za (sG ..) (Za (vn ..) ?_))));refine Za rfl (Za rfl (Za (aj rfl) (Za (Xk ..) ?_)));have:ZQ b u.card=(b.ai[u.card.toNat]).bC:=by simp[ZQ,List.getElem?_eq_getElem h1]
 rw[jj,this]
end Go.Ah.Tz
end
section
namespace Go.Ah.Tz
open Go.Proofs.Tryz (prog)
abbrev ll(s:St):List aa:=[.an 0 0,iv s.turn,iv s.mover,ar s.phase,.bool s.cc,ar s.result,.sl 6 0 s.ak.length false,iv s.next,iv s.s0.aW,iv s.s0.dj,iv s.s0.most,.sl 7 0 s.s0.bJ.length false,.sl 8 0 s.s0.hand.length false,.sl 9 0 s.s0.aR.length false,.sl 10 0 s.s0.ae.length false,.sl 11 0 s.s0.told.length false,iv s.s1.aW,iv s.s1.dj,iv s.s1.most,.sl 12 0 s.s1.bJ.length false,.sl 13 0 s.s1.hand.length false,.sl 14 0 s.s1.aR.length false,.sl 15 0 s.s1.ae.length false,.sl 16 0 s.s1.told.length false]
abbrev tv(s:St):List aa:=[iv s.turn,iv s.mover,ar s.phase,.bool s.cc,ar s.result,.sl 6 0 s.ak.length false,iv s.next,iv s.s0.aW,iv s.s0.dj,iv s.s0.most,.sl 7 0 s.s0.bJ.length false,.sl 8 0 s.s0.hand.length false,.sl 9 0 s.s0.aR.length false,.sl 10 0 s.s0.ae.length false,.sl 11 0 s.s0.told.length false,iv s.s1.aW,iv s.s1.dj,iv s.s1.most,.sl 12 0 s.s1.bJ.length false,.sl 13 0 s.s1.hand.length false,.sl 14 0 s.s1.aR.length false,.sl 15 0 s.s1.ae.length false,.sl 16 0 s.s1.told.length false]
abbrev vx(b:Bk)(s:St):List ab:=[.box (ed b),.box (bX s),.box bo,.box dp,.box bo,.box dp,.rows 1 (s.ak.map bL),.rows 1 (s.s0.bJ.map bL),.rows 1 (s.s0.hand.map bL),.rows 1 (s.s0.aR.map bL),.rows 4 (s.s0.ae.map bf),.rows 1 (s.s0.told.map bL),.rows 1 (s.s1.bJ.map bL),.rows 1 (s.s1.hand.map bL),.rows 1 (s.s1.aR.map bL),.rows 4 (s.s1.ae.map bf),.rows 1 (s.s1.told.map bL)]
abbrev pM:List ab:=[.dead,.dead,.dead,.dead,.dead,.dead,.dead,.dead,.dead,.dead,.dead,.dead,.dead,.dead,.dead,.dead,.dead,.dead]
def dA(n:Int):Int:=min (max n 0) 4000000
def jT(s:St)(kd k:Int)(i:Nat)(id:Int)(u:Th)(v:Int×Int):St×Ev×Int:=
 if gk v.1 then (s.put k { s.side k with ae:=(s.side k).ae.set i { u with aK:=v.1 } },⟨kd,k,0,id,0,v.2,[]⟩,0) else (h_,qB,171)
def nD(s:St)(kd k:Int)(v:Int×Int):St×Ev×Int:=
 if gk v.1 then (s.put k { s.side k with aW:=v.1 },⟨kd,k,0,0,0,v.2,[]⟩,0) else (h_,qB,171)
def im(kd:Int)(fP:Int→Int×Int)(fU:Th→Int×Int)(s:St)(id k:Int):St×Ev×Int:=
 if id=0 then nD s kd k (fP (s.side k).aW) else if id<0 then (h_,qB,4) else match ga s.s0.ae id with
  |some i=>jT s kd 0 i id ((s.s0.ae[i]?).getD default) (fU ((s.s0.ae[i]?).getD default))
  |none=>match ga s.s1.ae id with
   |some i=>jT s kd 1 i id ((s.s1.ae[i]?).getD default) (fU ((s.s1.ae[i]?).getD default))
   |none=>(h_,qB,4)
def cz(b:Bk)(s:St)(id k n:Int):St×Ev×Int:=
 im 5 (λl=>(IntKind.i64.wrap (l-dA n),dA n)) (λu=>(IntKind.i64.wrap (u.aK+jj b u (dA n)),jj b u (dA n))) s id k
def gT(kd:Int)(F:FuncId):aq:=λA xs σ ret=>match xs with
|[x0,x1,x2,x3,x4]=>
 A.wr (Zm [x0] σ) σ λLV σ=>
 A.wr (Zm [x1] σ) σ λLY σ=>
 A.wr (Xe bo [] σ) σ λyV σ=>
 A.wr (Xe dp [] σ) σ λyW σ=>
 A.call (.call 64) [LV,LY,(.int .i8 kd),x2,x3,x4,(.func (.func F) [] [])] σ λvc σ=>
 A.rd (Xc 0 [vc] σ) λGg=>
 A.rd (Xc 1 [vc] σ) λGi=>
 A.rd (Xc 2 [vc] σ) λGk=>
 A.wr (Xb 23 [yV,Gg] σ) σ λ_ σ=>
 A.wr (Xb 7 [yW,Gi] σ) σ λ_ σ=>
 A.opt (av true 23 yV σ) λr8=>
 A.opt (av true 7 yW σ) λr9=>
 ret (.aG [r8,r9,Gk]) σ
|_=>A.stop
theorem JP{b:Bk}{next:Int}:∀ {l:List Th} {ids:List Int},Xr b next ids l=true→∀u∈l,Qt b next u=true
 |v::l,ids,h,u,hu=>by
  simp only[Xr,Bool.and_eq_true] at h;rcases List.mem_cons.1 hu with rfl|hu
  ·exact h.1
  ·exact JP h.2.2 u hu
theorem NT{b:Bk}{next:Int}{u:Th}(h:Qt b next u=true):0≤u.card∧u.card.toNat<b.ai.length:=by
 simp only[Qt,Bool.and_eq_true,decide_eq_true_eq] at h;omega
theorem HD{e:Int}{b:Bk}{s:St}{bare:Bool}(h:bt e b s bare=true):∀u∈s.s0.ae,0≤u.card∧u.card.toNat<b.ai.length:=by
 have:=Oi h;simp only[Zv,Bool.and_eq_true] at this;exact λu hu=>NT (JP this.2.1 u hu)
theorem Ho{e:Int}{b:Bk}{s:St}{bare:Bool}(h:bt e b s bare=true):∀u∈s.s1.ae,0≤u.card∧u.card.toNat<b.ai.length:=by
 have:=Oi h;simp only[Zv,Bool.and_eq_true] at this;exact λu hu=>NT (JP this.2.2.2 u hu)
theorem x7{l:List Th}{id:Int}{k:Nat}(h:ga l id=some k):∃u,l[k]?=some u∧u.id=id:=by
 obtain⟨hk,h2,_⟩:=List.findIdx?_eq_some_iff_getElem.1 h;exact⟨l[k],by simp[hk],by simpa using h2⟩
theorem O0{σ:List ab}{b k:Nat}{l:List Th}{u:Th}(hU:ah σ b=.rows 4 (l.map bf))(hk:l[k]?=some u)(now:Int):Xb 1 [.ptr b k 2,iv now] σ=.ok .aI [] [(b,.rows 4 ((l.set k { u with aK:=now }).map bf))]:=by
 have h1:nth (l.map bf) k=some (bf u):=by rw[QU,List.getElem?_map,hk]; rfl
 have hl:k<(l.map bf).length:=by simpa using (cJ hk).1
 have h2:Yz k [iv u.id,iv u.card,iv now,.bool u.nv] (l.map bf)=some ((l.set k { u with aK:=now }).map bf):=by
  rw[Z3 hl,List.map_set]; rfl
 show (match ah σ b with
   |.rows sz rs=>match nth rs k with
    |some row=>match cellsOf (iv now) with
     | some cs=>bif Nat.beq cs.length 1 then (match bR 2 cs row with
      |some row'=>match Yz k row' rs with
       |some iu=>az.ok .aI [] [(b,.rows sz iu)]
       |none=>.stop
      | none=>.stop) else .stop
     |none=>.stop
    |none=>.stop
   | _=>.stop)=_
 rw[hU];simp only[h1];show (match Yz k [iv u.id,iv u.card,iv now,.bool u.nv] (l.map bf) with
  |some iu=>az.ok .aI [] [(b,.rows 4 iu)]
  | none=>.stop)=_
 rw[h2]
attribute [local irreducible] al.rd al.pu al.wr al.dr al.gr al.gw al.gl al.gd al.opt au W
set_option maxHeartbeats 4000000
theorem Ek{b:Bk}(hf:bE b=true)(fS:Zu b.ai){s:St}(hs:cw 2000000 s)(hm:bt (ej b).1 b s true=true){f F F2:FuncId}{kd:Int}(hg:GQ f 5 (gT kd F)){gF:aq}(re:GQ F 1 gF)(hF:∀x τ (K:aa→List ab→Prop),K (.func (.func F2) [x] []) τ→gF VV [x] τ K)(qS:Xl prog F2=true)(n:Int)(v:Int×Int)(hc:PC F2 [.ay (.ay (ed b) 0::bX s) 0,.bQ,iv s.s0.aW,iv (dA n)] (.aG [iv v.1,iv v.2])):PC f [eY b,eC s,iv 0,iv 0,iv n] (lC (nD s kd 0 v)):=by
 have hr:nD s kd 0 v=(if gk v.1 then (s.put 0 { s.s0 with aW:=v.1 },⟨kd,0,0,0,0,v.2,[]⟩,0) else (h_,qB,171)):=rfl;refine Zy hP hg rfl ?_;unfold gT;refine Ze (v:=.an 0 0) (rd:=[]) (up:=[(0,.box (ed b))]) rfl rfl ?_;refine Ze (v:=.an 1 0) (rd:=[]) (up:=[(1,.box (bX s))]) rfl rfl ?_;refine Ze (v:=.an 2 0) (rd:=[]) (up:=[(2,.box bo)]) rfl rfl ?_;refine Ze (v:=.an 3 0) (rd:=[]) (up:=[(3,.box dp)]) rfl rfl ?_;refine Yu hP rfl jx rfl ?_;unfold g64;refine Ze (v:=.an 4 0) (rd:=[]) (up:=[(4,.box bo)]) rfl rfl ?_;refine Ze (v:=.an 5 0) (rd:=[]) (up:=[(5,.box dp)]) rfl rfl ?_;refine sH b hf fS s (hs.mono (by decide)) (n0:=6) (n:=17) rfl rfl rfl rfl (λh=>by rw[hm] at h; cases h) (λ_=>?_);refine Za rfl (Xh (Za (vn ..) (Za (ZK ..) (Za (XN ..) ?_))));refine Qk λk11 jB=>?_;refine Xh ?_;rw[jB];refine Za rfl ?_;refine vm (c:=false) (d:=false) (λ_=>rfl) (λ_=>rfl) ?_;refine Xh (Za rfl (Za rfl (Za rfl (Za rfl ?_))));refine Hz hP (ys:=[.an 17 0]) (zs:=[.an 17 0]) rfl re rfl [] [17] (v:=.func (.func F2) [.an 17 0] []) (m:=0) (σ:=((vx b s).append [.box (ll s)])) (τ:=pM) (τ':=pM) (by decide) (show ∀b∈[17],b<18 by decide) rfl rfl ?_ rfl (u:=.func (.func F2) [.an 17 0] []) (up:=[]) (σ':=((vx b s).append [.box (ll s)])) rfl rfl rfl ?_
 ·exact hF _ _ _ ⟨rfl,rfl⟩
 refine Zk rfl (Zk rfl (Yk (ld (row:=(ll s)) rfl rfl) (Yl _) ?_));refine GY (rd:=[0,6,7,8,9,10,11,12,13,14,15,16,17]) (hc) rfl qS (.cons (aS.box (row:=(ll s)) rfl (by decide) (.cons (aS.box (row:=ed b) rfl (by decide) (bM.ro rfl)) ?_)) <| .cons (aS.ro rfl) <| .cons (aS.ro rfl) <| .cons (aS.ro rfl) .nil) rfl ?_
 ·exact SB.mk (s:=s) (RI.own rfl (by decide) rfl) (RI.own rfl (by decide) rfl) (RI.own rfl (by decide) rfl) (RI.own rfl (by decide) rfl) (RT.own rfl (by decide) rfl) (RI.own rfl (by decide) rfl) (RI.own rfl (by decide) rfl) (RI.own rfl (by decide) rfl) (RI.own rfl (by decide) rfl) (RT.own rfl (by decide) rfl) (RI.own rfl (by decide) rfl)
 refine Zk rfl (Zk rfl (XJ (by kernel_rfl) ?_));refine Qc (c57 _) rfl g_.plain rfl (Za rfl (Zc (λh2=>?_) (λh2=>?_)))
 ·have h3:gk v.1=false:=by simpa using h2
  replace hr:=hr.trans (if_neg (by rw[h3]; decide))
  refine Za rfl (Za rfl (Ze rfl rfl (Ze rfl rfl (Ql rfl (Ql rfl ?_)))));refine Za rfl (Za rfl (Za rfl (Ze rfl rfl (Ze rfl rfl (Ql rfl (Ql rfl ?_))))));rw[hr];exact⟨[],s6 171⟩
 have h3:gk v.1=true:=by simpa using h2
 replace hr:=hr.trans (if_pos h3)
 refine Za rfl ?_;refine Qk λk63 rf=>?_;refine Xh (Za rfl (Za rfl (Ze (v:=.aI) (rd:=[]) (up:=[(17,.box ((ll s).set 8 (iv v.1)))]) rfl rfl ?_)));rw[rf];refine Za rfl (Za rfl (Za (ld (row:=((ll s).set 8 (iv v.1))) rfl rfl) (Za rfl ?_)));refine Ze (v:=.aI) (rd:=[]) (up:=[(4,.box ((tv s).set 7 (iv v.1)))]) rfl rfl ?_;refine Ze (v:=.aI) (rd:=[]) (up:=[(5,.box [ar kd,iv 0,iv 0,iv 0,iv 0,iv v.2,.af])]) rfl rfl (Ql rfl (Ql rfl ?_));refine Za rfl (Za rfl (Za rfl ?_));refine Ze (v:=.aI) (rd:=[]) (up:=[(2,.box ((tv s).set 7 (iv v.1)))]) rfl rfl ?_;refine Ze (v:=.aI) (rd:=[]) (up:=[(3,.box [ar kd,iv 0,iv 0,iv 0,iv 0,iv v.2,.af])]) rfl rfl (Ql rfl (Ql rfl ?_));rw[hr];refine⟨List.range 18,?_⟩;refine ry (cs:=((tv s).set 7 (iv v.1))) (r:=({ s with s0:={ s.s0 with aW:=v.1 } },⟨kd,0,0,0,0,v.2,[]⟩,0)) ?_ (zt (e:=⟨kd,0,0,0,0,v.2,[]⟩) RI.af);refine SB.mk (rd:=List.range 18) (s:={ s with s0:={ s.s0 with aW:=v.1 } }) ?_ ?_ ?_ ?_ ?_ ?_ ?_ ?_ ?_ ?_ ?_<;>first|exact RI.own rfl (by decide) rfl|exact RT.own rfl (by decide) rfl
theorem El{b:Bk}(hf:bE b=true)(fS:Zu b.ai){s:St}(hs:cw 2000000 s)(hm:bt (ej b).1 b s true=true){f F F2:FuncId}{kd:Int}(hg:GQ f 5 (gT kd F)){gF:aq}(re:GQ F 1 gF)(hF:∀x τ (K:aa→List ab→Prop),K (.func (.func F2) [x] []) τ→gF VV [x] τ K)(qS:Xl prog F2=true)(n:Int)(v:Int×Int)(hc:PC F2 [.ay (.ay (ed b) 0::bX s) 0,.bQ,iv s.s1.aW,iv (dA n)] (.aG [iv v.1,iv v.2])):PC f [eY b,eC s,iv 0,iv 1,iv n] (lC (nD s kd 1 v)):=by
 have hr:nD s kd 1 v=(if gk v.1 then (s.put 1 { s.s1 with aW:=v.1 },⟨kd,1,0,0,0,v.2,[]⟩,0) else (h_,qB,171)):=rfl;refine Zy hP hg rfl ?_;unfold gT;refine Ze (v:=.an 0 0) (rd:=[]) (up:=[(0,.box (ed b))]) rfl rfl ?_;refine Ze (v:=.an 1 0) (rd:=[]) (up:=[(1,.box (bX s))]) rfl rfl ?_;refine Ze (v:=.an 2 0) (rd:=[]) (up:=[(2,.box bo)]) rfl rfl ?_;refine Ze (v:=.an 3 0) (rd:=[]) (up:=[(3,.box dp)]) rfl rfl ?_;refine Yu hP rfl jx rfl ?_;unfold g64;refine Ze (v:=.an 4 0) (rd:=[]) (up:=[(4,.box bo)]) rfl rfl ?_;refine Ze (v:=.an 5 0) (rd:=[]) (up:=[(5,.box dp)]) rfl rfl ?_;refine sH b hf fS s (hs.mono (by decide)) (n0:=6) (n:=17) rfl rfl rfl rfl (λh=>by rw[hm] at h; cases h) (λ_=>?_);refine Za rfl (Xh (Za (vn ..) (Za (ZK ..) (Za (XN ..) ?_))));refine Qk λk11 jB=>?_;refine Xh ?_;rw[jB];refine Za rfl ?_;refine vm (c:=false) (d:=false) (λ_=>rfl) (λ_=>rfl) ?_;refine Xh (Za rfl (Za rfl (Za rfl (Za rfl ?_))));refine Hz hP (ys:=[.an 17 0]) (zs:=[.an 17 0]) rfl re rfl [] [17] (v:=.func (.func F2) [.an 17 0] []) (m:=0) (σ:=((vx b s).append [.box (ll s)])) (τ:=pM) (τ':=pM) (by decide) (show ∀b∈[17],b<18 by decide) rfl rfl ?_ rfl (u:=.func (.func F2) [.an 17 0] []) (up:=[]) (σ':=((vx b s).append [.box (ll s)])) rfl rfl rfl ?_
 ·exact hF _ _ _ ⟨rfl,rfl⟩
 refine Zk rfl (Zk rfl (Yk (ld (row:=(ll s)) rfl rfl) (Yl _) ?_));refine GY (rd:=[0,6,7,8,9,10,11,12,13,14,15,16,17]) (hc) rfl qS (.cons (aS.box (row:=(ll s)) rfl (by decide) (.cons (aS.box (row:=ed b) rfl (by decide) (bM.ro rfl)) ?_)) <| .cons (aS.ro rfl) <| .cons (aS.ro rfl) <| .cons (aS.ro rfl) .nil) rfl ?_
 ·exact SB.mk (s:=s) (RI.own rfl (by decide) rfl) (RI.own rfl (by decide) rfl) (RI.own rfl (by decide) rfl) (RI.own rfl (by decide) rfl) (RT.own rfl (by decide) rfl) (RI.own rfl (by decide) rfl) (RI.own rfl (by decide) rfl) (RI.own rfl (by decide) rfl) (RI.own rfl (by decide) rfl) (RT.own rfl (by decide) rfl) (RI.own rfl (by decide) rfl)
 refine Zk rfl (Zk rfl (XJ (by kernel_rfl) ?_));refine Qc (c57 _) rfl g_.plain rfl (Za rfl (Zc (λh2=>?_) (λh2=>?_)))
 ·have h3:gk v.1=false:=by simpa using h2
  replace hr:=hr.trans (if_neg (by rw[h3]; decide))
  refine Za rfl (Za rfl (Ze rfl rfl (Ze rfl rfl (Ql rfl (Ql rfl ?_)))));refine Za rfl (Za rfl (Za rfl (Ze rfl rfl (Ze rfl rfl (Ql rfl (Ql rfl ?_))))));rw[hr];exact⟨[],s6 171⟩
 have h3:gk v.1=true:=by simpa using h2
 replace hr:=hr.trans (if_pos h3)
 refine Za rfl ?_;refine Qk λk63 rf=>?_;refine Xh (Za rfl (Za rfl (Ze (v:=.aI) (rd:=[]) (up:=[(17,.box ((ll s).set 16 (iv v.1)))]) rfl rfl ?_)));rw[rf];refine Za rfl (Za rfl (Za (ld (row:=((ll s).set 16 (iv v.1))) rfl rfl) (Za rfl ?_)));refine Ze (v:=.aI) (rd:=[]) (up:=[(4,.box ((tv s).set 15 (iv v.1)))]) rfl rfl ?_;refine Ze (v:=.aI) (rd:=[]) (up:=[(5,.box [ar kd,iv 1,iv 0,iv 0,iv 0,iv v.2,.af])]) rfl rfl (Ql rfl (Ql rfl ?_));refine Za rfl (Za rfl (Za rfl ?_));refine Ze (v:=.aI) (rd:=[]) (up:=[(2,.box ((tv s).set 15 (iv v.1)))]) rfl rfl ?_;refine Ze (v:=.aI) (rd:=[]) (up:=[(3,.box [ar kd,iv 1,iv 0,iv 0,iv 0,iv v.2,.af])]) rfl rfl (Ql rfl (Ql rfl ?_));rw[hr];refine⟨List.range 18,?_⟩;refine ry (cs:=((tv s).set 15 (iv v.1))) (r:=({ s with s1:={ s.s1 with aW:=v.1 } },⟨kd,1,0,0,0,v.2,[]⟩,0)) ?_ (zt (e:=⟨kd,1,0,0,0,v.2,[]⟩) RI.af);refine SB.mk (rd:=List.range 18) (s:={ s with s1:={ s.s1 with aW:=v.1 } }) ?_ ?_ ?_ ?_ ?_ ?_ ?_ ?_ ?_ ?_ ?_<;>first|exact RI.own rfl (by decide) rfl|exact RT.own rfl (by decide) rfl
theorem Em{b:Bk}(hf:bE b=true)(fS:Zu b.ai){s:St}(hs:cw 2000000 s)(hm:bt (ej b).1 b s true=true){f F F2:FuncId}{kd:Int}(hg:GQ f 5 (gT kd F)){gF:aq}(re:GQ F 1 gF)(hF:∀x τ (K:aa→List ab→Prop),K (.func (.func F2) [x] []) τ→gF VV [x] τ K)(qS:Xl prog F2=true)(id sd n:Int)(iA:id≠0)(lx:¬id<0)(k:Nat)(vw:iU s id=.aG [iv 0,iv k,.bool true])(u:Th)(hk:s.s0.ae[k]?=some u)(v:Int×Int)(hc:PC F2 [.ay (.ay (ed b) 0::bX s) 0,.ay (bf u) 0,iv s.s0.aW,iv (dA n)] (.aG [iv v.1,iv v.2])):PC f [eY b,eC s,iv id,iv sd,iv n] (lC (jT s kd 0 k id u v)):=by
 have h71:=c71 s (hs.mono (by decide)) id;rw[vw] at h71;have kH:k<s.s0.ae.length:=(cJ hk).1;have hr:jT s kd 0 k id u v=(if gk v.1 then (s.put 0 { s.s0 with ae:=s.s0.ae.set k { u with aK:=v.1 } },⟨kd,0,0,id,0,v.2,[]⟩,0) else (h_,qB,171)):=rfl;refine Zy hP hg rfl ?_;unfold gT;refine Ze (v:=.an 0 0) (rd:=[]) (up:=[(0,.box (ed b))]) rfl rfl ?_;refine Ze (v:=.an 1 0) (rd:=[]) (up:=[(1,.box (bX s))]) rfl rfl ?_;refine Ze (v:=.an 2 0) (rd:=[]) (up:=[(2,.box bo)]) rfl rfl ?_;refine Ze (v:=.an 3 0) (rd:=[]) (up:=[(3,.box dp)]) rfl rfl ?_;refine Yu hP rfl jx rfl ?_;unfold g64;refine Ze (v:=.an 4 0) (rd:=[]) (up:=[(4,.box bo)]) rfl rfl ?_;refine Ze (v:=.an 5 0) (rd:=[]) (up:=[(5,.box dp)]) rfl rfl ?_;refine sH b hf fS s (hs.mono (by decide)) (n0:=6) (n:=17) rfl rfl rfl rfl (λh=>by rw[hm] at h; cases h) (λ_=>?_);refine Za rfl (Xh (Za (vn ..) (Za (ZK ..) (Za (XN ..) ?_))));refine Qk λk11 jB=>?_;rw[decide_eq_true iA];refine Ye (Za rfl (Za (ld (row:=bX s) rfl rfl) ?_));refine Qc h71 rfl iE.plain rfl (Za rfl (Za rfl (Za rfl (Za rfl ?_))));refine vm (c:=false) (λ_=>rfl) (λ_=>Qv ..) ?_;rw[decide_eq_false lx];refine Xh (Za rfl (Za rfl (Za rfl (Za rfl (Za rfl (Za (ld (row:=(ll s)) rfl rfl) ?_))))));refine Za (v:=.ptr 10 k 0) (rd:=[10]) ?_ ?_
 ·have:=vK (((vx b s).append [.box (ll s)])) 10 0 s.s0.ae.length false 4 (s.s0.ae.map bf) .i64 k kH rfl;rw[Nat.zero_add] at this; exact this
 rw[jB];refine Za rfl ?_;refine vm (c:=false) (d:=false) (λ_=>rfl) (λ_=>rfl) ?_;refine Xh (Za rfl (Za rfl (Za rfl (Za rfl ?_))));refine Hz hP (ys:=[.an 17 0]) (zs:=[.an 17 0]) rfl re rfl [] [17] (v:=.func (.func F2) [.an 17 0] []) (m:=0) (σ:=((vx b s).append [.box (ll s)])) (τ:=pM) (τ':=pM) (by decide) (show ∀b∈[17],b<18 by decide) rfl rfl ?_ rfl (u:=.func (.func F2) [.an 17 0] []) (up:=[]) (σ':=((vx b s).append [.box (ll s)])) rfl rfl rfl ?_
 ·exact hF _ _ _ ⟨rfl,rfl⟩
 refine Zk rfl (Zk rfl (Yk (ld (row:=(ll s)) rfl rfl) (Yl _) ?_));refine GY (rd:=[0,6,7,8,9,10,11,12,13,14,15,16,17]) (hc) rfl qS (.cons (aS.box (row:=(ll s)) rfl (by decide) (.cons (aS.box (row:=ed b) rfl (by decide) (bM.ro rfl)) ?_)) <| .cons (aS.ptr (rs:=s.s0.ae.map bf) (row:=bf u) rfl (by decide) (by rw[List.getElem?_map,hk]; rfl) (bM.ro rfl)) <| .cons (aS.ro rfl) <| .cons (aS.ro rfl) .nil) rfl ?_
 ·exact SB.mk (s:=s) (RI.own rfl (by decide) rfl) (RI.own rfl (by decide) rfl) (RI.own rfl (by decide) rfl) (RI.own rfl (by decide) rfl) (RT.own rfl (by decide) rfl) (RI.own rfl (by decide) rfl) (RI.own rfl (by decide) rfl) (RI.own rfl (by decide) rfl) (RI.own rfl (by decide) rfl) (RT.own rfl (by decide) rfl) (RI.own rfl (by decide) rfl)
 refine Zk rfl (Zk rfl (XJ (by kernel_rfl) ?_));refine Qc (c57 _) rfl g_.plain rfl (Za rfl (Zc (λh2=>?_) (λh2=>?_)))
 ·have h3:gk v.1=false:=by simpa using h2
  replace hr:=hr.trans (if_neg (by rw[h3]; decide))
  refine Za rfl (Za rfl (Ze rfl rfl (Ze rfl rfl (Ql rfl (Ql rfl ?_)))));refine Za rfl (Za rfl (Za rfl (Ze rfl rfl (Ze rfl rfl (Ql rfl (Ql rfl ?_))))));rw[hr];exact⟨[],s6 171⟩
 have h3:gk v.1=true:=by simpa using h2
 replace hr:=hr.trans (if_pos h3)
 refine Za rfl ?_;refine Qk λk63 rf=>?_;refine Ye (Za rfl (Za rfl (Ze (v:=.aI) (rd:=[]) (up:=[(10,.rows 4 ((s.s0.ae.set k { u with aK:=v.1 }).map bf))]) (O0 rfl hk _) rfl ?_)));rw[rf];refine Za rfl (Za rfl (Za (ld (row:=(ll s)) rfl rfl) (Za rfl ?_)));refine Ze (v:=.aI) (rd:=[]) (up:=[(4,.box (tv s))]) rfl rfl ?_;refine Ze (v:=.aI) (rd:=[]) (up:=[(5,.box [ar kd,iv 0,iv 0,iv id,iv 0,iv v.2,.af])]) rfl rfl (Ql rfl (Ql rfl ?_));refine Za rfl (Za rfl (Za rfl ?_));refine Ze (v:=.aI) (rd:=[]) (up:=[(2,.box (tv s))]) rfl rfl ?_;refine Ze (v:=.aI) (rd:=[]) (up:=[(3,.box [ar kd,iv 0,iv 0,iv id,iv 0,iv v.2,.af])]) rfl rfl (Ql rfl (Ql rfl ?_));rw[hr];refine⟨List.range 18,?_⟩;refine ry (cs:=(tv s)) (r:=({ s with s0:={ s.s0 with ae:=s.s0.ae.set k { u with aK:=v.1 } } },⟨kd,0,0,id,0,v.2,[]⟩,0)) ?_ (zt (e:=⟨kd,0,0,id,0,v.2,[]⟩) RI.af);refine SB.mk (rd:=List.range 18) (s:={ s with s0:={ s.s0 with ae:=s.s0.ae.set k { u with aK:=v.1 } } }) ?_ ?_ ?_ ?_ ?_ ?_ ?_ ?_ ?_ ?_ ?_<;>first|exact RI.own rfl (by decide) rfl|exact RT.own rfl (by decide) rfl|exact RT.own (l:=s.s0.ae.set k { u with aK:=v.1 }) rfl (by decide) (by simp)
theorem En{b:Bk}(hf:bE b=true)(fS:Zu b.ai){s:St}(hs:cw 2000000 s)(hm:bt (ej b).1 b s true=true){f F F2:FuncId}{kd:Int}(hg:GQ f 5 (gT kd F)){gF:aq}(re:GQ F 1 gF)(hF:∀x τ (K:aa→List ab→Prop),K (.func (.func F2) [x] []) τ→gF VV [x] τ K)(qS:Xl prog F2=true)(id sd n:Int)(iA:id≠0)(lx:¬id<0)(k:Nat)(vw:iU s id=.aG [iv 1,iv k,.bool true])(u:Th)(hk:s.s1.ae[k]?=some u)(v:Int×Int)(hc:PC F2 [.ay (.ay (ed b) 0::bX s) 0,.ay (bf u) 0,iv s.s1.aW,iv (dA n)] (.aG [iv v.1,iv v.2])):PC f [eY b,eC s,iv id,iv sd,iv n] (lC (jT s kd 1 k id u v)):=by
 have h71:=c71 s (hs.mono (by decide)) id;rw[vw] at h71;have kH:k<s.s1.ae.length:=(cJ hk).1;have hr:jT s kd 1 k id u v=(if gk v.1 then (s.put 1 { s.s1 with ae:=s.s1.ae.set k { u with aK:=v.1 } },⟨kd,1,0,id,0,v.2,[]⟩,0) else (h_,qB,171)):=rfl;refine Zy hP hg rfl ?_;unfold gT;refine Ze (v:=.an 0 0) (rd:=[]) (up:=[(0,.box (ed b))]) rfl rfl ?_;refine Ze (v:=.an 1 0) (rd:=[]) (up:=[(1,.box (bX s))]) rfl rfl ?_;refine Ze (v:=.an 2 0) (rd:=[]) (up:=[(2,.box bo)]) rfl rfl ?_;refine Ze (v:=.an 3 0) (rd:=[]) (up:=[(3,.box dp)]) rfl rfl ?_;refine Yu hP rfl jx rfl ?_;unfold g64;refine Ze (v:=.an 4 0) (rd:=[]) (up:=[(4,.box bo)]) rfl rfl ?_;refine Ze (v:=.an 5 0) (rd:=[]) (up:=[(5,.box dp)]) rfl rfl ?_;refine sH b hf fS s (hs.mono (by decide)) (n0:=6) (n:=17) rfl rfl rfl rfl (λh=>by rw[hm] at h; cases h) (λ_=>?_);refine Za rfl (Xh (Za (vn ..) (Za (ZK ..) (Za (XN ..) ?_))));refine Qk λk11 jB=>?_;rw[decide_eq_true iA];refine Ye (Za rfl (Za (ld (row:=bX s) rfl rfl) ?_));refine Qc h71 rfl iE.plain rfl (Za rfl (Za rfl (Za rfl (Za rfl ?_))));refine vm (c:=false) (λ_=>rfl) (λ_=>Qv ..) ?_;rw[decide_eq_false lx];refine Xh (Za rfl (Za rfl (Za rfl (Za rfl (Za rfl (Za (ld (row:=(ll s)) rfl rfl) ?_))))));refine Za (v:=.ptr 15 k 0) (rd:=[15]) ?_ ?_
 ·have:=vK (((vx b s).append [.box (ll s)])) 15 0 s.s1.ae.length false 4 (s.s1.ae.map bf) .i64 k kH rfl;rw[Nat.zero_add] at this; exact this
 rw[jB];refine Za rfl ?_;refine vm (c:=false) (d:=false) (λ_=>rfl) (λ_=>rfl) ?_;refine Xh (Za rfl (Za rfl (Za rfl (Za rfl ?_))));refine Hz hP (ys:=[.an 17 0]) (zs:=[.an 17 0]) rfl re rfl [] [17] (v:=.func (.func F2) [.an 17 0] []) (m:=0) (σ:=((vx b s).append [.box (ll s)])) (τ:=pM) (τ':=pM) (by decide) (show ∀b∈[17],b<18 by decide) rfl rfl ?_ rfl (u:=.func (.func F2) [.an 17 0] []) (up:=[]) (σ':=((vx b s).append [.box (ll s)])) rfl rfl rfl ?_
 ·exact hF _ _ _ ⟨rfl,rfl⟩
 refine Zk rfl (Zk rfl (Yk (ld (row:=(ll s)) rfl rfl) (Yl _) ?_));refine GY (rd:=[0,6,7,8,9,10,11,12,13,14,15,16,17]) (hc) rfl qS (.cons (aS.box (row:=(ll s)) rfl (by decide) (.cons (aS.box (row:=ed b) rfl (by decide) (bM.ro rfl)) ?_)) <| .cons (aS.ptr (rs:=s.s1.ae.map bf) (row:=bf u) rfl (by decide) (by rw[List.getElem?_map,hk]; rfl) (bM.ro rfl)) <| .cons (aS.ro rfl) <| .cons (aS.ro rfl) .nil) rfl ?_
 ·exact SB.mk (s:=s) (RI.own rfl (by decide) rfl) (RI.own rfl (by decide) rfl) (RI.own rfl (by decide) rfl) (RI.own rfl (by decide) rfl) (RT.own rfl (by decide) rfl) (RI.own rfl (by decide) rfl) (RI.own rfl (by decide) rfl) (RI.own rfl (by decide) rfl) (RI.own rfl (by decide) rfl) (RT.own rfl (by decide) rfl) (RI.own rfl (by decide) rfl)
 refine Zk rfl (Zk rfl (XJ (by kernel_rfl) ?_));refine Qc (c57 _) rfl g_.plain rfl (Za rfl (Zc (λh2=>?_) (λh2=>?_)))
 ·have h3:gk v.1=false:=by simpa using h2
  replace hr:=hr.trans (if_neg (by rw[h3]; decide))
  refine Za rfl (Za rfl (Ze rfl rfl (Ze rfl rfl (Ql rfl (Ql rfl ?_)))));refine Za rfl (Za rfl (Za rfl (Ze rfl rfl (Ze rfl rfl (Ql rfl (Ql rfl ?_))))));rw[hr];exact⟨[],s6 171⟩
 have h3:gk v.1=true:=by simpa using h2
 replace hr:=hr.trans (if_pos h3)
 refine Za rfl ?_;refine Qk λk63 rf=>?_;refine Ye (Za rfl (Za rfl (Ze (v:=.aI) (rd:=[]) (up:=[(15,.rows 4 ((s.s1.ae.set k { u with aK:=v.1 }).map bf))]) (O0 rfl hk _) rfl ?_)));rw[rf];refine Za rfl (Za rfl (Za (ld (row:=(ll s)) rfl rfl) (Za rfl ?_)));refine Ze (v:=.aI) (rd:=[]) (up:=[(4,.box (tv s))]) rfl rfl ?_;refine Ze (v:=.aI) (rd:=[]) (up:=[(5,.box [ar kd,iv 1,iv 0,iv id,iv 0,iv v.2,.af])]) rfl rfl (Ql rfl (Ql rfl ?_));refine Za rfl (Za rfl (Za rfl ?_));refine Ze (v:=.aI) (rd:=[]) (up:=[(2,.box (tv s))]) rfl rfl ?_;refine Ze (v:=.aI) (rd:=[]) (up:=[(3,.box [ar kd,iv 1,iv 0,iv id,iv 0,iv v.2,.af])]) rfl rfl (Ql rfl (Ql rfl ?_));rw[hr];refine⟨List.range 18,?_⟩;refine ry (cs:=(tv s)) (r:=({ s with s1:={ s.s1 with ae:=s.s1.ae.set k { u with aK:=v.1 } } },⟨kd,1,0,id,0,v.2,[]⟩,0)) ?_ (zt (e:=⟨kd,1,0,id,0,v.2,[]⟩) RI.af);refine SB.mk (rd:=List.range 18) (s:={ s with s1:={ s.s1 with ae:=s.s1.ae.set k { u with aK:=v.1 } } }) ?_ ?_ ?_ ?_ ?_ ?_ ?_ ?_ ?_ ?_ ?_<;>first|exact RI.own rfl (by decide) rfl|exact RT.own rfl (by decide) rfl|exact RT.own (l:=s.s1.ae.set k { u with aK:=v.1 }) rfl (by decide) (by simp)
theorem PD{b:Bk}(hf:bE b=true)(fS:Zu b.ai){s:St}(hs:cw 2000000 s)(hm:bt (ej b).1 b s true=true){f F F2:FuncId}{kd:Int}(hg:GQ f 5 (gT kd F)){gF:aq}(re:GQ F 1 gF)(hF:∀x τ (K:aa→List ab→Prop),K (.func (.func F2) [x] []) τ→gF VV [x] τ K)(qS:Xl prog F2=true)(id sd n:Int)(iA:id≠0)(v:aa)(w:aa)(x:Bool)(vw:iU s id=.aG [v,w,.bool x])(hx:id<0∨x=false):PC f [eY b,eC s,iv id,iv sd,iv n] (lC (h_,qB,4)):=by
 have h71:=c71 s (hs.mono (by decide)) id;rw[vw] at h71;have sP:el [.aG [v,w,.bool x]]=true:=by rw[←vw]; rfl
 refine Zy hP hg rfl ?_;unfold gT;refine Ze (v:=.an 0 0) (rd:=[]) (up:=[(0,.box (ed b))]) rfl rfl ?_;refine Ze (v:=.an 1 0) (rd:=[]) (up:=[(1,.box (bX s))]) rfl rfl ?_;refine Ze (v:=.an 2 0) (rd:=[]) (up:=[(2,.box bo)]) rfl rfl ?_;refine Ze (v:=.an 3 0) (rd:=[]) (up:=[(3,.box dp)]) rfl rfl ?_;refine Yu hP rfl jx rfl ?_;unfold g64;refine Ze (v:=.an 4 0) (rd:=[]) (up:=[(4,.box bo)]) rfl rfl ?_;refine Ze (v:=.an 5 0) (rd:=[]) (up:=[(5,.box dp)]) rfl rfl ?_;refine sH b hf fS s (hs.mono (by decide)) (n0:=6) (n:=17) rfl rfl rfl rfl (λh=>by rw[hm] at h; cases h) (λ_=>?_);refine Za rfl (Xh (Za (vn ..) (Za (ZK ..) (Za (XN ..) ?_))));refine Qk λk11 jB=>?_;rw[decide_eq_true iA];refine Ye (Za rfl (Za (ld (row:=bX s) rfl rfl) ?_));refine Qc h71 rfl iE.plain rfl (Za rfl (Za rfl (Za rfl (Za rfl ?_))));refine vm (c:=!x) (λ_=>rfl) (λ_=>Qv ..) ?_;rw[show (!x||decide (id<0))=true by rcases hx with h|h<;>simp[h]];refine Ye ?_;refine Za rfl (Za rfl (Ze rfl rfl (Ze rfl rfl (Ql rfl (Ql rfl ?_)))));refine Za rfl (Za rfl (Za rfl (Ze rfl rfl (Ze rfl rfl (Ql rfl (Ql rfl ?_))))));exact⟨[],s6 4⟩
theorem cT{b:Bk}(hf:bE b=true)(fS:Zu b.ai){s:St}(hs:cw 2000000 s)(hm:bt (ej b).1 b s true=true){f F F2:FuncId}{kd:Int}(hg:GQ f 5 (gT kd F)){gF:aq}(re:GQ F 1 gF)(hF:∀x τ (K:aa→List ab→Prop),K (.func (.func F2) [x] []) τ→gF VV [x] τ K)(qS:Xl prog F2=true)(id sd n:Int)(h0:sd=0∨sd=1){fP:Int→Int×Int}{fU:Th→Int×Int}(P1:∀m aW,PC F2 [.ay m 0,.bQ,iv aW,iv (dA n)] (.aG [iv (fP aW).1,iv (fP aW).2]))(P2:∀m u aW,0≤u.card→u.card.toNat<b.ai.length→PC F2 [.ay (.ay (ed b) 0::m) 0,.ay (bf u) 0,iv aW,iv (dA n)] (.aG [iv (fU u).1,iv (fU u).2])) :
  PC f [eY b,eC s,iv id,iv sd,iv n] (lC (im kd fP fU s id sd)):=by
 unfold im;by_cases iA:id=0
 ·rw[if_pos iA]; subst iA;rcases h0 with rfl|rfl
  ·exact Ek hf fS hs hm hg re hF qS n _ (P1 _ _)
  ·exact El hf fS hs hm hg re hF qS n _ (P1 _ _)
 rw[if_neg iA];by_cases lx:id<0
 ·rw[if_pos lx];exact PD hf fS hs hm hg re hF qS id sd n iA _ _ _ rfl (.inl lx)
 rw[if_neg lx];cases q0:ga s.s0.ae id with
 |some k=>
  obtain⟨u,hk,_⟩:=x7 q0;have ES:=HD hm u (List.mem_of_getElem? hk);simp only[hk,Option.getD_some];exact Em hf fS hs hm hg re hF qS id sd n iA lx k (by simp[iU,aH,q0]) u hk _ (P2 _ _ _ ES.1 ES.2)
 |none=>
  cases q1:ga s.s1.ae id with
  |some k=>
   obtain⟨u,hk,_⟩:=x7 q1;have ES:=Ho hm u (List.mem_of_getElem? hk);simp only[hk,Option.getD_some];exact En hf fS hs hm hg re hF qS id sd n iA lx k (by simp[iU,aH,q0,q1]) u hk _ (P2 _ _ _ ES.1 ES.2)
  |none=>exact PD hf fS hs hm hg re hF qS id sd n iA _ _ _ rfl (.inr (by simp[aH,q0,q1]))
theorem w65(x:aa)(τ:List ab)(K:aa→List ab→Prop)(h:K (.func (.func 66) [x] []) τ):g65 VV [x] τ K:=by
 unfold g65;exact Za rfl h
theorem c22(b:Bk)(hf:bE b=true)(fS:Zu b.ai)(s:St)(hs:cw 2000000 s)(hm:bt (ej b).1 b s true=true)(id sd n:Int)(h0:sd=0∨sd=1):PC 22 [eY b,eC s,iv id,iv sd,iv n] (lC (cz b s id sd n)):=
 cT hf fS hs hm (show GQ 22 5 (gT 5 65) from oI) qO w65 mX.plain id sd n h0 (λm aW=>J' m aW _) (λm u aW h1 h2=>Ka b m u aW _ h1 h2)
end Go.Ah.Tz
end
section
namespace Go.Ah.Tz
open Go.Proofs.Tryz (prog)
theorem Is{e:Int}{b:Bk}{s:St}(h:bt e b s false=true):bt e b s true=true:=by
 simp only[bt,Bool.and_eq_true] at h ⊢;obtain⟨h1,h2,h3,h4,h5,h6,h7,h8,h9,h10,h11,h12,h13,h14⟩:=h;refine⟨h1,h2,h3,h4,h5,h6,h7,h8,h9,h10,h11,h12,h13,?_⟩;by_cases hp:s.phase≠1
 ·rw[if_pos hp] at h14 ⊢; exact h14
 ·rw[if_neg hp] at h14 ⊢;simp only[Bool.and_eq_true] at h14 ⊢;exact⟨by simp,h14.2⟩
theorem w19{s:St}(hs:cw 1000000000 s){σ:List ab}{K:aa→List ab→Prop}(hK:K (.agg (jP s σ.length)) (σ++iC s)):VV.call (.call 19) [eC s] σ K:=by
 refine DJ (c19 s hs) rfl ud.plain rfl ?_;rw[NP,OE]; exact hK
theorem Wc{s:St}(hs:cw 1000000000 s){σ:List ab}{K:aa→aa→List ab→Prop}(hK:∀τ n,σ.length=n→τ.length=n+12→(∀c y,ah σ c=.box y→ah τ c=.box y)→ah τ (n+11)=.box (jP s n)→(∀i x,(iC s)[i]?=some x→ah τ (n+i)=x)→K (.an (n+11) 0) .aI τ) :
  VV.call (.call 19) [eC s] σ λv σ=>VV.wr (Xe bo [] σ) σ λt σ=>VV.wr (Xb 23 [t,v] σ) σ (K t):=by
 refine w19 hs ?_;have hl:(σ++iC s).length=σ.length+11:=by simp[iC,tu]
 refine Yt (row:=jP s σ.length) (row':=jP s σ.length) rfl rfl rfl ?_;have h11:=Zi (σ++iC s) (.box (jP s σ.length));rw[hl] at h11 ⊢;refine hK _ _ rfl (by simp[iC,tu]) (λc y h=>Zg _ (Zg _ h (by simp)) (by simp)) h11 (λi x hx=>?_);have hi:i<11:=(cJ hx).1;exact ZN (by rw[List.getElem?_append_left (by omega),List.getElem?_append_right (by omega)]; simpa using hx)
theorem J9(a:St)(ha:cw 1000000000 a):PC 20 [eC a,eC a] (.bool true):=by
 have:=c20 a a ha
 rwa [decide_eq_true rfl] at this
end Go.Ah.Tz
end
section
namespace Go.Ah.Tz
open Go.Proofs.Tryz (prog)
abbrev RD(s:St):List aa:=[.an 0 0,iv s.turn,iv s.mover,ar s.phase,.bool s.cc,ar s.result,.sl 2 0 s.ak.length false,iv s.next,iv s.s0.aW,iv s.s0.dj,iv s.s0.most,.sl 3 0 s.s0.bJ.length false,.sl 4 0 s.s0.hand.length false,.sl 5 0 s.s0.aR.length false,.sl 6 0 s.s0.ae.length false,.sl 7 0 s.s0.told.length false,iv s.s1.aW,iv s.s1.dj,iv s.s1.most,.sl 8 0 s.s1.bJ.length false,.sl 9 0 s.s1.hand.length false,.sl 10 0 s.s1.aR.length false,.sl 11 0 s.s1.ae.length false,.sl 12 0 s.s1.told.length false]
def Zz(b:Bk)(c:Int):Cd:=(b.ai[c.toNat]?).getD default
def iQ(b:Bk)(place:Int):List Th→Int→Int×Int→Int×Int
 |[],_,a=>a
 |u::l,i,a=>iQ b place l (i+1) (if i=place then (IntKind.i64.wrap (a.1+(Zz b u.card).bU),IntKind.i64.wrap (a.2+(Zz b u.card).aT)) else (IntKind.i64.wrap (a.1+(Zz b u.card).cG),IntKind.i64.wrap (a.2+(Zz b u.card).dq)))
def hZ(b:Bk)(l:List Th)(place:Int):Int×Int:=iQ b place l 0 (0,0)
theorem tR(x:Cd):aF false 3 1 (cD x)=some (iv x.bU):=rfl
theorem tS(x:Cd):aF false 4 1 (cD x)=some (iv x.aT):=rfl
theorem tT(x:Cd):aF false 6 1 (cD x)=some (iv x.cG):=rfl
theorem tU(x:Cd):aF false 7 1 (cD x)=some (iv x.dq):=rfl
theorem xj{σ:List ab}{b i j n sz:Nat}{agg:Bool}{rs:List (List aa)}{row:List aa}{v:aa}(hb:ah σ b=.rows sz rs)(hi:rs[i]?=some row)(hv:aF agg j n row=some v):Zd agg n [.ptr b i j] σ=.ok v [b] []:=by
 show (match ah σ b with
   |.rows _ rs=>match nth rs i with
    |some row=>match aF agg j n row with
     |some v=>az.ok v [b] []
     |none=>.stop
    |none=>.stop
   | _=>.stop)=_
 rw[hb];simp only[QU,hi,hv]
attribute [local irreducible] al.rd al.pu al.wr al.dr al.gr al.gw al.gl al.gd al.opt au W
set_option maxHeartbeats 4000000
theorem Eg(b:Bk)(s:St)(hl:s.s0.ae.length≤1000000000)(hu:∀u∈s.s0.ae,0≤u.card∧u.card.toNat<b.ai.length)(place:Int):PC 75 [.ay (.ay (ed b) 0::bX s) 0,iv 0,iv place] (.aG [iv (hZ b s.s0.ae place).1,iv (hZ b s.s0.ae place).2]):=by
 refine Qd hP kN rfl rfl ?_;unfold g75;refine Za rfl (Za rfl (Za rfl (Za rfl (Za rfl (Za (v:=nA s.s0.ae) (rd:=[]) (aj rfl) (Za (v:=iv s.s0.ae.length) (rd:=[]) (by simp[Yh]) ?_))))));refine Zl (ι:=Nat) (λi vs _=>(∃a:Int×Int,vs=[iv i,iv a.1,iv a.2]∧hZ b s.s0.ae place=iQ b place (s.s0.ae.drop i) i a)∧i≤s.s0.ae.length) (λi=>s.s0.ae.length-i) 0 ⟨⟨(0,0),rfl,by simp[hZ]⟩,by omega⟩ ?_;rintro i vs σ again ⟨⟨a,rfl,hr⟩,hi⟩ aM;refine Za rfl (Zc (λh=>?_) (λh=>?_));rotate_left
 ·have h:i=s.s0.ae.length:=by simp at h; omega
  subst h;rw[List.drop_length,iQ] at hr;show aa.aG [iv a.1,iv a.2]=_;rw[hr]
 have h:i<s.s0.ae.length:=by simpa using h
 have nf:=List.getElem_mem h;rw[eD h,iQ] at hr;have bW:=λ(t:List ab)=>Zp t bf false false 4 s.s0.ae .i64 i h;generalize s.s0.ae[i]=u at nf hr bW;have pA:=hu u nf;have pS:=λ(t:List ab)=>vJ t cD false false 12 b.ai .i64 u.card pA.1 pA.2;have se:Zz b u.card=b.ai[u.card.toNat]:=by simp[Zz,List.getElem?_eq_getElem pA.2]
 rw[se] at hr;generalize b.ai[u.card.toNat]=c at hr pS;refine Qk λk10 pW=>?_;refine Za (bW _) (Za (aj rfl) (Yt (row:=bf u) (row':=bf u) rfl rfl rfl ?_));have hB:=Zi σ (.box (bf u));refine Za rfl (Za rfl (Za (aj rfl) (Za rfl (Za rfl (Za (aj rfl) (Za rfl (Za (ld hB rfl) (Za (pS _) (Za (Qf ..) ?_)))))))));refine Zc (λhp=>?_) (λhp=>?_)
 ·rw[if_pos (of_decide_eq_true hp)] at hr;refine Za rfl (Za rfl (Za (aj (tR _)) (Za (Xk ..) (Za rfl (Za rfl (Za (aj (tS _)) (Za (Xk ..) ?_)))))));rw[pW];refine Za (Xk ..) ?_;rw[Zf (n:=i) (by omega)];exact aM (i+1) _ _ (by omega) ⟨⟨_,rfl,by rw[hr]; push_cast; rfl⟩,by omega⟩
 ·rw[if_neg (of_decide_eq_false hp)] at hr;refine Za rfl (Za rfl (Za (aj (tT _)) (Za (Xk ..) (Za rfl (Za rfl (Za (aj (tU _)) (Za (Xk ..) ?_)))))));rw[pW];refine Za (Xk ..) ?_;rw[Zf (n:=i) (by omega)];exact aM (i+1) _ _ (by omega) ⟨⟨_,rfl,by rw[hr]; push_cast; rfl⟩,by omega⟩
theorem Eh(b:Bk)(s:St)(hl:s.s1.ae.length≤1000000000)(hu:∀u∈s.s1.ae,0≤u.card∧u.card.toNat<b.ai.length)(place:Int):PC 75 [.ay (.ay (ed b) 0::bX s) 0,iv 1,iv place] (.aG [iv (hZ b s.s1.ae place).1,iv (hZ b s.s1.ae place).2]):=by
 refine Qd hP kN rfl rfl ?_;unfold g75;refine Za rfl (Za rfl (Za rfl (Za rfl (Za rfl (Za (v:=nA s.s1.ae) (rd:=[]) (aj rfl) (Za (v:=iv s.s1.ae.length) (rd:=[]) (by simp[Yh]) ?_))))));refine Zl (ι:=Nat) (λi vs _=>(∃a:Int×Int,vs=[iv i,iv a.1,iv a.2]∧hZ b s.s1.ae place=iQ b place (s.s1.ae.drop i) i a)∧i≤s.s1.ae.length) (λi=>s.s1.ae.length-i) 0 ⟨⟨(0,0),rfl,by simp[hZ]⟩,by omega⟩ ?_;rintro i vs σ again ⟨⟨a,rfl,hr⟩,hi⟩ aM;refine Za rfl (Zc (λh=>?_) (λh=>?_));rotate_left
 ·have h:i=s.s1.ae.length:=by simp at h; omega
  subst h;rw[List.drop_length,iQ] at hr;show aa.aG [iv a.1,iv a.2]=_;rw[hr]
 have h:i<s.s1.ae.length:=by simpa using h
 have nf:=List.getElem_mem h;rw[eD h,iQ] at hr;have bW:=λ(t:List ab)=>Zp t bf false false 4 s.s1.ae .i64 i h;generalize s.s1.ae[i]=u at nf hr bW;have pA:=hu u nf;have pS:=λ(t:List ab)=>vJ t cD false false 12 b.ai .i64 u.card pA.1 pA.2;have se:Zz b u.card=b.ai[u.card.toNat]:=by simp[Zz,List.getElem?_eq_getElem pA.2]
 rw[se] at hr;generalize b.ai[u.card.toNat]=c at hr pS;refine Qk λk10 pW=>?_;refine Za (bW _) (Za (aj rfl) (Yt (row:=bf u) (row':=bf u) rfl rfl rfl ?_));have hB:=Zi σ (.box (bf u));refine Za rfl (Za rfl (Za (aj rfl) (Za rfl (Za rfl (Za (aj rfl) (Za rfl (Za (ld hB rfl) (Za (pS _) (Za (Qf ..) ?_)))))))));refine Zc (λhp=>?_) (λhp=>?_)
 ·rw[if_pos (of_decide_eq_true hp)] at hr;refine Za rfl (Za rfl (Za (aj (tR _)) (Za (Xk ..) (Za rfl (Za rfl (Za (aj (tS _)) (Za (Xk ..) ?_)))))));rw[pW];refine Za (Xk ..) ?_;rw[Zf (n:=i) (by omega)];exact aM (i+1) _ _ (by omega) ⟨⟨_,rfl,by rw[hr]; push_cast; rfl⟩,by omega⟩
 ·rw[if_neg (of_decide_eq_false hp)] at hr;refine Za rfl (Za rfl (Za (aj (tT _)) (Za (Xk ..) (Za rfl (Za rfl (Za (aj (tU _)) (Za (Xk ..) ?_)))))));rw[pW];refine Za (Xk ..) ?_;rw[Zf (n:=i) (by omega)];exact aM (i+1) _ _ (by omega) ⟨⟨_,rfl,by rw[hr]; push_cast; rfl⟩,by omega⟩
end Go.Ah.Tz
end
section
namespace Go.Ah.Tz
open Go.Proofs.Tryz (prog)
attribute [local irreducible] al.rd al.pu al.wr al.dr al.gr al.gw al.gl al.gd al.opt au W
set_option maxHeartbeats 4000000
theorem Oz{σ:List ab}{sz b n i:Nat}{ex:Bool}{rs:List (List aa)}(hb:ah σ b=.rows sz rs)(hi:i≤n):∃v rd,ZW sz [.sl b 0 n ex,iv i] σ=.ok v rd []∧((i<n∧v=.sl b i (n-i) ex∧rd=[b])∨(i=n∧v=.ax false false sz []∧rd=[])):=by
 by_cases h:i<n
 ·refine⟨.sl b i (n - i) ex,[b],?_,.inl ⟨h,rfl,rfl⟩⟩;show (match ah σ b with
   |.rows s _=>bif Nat.beq s sz then (bif Nat.blt i n then az.ok (.sl b (0+i) (n-i) ex) [b] [] else bif Nat.beq i n then .ok (.ax false false sz []) [] [] else .stop) else .stop
   | _=>.stop)=_
  rw[hb];have:Nat.blt i n=true:=Nat.ble_eq_true_of_le h;simp only[Nat.beq_refl,cond_true,this,Nat.zero_add]
 ·have e:i=n:=by omega
  subst e;refine⟨.ax false false sz [],[],?_,.inr ⟨rfl,rfl,rfl⟩⟩;show (match ah σ b with
   |.rows s _=>bif Nat.beq s sz then (bif Nat.blt i i then az.ok (.sl b (0+i) (i-i) ex) [b] [] else bif Nat.beq i i then .ok (.ax false false sz []) [] [] else .stop) else .stop
   | _=>.stop)=_
  rw[hb];have:Nat.blt i i=false:=by
   cases e:Nat.blt i i with
   |false=>rfl
   |true=>have:=fQ e; omega
  simp only[Nat.beq_refl,cond_true,this,cond_false]
theorem S0{σ:List ab}{b m:Nat}{L:List Int}(hb:ah σ b=.rows 1 (L.map bL))(hm:m<L.length)(x:Int):Xb 1 [.ptr b m 0,iv x] σ=.ok .aI [] [(b,.rows 1 ((L.set m x).map bL))]:=by
 have hl:m<(L.map bL).length:=by simpa using hm
 have h1:nth (L.map bL) m=some (bL L[m]):=by rw[QU,List.getElem?_map,List.getElem?_eq_getElem hm]; rfl
 have h2:Yz m [iv x] (L.map bL)=some ((L.set m x).map bL):=by
  rw[Z3 hl,List.map_set]; rfl
 show (match ah σ b with
   |.rows sz rs=>match nth rs m with
    |some row=>match cellsOf (iv x) with
     | some cs=>bif Nat.beq cs.length 1 then (match bR 0 cs row with
      |some row'=>match Yz m row' rs with
       |some iu=>az.ok .aI [] [(b,.rows sz iu)]
       |none=>.stop
      | none=>.stop) else .stop
     |none=>.stop
    |none=>.stop
   | _=>.stop)=_
 rw[hb];simp only[h1];show (match Yz m [iv x] (L.map bL) with
  |some iu=>az.ok .aI [] [(b,.rows 1 iu)]
  | none=>.stop)=_
 rw[h2]
end Go.Ah.Tz
end
section
namespace Go.Ah.Tz
open Go.Proofs.Tryz (prog)
abbrev SO(x:St)(g0 g1:Nat):List aa:=[iv x.turn,iv x.mover,ar x.phase,.bool x.cc,ar x.result,.sl 3 0 x.ak.length false,iv x.next,iv x.s0.aW,iv x.s0.dj,iv x.s0.most,.sl 4 0 x.s0.bJ.length false,.sl 5 0 x.s0.hand.length false,.sl g0 0 x.s0.aR.length false,.sl 7 0 x.s0.ae.length false,.sl 8 0 x.s0.told.length false,iv x.s1.aW,iv x.s1.dj,iv x.s1.most,.sl 9 0 x.s1.bJ.length false,.sl 10 0 x.s1.hand.length false,.sl g1 0 x.s1.aR.length false,.sl 12 0 x.s1.ae.length false,.sl 13 0 x.s1.told.length false]
def PI(e:Ev):List aa:=[ar e.kind,iv e.side,iv e.card,iv e.id,iv e.other,iv e.n,.af]
def jm(τ τ':List ab)(ex:List Nat):Prop:=τ.length≤τ'.length∧∀c,c<τ.length→c∉ex→ah τ' c=ah τ c
theorem jm.app(τ l:List ab):jm τ (τ++l) []:=⟨by simp,λc hc _=>Yp l hc⟩
theorem jm.set(τ:List ab)(b:Nat)(x:ab):jm τ (τ.set b x) [b]:=⟨by simp,λc hc h=>Yi x hc (by simpa using h)⟩
theorem jm.get{a b:List ab}{e:List Nat}(h:jm a b e){c:Nat}{x:ab}(hx:ah a c=x)(hd:x≠.dead)(hn:c∉e):ah b c=x:=by
 rw[h.2 c (Qh hx hd) hn]; exact hx
structure RL (b:Bk) (s x:St) (g0 g1:Nat) (τ:List ab):Prop where
 k0:ah τ 0=.box (ed b)
 k1:ah τ 1=.box (bX s)
 k2:ah τ 2=.box bo
 mv:ah τ 14=.box (.an 0 0::SO x g0 g1)
 at_:∃r,ah τ 3=.rows 1 ((x.ak++r).map bL)
 r4:ah τ 4=.rows 1 (x.s0.bJ.map bL)
 r5:ah τ 5=.rows 1 (x.s0.hand.map bL)
 gr0:ah τ g0=.rows 1 (x.s0.aR.map bL)
 r7:∃r,ah τ 7=.rows 4 ((x.s0.ae++r).map bf)
 r8:ah τ 8=.rows 1 (x.s0.told.map bL)
 r9:ah τ 9=.rows 1 (x.s1.bJ.map bL)
 r10:ah τ 10=.rows 1 (x.s1.hand.map bL)
 gr1:ah τ g1=.rows 1 (x.s1.aR.map bL)
 r12:∃r,ah τ 12=.rows 4 ((x.s1.ae++r).map bf)
 r13:ah τ 13=.rows 1 (x.s1.told.map bL)
 n0:g0=6∨15≤g0
 n1:g1=11∨15≤g1
 ne:g0≠g1
end Go.Ah.Tz
end
section
namespace Go.Ah.Tz
theorem X3{n:Nat}{l:List Int}{most:Int}:Qq n l most=true↔(l.length:Int)≤most∧∀c∈l,0≤c∧c<n:=by
 simp[Qq,List.all_eq_true]
structure nI (b:Bk) (x:Sd):Prop where
 aW:gk x.aW=true
 dj:0≤x.dj∧gk x.dj=true
 most:0≤x.most∧x.most≤10
 bJ:Qq b.ai.length x.bJ 60=true
 hand:Qq b.ai.length x.hand 10=true
 aR:Qq b.ai.length x.aR 1000000=true
 told:Qq b.ai.length x.told 1000000=true
 ae:x.ae.length≤7
theorem SV{b:Bk}{x:Sd}:Zo b.ai.length x=true↔nI b x:=by
 simp only[Zo,Bool.and_eq_true,decide_eq_true_eq];constructor
 ·rintro⟨h1,h2,h3,h4,h5,h6,h7,h8,h9,h10⟩;exact⟨h1,⟨h2,h3⟩,⟨h4,h5⟩,h6,h7,h8,h9,by omega⟩
 ·rintro⟨h1,⟨h2,h3⟩,⟨h4,h5⟩,h6,h7,h8,h9,h10⟩;exact⟨h1,h2,h3,h4,h5,h6,h7,h8,h9,by omega⟩
theorem Ix{b:Bk}{next:Int}:∀ {l:List Th} {ids:List Int},Xr b next ids l=true↔(∀u∈l,Qt b next u=true)∧(l.map Th.id).Nodup∧∀u∈l,u.id∉ids
 |[],ids=>by simp[Xr]
 |u::l,ids=>by
  simp only[Xr,Bool.and_eq_true,Ix (l:=l),Bool.not_eq_true',List.map_cons,List.nodup_cons,List.mem_cons,forall_eq_or_imp,List.mem_append,not_or];have hc:ids.contains u.id=false↔u.id∉ids:=by simp
  rw[hc];constructor
  ·rintro⟨h1,h2,h3,h4,h5⟩;refine⟨⟨h1,h3⟩,⟨?_,h4⟩,h2,λv hv=>(h5 v hv).1⟩;intro hm;obtain⟨v,hv,e⟩:=List.mem_map.1 hm;exact(h5 v hv).2.1 e
  ·rintro⟨⟨h1,h3⟩,⟨h6,h4⟩,h2,h5⟩;exact⟨h1,h2,h3,h4,λv hv=>⟨h5 v hv,λe=>h6 (List.mem_map.2 ⟨v,hv,e⟩),by simp⟩⟩
def IQ(b:Bk)(s:St):Prop:=(∀u∈s.s0.ae++s.s1.ae,Qt b s.next u=true)∧((s.s0.ae++s.s1.ae).map Th.id).Nodup
theorem OH{b:Bk}{s:St}:(Xr b s.next [] s.s0.ae=true∧Xr b s.next (s.s0.ae.map Th.id) s.s1.ae=true)↔IQ b s:=by
 rw[Ix,Ix,IQ,List.map_append,List.nodup_append];constructor
 ·rintro⟨⟨h1,h2,_⟩,h3,h4,h5⟩;refine⟨λu hu=>?_,h2,h4,λa ha c hc e=>?_⟩
  ·rcases List.mem_append.1 hu with hu|hu
   ·exact h1 u hu
   ·exact h3 u hu
  ·subst e;obtain⟨v,hv,rfl⟩:=List.mem_map.1 hc;exact h5 v hv ha
 ·rintro⟨h1,h2,h3,h4⟩;refine⟨⟨λu hu=>h1 u (List.mem_append_left _ hu),h2,by simp⟩,λu hu=>h1 u (List.mem_append_right _ hu),h3,λu hu hm=>h4 _ hm _ (List.mem_map.2 ⟨u,hu,rfl⟩) rfl⟩
theorem JK{s:St}:∀ {l prev:List Int},dS s prev l=true↔(∀a∈l,(aH s a).2.2=true∧(aH s a).1=s.mover)∧l.Nodup∧∀a∈l,a∉prev
 |[],prev=>by simp[dS]
 |a::l,prev=>by
  simp only[dS,Bool.and_eq_true,JK (l:=l),decide_eq_true_eq,Bool.not_eq_true',List.nodup_cons,List.mem_cons,forall_eq_or_imp,List.mem_append,not_or];have hc:prev.contains a=false↔a∉prev:=by simp
  rw[hc];constructor
  ·rintro⟨h1,h2,h3,h4,h5⟩;exact⟨⟨h1,h3⟩,⟨λhm=>(h5 a hm).2.1 rfl,h4⟩,h2,λc hc=>(h5 c hc).1⟩
  ·rintro⟨⟨h1,h3⟩,⟨h6,h4⟩,h2,h5⟩;exact⟨h1,h2,h3,h4,λc hc=>⟨h5 c hc,λe=>h6 (e▸hc),by simp⟩⟩
def Im(s:St):Prop:=(s.phase≠1→s.ak=[])∧(s.phase=1→s.cc=true∧s.ak.length≤7∧s.ak.Nodup∧∀a∈s.ak,(aH s a).2.2=true∧(aH s a).1=s.mover)
def GK(s:St):Prop:=1≤s.turn∧s.turn≤4096∧0≤s.mover∧s.mover≤1∧0≤s.phase∧s.phase≤2∧0≤s.result∧s.result≤3∧((s.result==0)==(s.phase != 2))=true∧1≤s.next∧s.next≤1000000
structure eo (b:Bk) (s:St):Prop where
 hd:GK s
 s0:nI b s.s0
 s1:nI b s.s1
 un:IQ b s
 at_:Im s
theorem zb{e:Int}{b:Bk}{s:St}:bt e b s true=true↔e=0∧eo b s:=by
 simp only[bt,Zv,Bool.and_eq_true,decide_eq_true_eq,SV];constructor
 ·rintro⟨h1,h2,h3,h4,h5,h6,h7,h8,h9,h10,h11,h12,⟨k1,k2,k3,k4⟩,h14⟩;refine⟨h1,⟨h2,h3,h4,h5,h6,h7,h8,h9,h10,h11,h12⟩,k1,k3,OH.1 ⟨k2,k4⟩,?_,?_⟩
  ·intro hp;rw[if_pos hp] at h14;exact List.length_eq_zero_iff.1 (of_decide_eq_true h14)
  ·intro hp;rw[if_neg (by simpa using hp)] at h14;simp only[Bool.and_eq_true,decide_eq_true_eq] at h14;obtain⟨_,q1,q2,q3⟩:=h14;obtain⟨r1,r2,_⟩:=JK.1 q3;exact⟨q1,by omega,r2,r1⟩
 ·rintro⟨h1,⟨h2,h3,h4,h5,h6,h7,h8,h9,h10,h11,h12⟩,k1,k3,hu,WV,WW⟩;obtain⟨k2,k4⟩:=OH.2 hu;refine⟨h1,h2,h3,h4,h5,h6,h7,h8,h9,h10,h11,h12,⟨k1,k2,k3,k4⟩,?_⟩;by_cases hp:s.phase≠1
  ·rw[if_pos hp,WV hp]; rfl
  ·rw[if_neg hp];obtain⟨q1,q2,q3,q4⟩:=WW (by simpa using hp);simp only[Bool.and_eq_true,decide_eq_true_eq];exact⟨by simp,q1,by omega,JK.2 ⟨q4,q3,by simp⟩⟩
def YW(s:St):Int:=((s.s0.bJ.length:Int)+s.s0.hand.length+s.s0.aR.length+s.s0.ae.length)+(s.s1.bJ.length+s.s1.hand.length+s.s1.aR.length+s.s1.ae.length)
theorem Jb{l:List Th}{a:Int}:ga l a=none↔a∉l.map Th.id:=by
 rw[ga,List.findIdx?_eq_none_iff];simp
def GM(s:St)(a k:Int):Prop:=(aH s a).2.2=true∧(aH s a).1=k
theorem FJ{s:St}{a:Int}:GM s a 0↔a∈s.s0.ae.map Th.id:=by
 unfold GM aH;have h:=Jb (l:=s.s0.ae) (a:=a);cases e:ga s.s0.ae a with
 |some k=>simp only[e] at h ⊢; simp at h ⊢; exact h
 |none=>
  simp only[e] at h ⊢;have h':=h.1 trivial;constructor
  ·intro hh;cases e1:ga s.s1.ae a with
   |some k=>rw[e1] at hh; have:=hh.2; simp at this
   |none=>rw[e1] at hh; have:=hh.1; simp at this
  ·intro hm; exact absurd hm h'
theorem FK{s:St}{a:Int}:GM s a 1↔a∉s.s0.ae.map Th.id∧a∈s.s1.ae.map Th.id:=by
 unfold GM aH;have h:=Jb (l:=s.s0.ae) (a:=a);have h1:=Jb (l:=s.s1.ae) (a:=a);cases e:ga s.s0.ae a with
 |some k=>
  simp only[e] at h ⊢;constructor
  ·intro hh; have:=hh.2; simp at this
  ·intro hh; have:=h.2 hh.1; simp at this
 |none=>
  simp only[e] at h ⊢;cases e1:ga s.s1.ae a with
  |some k=>simp only[e1] at h1 ⊢; simp at h h1 ⊢; exact⟨h,h1⟩
  |none=>
   simp only[e1] at h1 ⊢;constructor
   ·intro hh; have:=hh.1; simp at this
   ·intro hh; exact absurd hh.2 (h1.1 trivial)
theorem O6{s t:St}(h:Im s)(hm:0≤s.mover∧s.mover≤1)(e1:t.phase=s.phase)(e2:t.cc=s.cc)(e3:t.mover=s.mover)(hs:t.ak.Sublist s.ak)
 (k0:∀a∈t.ak,a∈s.s0.ae.map Th.id→a∈t.s0.ae.map Th.id)(k1:∀a∈t.ak,a∈s.s1.ae.map Th.id→a∉s.s0.ae.map Th.id→a∈t.s1.ae.map Th.id∧a∉t.s0.ae.map Th.id):Im t:=by
 refine⟨λhp=>?_,λhp=>?_⟩
 ·have:=h.1 (by rw[←e1]; exact hp);rw[this] at hs;exact List.sublist_nil.1 hs
 ·obtain⟨q1,q2,q3,q4⟩:=h.2 (by rw[←e1]; exact hp);refine⟨by rw[e2]; exact q1,Nat.le_trans hs.length_le q2,q3.sublist hs,λa ha=>?_⟩;have hq:=q4 a (hs.subset ha);rw[e3];rcases (show s.mover=0∨s.mover=1 by omega) with e|e
  ·rw[e] at hq ⊢;exact FJ.2 (k0 a ha (FJ.1 hq))
  ·rw[e] at hq ⊢;obtain⟨r1,r2⟩:=FK.1 hq;obtain⟨t1,t2⟩:=k1 a ha r2 r1;exact FK.2 ⟨t2,t1⟩
theorem NO{l:List Th}{k:Nat}{u v:Th}(h:l[k]?=some u)(e:v.id=u.id):(l.set k v).map Th.id=l.map Th.id:=by
 rw[List.map_set,e];have hk:k<l.length:=(cJ h).1;have h2:(l.map Th.id)[k]?=some u.id:=by rw[List.getElem?_map,h]; rfl
 obtain⟨oV,h3⟩:=cJ h2;rw[←h3,List.set_getElem_self]
theorem SE{n:Int}(h0:0≤n)(h1:n<13835058055282163712)(h:gk (IntKind.i64.wrap n)=true):0≤IntKind.i64.wrap n:=by
 have hw:=Jh.1 h;simp only[IntKind.wrap,IntKind.signed,IntKind.bits] at hw ⊢;simp at hw ⊢;split at hw<;>split<;>omega
theorem SN(n:Int):IntKind.i64.wrap n<9223372036854775808:=by
 simp only[IntKind.wrap,IntKind.signed,IntKind.bits];simp;split<;>omega
theorem SF(n:Int):0≤dA n∧dA n≤4000000:=by unfold dA; omega
theorem MY{b:Bk}{n h:Int}{u:Th}(k:Qt b n u=true)(h0:0≤h)(h1:h≤1000000):Qt b n { u with aK:=h }=true:=by
 simp only[Qt,Bool.and_eq_true,decide_eq_true_eq] at k ⊢;exact⟨k.1,k.2.1,k.2.2.1,h0,h1,k.2.2.2.2.2⟩
theorem L9{b:Bk}{n:Int}{u:Th}(k:Qt b n u=true):0≤u.aK∧u.aK≤1000000:=by
 simp only[Qt,Bool.and_eq_true,decide_eq_true_eq] at k;exact⟨k.2.2.2.1,k.2.2.2.2.1⟩
theorem Ng{l:List Th}{k:Nat}{v u:Th}(h:u∈l.set k v):u∈l∨u=v:=List.mem_or_eq_of_mem_set h
theorem UU{b:Bk}{s:St}(hM:eo b s){k:Nat}{u:Th}(hk:s.s0.ae[k]?=some u){h:Int}(h0:0≤h)(h1:h≤1000000):eo b { s with s0:={ s.s0 with ae:=s.s0.ae.set k { u with aK:=h } } }∧YW { s with s0:={ s.s0 with ae:=s.s0.ae.set k { u with aK:=h } } }=YW s:=by
 have S:=hM.s0;have hu:u∈s.s0.ae:=List.mem_of_getElem? hk;have hi:(s.s0.ae.set k { u with aK:=h }).map Th.id=s.s0.ae.map Th.id:=NO hk rfl;have N:nI b { s.s0 with ae:=s.s0.ae.set k { u with aK:=h } }:=⟨S.aW,S.dj,S.most,S.bJ,S.hand,S.aR,S.told,by show (s.s0.ae.set k _).length≤7; rw[List.length_set]; exact S.ae⟩;refine⟨⟨hM.hd,N,hM.s1,⟨λv hv=>?_,?_⟩,?_⟩,?_⟩
 ·have hv:v∈(s.s0.ae.set k { u with aK:=h })++s.s1.ae:=hv;rcases List.mem_append.1 hv with hv|hv
  ·rcases Ng hv with hv|rfl; exact hM.un.1 v (List.mem_append_left _ hv); exact MY (hM.un.1 u (List.mem_append_left _ hu)) h0 h1
  ·exact hM.un.1 v (List.mem_append_right _ hv)
 ·have e:((s.s0.ae.set k { u with aK:=h })++s.s1.ae).map Th.id=(s.s0.ae++s.s1.ae).map Th.id:=by rw[List.map_append,List.map_append,hi]
  show (((s.s0.ae.set k { u with aK:=h })++s.s1.ae).map Th.id).Nodup;rw[e]; exact hM.un.2
 ·refine O6 hM.at_ ⟨hM.hd.2.2.1,hM.hd.2.2.2.1⟩ rfl rfl rfl (List.Sublist.refl _) (λa _ ha=>?_) (λa _ ha hn=>⟨?_,?_⟩)
  ·show a∈(s.s0.ae.set k _).map Th.id; rw[hi]; exact ha
  ·exact ha
  ·show a∉(s.s0.ae.set k _).map Th.id; rw[hi]; exact hn
 ·simp[YW]
theorem MX{b:Bk}{s:St}(hM:eo b s){n:Int}(hw:gk n=true):eo b { s with s0:={ s.s0 with aW:=n } }∧YW { s with s0:={ s.s0 with aW:=n } }=YW s:=by
 have S:=hM.s0;exact⟨⟨hM.hd,⟨hw,S.dj,S.most,S.bJ,S.hand,S.aR,S.told,S.ae⟩,hM.s1,hM.un,hM.at_⟩,rfl⟩
theorem TL{b:Bk}{s:St}(hM:eo b s){k:Nat}{u:Th}(hk:s.s1.ae[k]?=some u){h:Int}(h0:0≤h)(h1:h≤1000000):eo b { s with s1:={ s.s1 with ae:=s.s1.ae.set k { u with aK:=h } } }∧YW { s with s1:={ s.s1 with ae:=s.s1.ae.set k { u with aK:=h } } }=YW s:=by
 have S:=hM.s1;have hu:u∈s.s1.ae:=List.mem_of_getElem? hk;have hi:(s.s1.ae.set k { u with aK:=h }).map Th.id=s.s1.ae.map Th.id:=NO hk rfl;have N:nI b { s.s1 with ae:=s.s1.ae.set k { u with aK:=h } }:=⟨S.aW,S.dj,S.most,S.bJ,S.hand,S.aR,S.told,by show (s.s1.ae.set k _).length≤7; rw[List.length_set]; exact S.ae⟩;refine⟨⟨hM.hd,hM.s0,N,⟨λv hv=>?_,?_⟩,?_⟩,?_⟩
 ·have hv:v∈s.s0.ae++(s.s1.ae.set k { u with aK:=h }):=hv;rcases List.mem_append.1 hv with hv|hv
  ·exact hM.un.1 v (List.mem_append_left _ hv)
  ·rcases Ng hv with hv|rfl; exact hM.un.1 v (List.mem_append_right _ hv); exact MY (hM.un.1 u (List.mem_append_right _ hu)) h0 h1
 ·have e:(s.s0.ae++(s.s1.ae.set k { u with aK:=h })).map Th.id=(s.s0.ae++s.s1.ae).map Th.id:=by rw[List.map_append,List.map_append,hi]
  show ((s.s0.ae++(s.s1.ae.set k { u with aK:=h })).map Th.id).Nodup;rw[e]; exact hM.un.2
 ·refine O6 hM.at_ ⟨hM.hd.2.2.1,hM.hd.2.2.2.1⟩ rfl rfl rfl (List.Sublist.refl _) (λa _ ha=>?_) (λa _ ha hn=>⟨?_,?_⟩)
  ·exact ha
  ·show a∈(s.s1.ae.set k _).map Th.id; rw[hi]; exact ha
  ·exact hn
 ·simp[YW]
theorem Ma{b:Bk}{s:St}(hM:eo b s){n:Int}(hw:gk n=true):eo b { s with s1:={ s.s1 with aW:=n } }∧YW { s with s1:={ s.s1 with aW:=n } }=YW s:=by
 have S:=hM.s1;exact⟨⟨hM.hd,hM.s0,⟨hw,S.dj,S.most,S.bJ,S.hand,S.aR,S.told,S.ae⟩,hM.un,hM.at_⟩,rfl⟩
theorem Sc{b:Bk}{s:St}{kd id sd:Int}{fP:Int→Int×Int}{fU:Th→Int×Int}(hM:eo b s)(hP:∀l,0≤(fP l).2)(hU:∀u,0≤u.aK→u.aK≤1000000→0≤(fU u).2∧(gk (fU u).1=true→0≤(fU u).1))(h0:sd=0∨sd=1)(h:(im kd fP fU s id sd).2.2=0) :
  eo b (im kd fP fU s id sd).1∧YW (im kd fP fU s id sd).1=YW s∧0≤(im kd fP fU s id sd).2.1.n:=by
 have z:∀(x:Int),x≠0→(h_,qB,x).2.2=0→False:=λx hx h=>hx h;unfold im at h ⊢;by_cases iA:id=0
 ·rw[if_pos iA] at h ⊢;unfold nD at h ⊢;by_cases hw:gk (fP (s.side sd).aW).1=true
  ·rw[if_pos hw];rcases h0 with rfl|rfl
   ·exact⟨(MX hM hw).1,(MX hM hw).2,hP _⟩
   ·exact⟨(Ma hM hw).1,(Ma hM hw).2,hP _⟩
  ·rw[if_neg hw] at h; exact(z 171 (by decide) h).elim
 rw[if_neg iA] at h ⊢;by_cases lx:id<0
 ·rw[if_pos lx] at h; exact(z 4 (by decide) h).elim
 rw[if_neg lx] at h ⊢;cases q0:ga s.s0.ae id with
 |some k=>
  obtain⟨u,hk,_⟩:=x7 q0;rw[q0] at h;simp only[hk,Option.getD_some] at h ⊢;have hh:=L9 (hM.un.1 u (List.mem_append_left _ (List.mem_of_getElem? hk)));obtain⟨k1,k2⟩:=hU u hh.1 hh.2;unfold jT at h ⊢;by_cases hw:gk (fU u).1=true
  ·rw[if_pos hw];have:=UU hM hk (k2 hw) (Jh.1 hw).2;exact⟨this.1,this.2,k1⟩
  ·rw[if_neg hw] at h; exact(z 171 (by decide) h).elim
 |none=>
  rw[q0] at h;cases q1:ga s.s1.ae id with
  |none=>rw[q1] at h; exact(z 4 (by decide) h).elim
  |some k=>
   obtain⟨u,hk,_⟩:=x7 q1;rw[q1] at h;simp only[hk,Option.getD_some] at h ⊢;have hh:=L9 (hM.un.1 u (List.mem_append_right _ (List.mem_of_getElem? hk)));obtain⟨k1,k2⟩:=hU u hh.1 hh.2;unfold jT at h ⊢;by_cases hw:gk (fU u).1=true
   ·rw[if_pos hw];have:=TL hM hk (k2 hw) (Jh.1 hw).2;exact⟨this.1,this.2,k1⟩
   ·rw[if_neg hw] at h; exact(z 171 (by decide) h).elim
theorem Jx{b:Bk}{s:St}{id sd n:Int}(hM:eo b s)(h0:sd=0∨sd=1)(h:(cz b s id sd n).2.2=0):eo b (cz b s id sd n).1∧YW (cz b s id sd n).1=YW s∧0≤(cz b s id sd n).2.1.n:=by
 refine Sc hM (λl=>(SF n).1) (λu h1 h2=>?_) h0 h;have hh:0≤jj b u (dA n)∧jj b u (dA n)<9223372036854775808:=by
  unfold jj;have:=SN (dA n-ZQ b u.card);omega
 exact⟨hh.1,λhw=>SE (by omega) (by omega) hw⟩
end Go.Ah.Tz
end
section
namespace Go.Ah.Tz
open Go.Proofs.Tryz (prog)
theorem eo.le{b:Bk}{s:St}(h:eo b s):cw 1000000 s:=by
 have l:∀ {x:Sd},nI b x→pH 1000000 x:=λ{x} S=>by
  have h1:=(X3.1 S.bJ).1;have h2:=(X3.1 S.hand).1;have h3:=(X3.1 S.aR).1;have h4:=(X3.1 S.told).1;have h5:=S.ae;exact⟨by omega,by omega,by omega,by omega,by omega⟩
 refine⟨?_,l h.s0,l h.s1⟩;by_cases hp:s.phase=1
 ·have:=(h.at_.2 hp).2.1; omega
 ·rw[h.at_.1 hp]; simp
section
variable {b:Bk} (hf:bE b=true) (fS:Zu b.ai) {s:St} (hs:cw 2000000 s) (hm:bt (ej b).1 b s true=true)
include hf fS hs hm
end
end Go.Ah.Tz
end
section
namespace Go.Ah.Tz
open Go.Proofs.Tryz (prog)
structure Kp (b:Bk) (s:St) (τ:List ab) (n:Nat):Prop where
 len:τ.length=n
 lo:15≤n
 h0:ah τ 0=.box (ed b)
 h1:ah τ 1=.box (bX s)
 hc:ah τ 14=.box (jP s 3)
 kk:∀i x,(iC s)[i]?=some x→ah τ (3+i)=x
end Go.Ah.Tz
end
section
namespace Go.Ah.Tz
open Go.Proofs.Tryz (prog)
open Go.Proofs.YtflcpnaigpgciaaGreatDoor.Rows (uptoBulk uptoBulkAll)
variable {H:Type}
theorem YP(b:List UInt8):uptoBulk (DataW.lit (H:=H) (.string b))=b.length+1:=by simp only[uptoBulk]
theorem YM(ds:List (DataW H)):uptoBulk (.agg ds)=uptoBulkAll ds+1:=by simp only[uptoBulk]
theorem TX(es sp:List (DataW H)):uptoBulk (.slice es sp)=uptoBulkAll es+uptoBulkAll sp+1:=by simp only[uptoBulk]
theorem XA(d:DataW H)(ds:List (DataW H)):uptoBulkAll (d::ds)=uptoBulk d+uptoBulkAll ds:=by simp only[uptoBulkAll]
theorem SZ(d:DataW H):1≤uptoBulk d:=by
 cases d with
 |lit l=>cases l<;>simp[uptoBulk]
 |_=>simp[uptoBulk]
def Xt(P:Program)(t:TypeId):Option (List TypeId):=match P.underlying t with
 |some (.struct fs)=>some (fs.toList.map (·.type))
 |_=>none
theorem YG{P:Program}{fuel:Nat}{t:TypeId}{xs:List aa}{d:DataW H}{ts:List TypeId}(h:Typed P fuel t xs d)(hs:Xt P t=some ts):∃f parts ds,fuel=f+1∧xs=parts.flatten∧d=.agg ds∧vF (Typed P f) ts parts ds:=by
 cases fuel with
 |zero=>exact h.elim
 |succ f=>
  unfold Typed at h;unfold Xt at hs;split at hs
  ·rename_i fs e;rw[e] at h;cases hs;obtain⟨parts,ds,h1,h2,h3⟩:=h;exact⟨f,parts,ds,rfl,h1,h2,h3⟩
  ·cases hs
theorem Yw{P:Program}{fuel:Nat}{t:TypeId}{xs:List aa}{d:DataW H}{k:IntKind}(h:Typed P fuel t xs d)(hu:P.underlying t=some (.int k)):∃n,xs=[.int k n]∧(Lit.int k n).wf=true∧d=.lit (.int k n):=by
 cases fuel with
 |zero=>exact h.elim
 |succ f=>unfold Typed at h; rw[hu] at h; exact h
theorem JX{P:Program}{fuel:Nat}{t:TypeId}{xs:List aa}{d:DataW H}(h:Typed P fuel t xs d)(hu:P.underlying t=some .bool):∃b,xs=[.bool b]∧d=.lit (.bool b):=by
 cases fuel with
 |zero=>exact h.elim
 |succ f=>unfold Typed at h; rw[hu] at h; exact h
theorem DB{P:Program}{fuel:Nat}{t:TypeId}{xs:List aa}{d:DataW H}(h:Typed P fuel t xs d)(hu:P.underlying t=some .string):∃s,xs=[.str s]∧d=.lit (.string s):=by
 cases fuel with
 |zero=>exact h.elim
 |succ f=>unfold Typed at h; rw[hu] at h; exact h
theorem MT{P:Program}{fuel:Nat}{e:TypeId}{X:Type}(CU:X→List aa)(m:X→Nat)(Q:X→Prop){B:Nat}(hx:∀xs (d:DataW H),Typed P fuel e xs d→uptoBulk d≤B→∃x,xs=CU x∧Q x∧m x≤uptoBulk d) :
  ∀ {rows:List (List aa)} {es:List (DataW H)},qx (Typed P fuel e) rows es→uptoBulkAll es≤B→∃l:List X,rows=l.map CU∧(∀x∈l,Q x)∧(l.map m).sum≤uptoBulkAll es∧l.length≤uptoBulkAll es
 |[],[],_,_=>⟨[],rfl,by simp,by simp,by simp⟩
 |r::rows,d::es,h,hb=>by
  rw[XA] at hb;obtain⟨x,e1,q1,m1⟩:=hx r d h.1 (by omega);obtain⟨l,e2,q2,s2,l2⟩:=MT CU m Q hx h.2 (by omega);refine⟨x::l,by rw[e1,e2]; rfl,λy hy=>?_,?_,?_⟩
  ·rcases List.mem_cons.1 hy with rfl|hy
   ·exact q1
   ·exact q2 y hy
  ·rw[List.map_cons,List.sum_cons,XA]; omega
  ·have:=SZ d;rw[List.length_cons,XA]; omega
 |[],_::_,h,_=>h.elim
 |_::_,[],h,_=>h.elim
theorem ZF{P:Program}{fuel:Nat}{t e:TypeId}{n:Nat}{xs:List aa}{d:DataW H}{X:Type}(CU:X→List aa)(m:X→Nat)(Q:X→Prop){B:Nat}(h:Typed P fuel t xs d)(hu:P.underlying t=some (.slice e))(hn:P.cellsOf e=n)
 (hx:∀f,f<fuel→∀xs (d:DataW H),Typed P f e xs d→uptoBulk d≤B→∃x,xs=CU x∧Q x∧m x≤uptoBulk d)(hb:uptoBulk d≤B) :
  ∃l:List X,xs=[.ax false false n (l.map CU)]∧(∀x∈l,Q x)∧(l.map m).sum≤uptoBulk d∧l.length≤uptoBulk d:=by
 cases fuel with
 |zero=>exact h.elim
 |succ f=>
  unfold Typed at h;rw[hu] at h;subst hn;obtain⟨rows,rfl,⟨rfl,rfl⟩|⟨es,sp,rfl,h2⟩⟩:=h
  ·exact⟨[],rfl,by simp,by simp,by simp⟩
  ·rw[TX] at hb ⊢;obtain⟨l,rfl,q,s,k⟩:=MT CU m Q (hx f (by omega)) h2 (by omega);exact⟨l,rfl,q,by omega,by omega⟩
theorem U9{P:Program}{fuel:Nat}{t e:TypeId}{xs:List aa}{d:DataW H}(h:Typed P fuel t xs d)(hu:P.underlying t=some (.array 2 e)):∃f p q a b,fuel=f+1∧xs=p++q∧d=.agg [a,b]∧Typed P f e p a∧Typed P f e q b:=by
 cases fuel with
 |zero=>exact h.elim
 |succ f=>
  unfold Typed at h;rw[hu] at h;obtain⟨parts,ds,rfl,rfl,hl,h2⟩:=h
  match parts,hl,h2 with
  |[p,q],_,h2=>
   obtain⟨a,ds,rfl,ha,h2⟩:=h2.cons;obtain⟨b,ds,rfl,hb,h2⟩:=h2.cons
   match ds,h2 with
   |[],_=>exact⟨f,p,q,a,b,rfl,by simp,rfl,ha,hb⟩
theorem L4{n:Int}(h:(Lit.int .i8 n).wf=true):Dn n=true:=by
 have h1:IntKind.i8.min = -128:=by decide
 have h2:IntKind.i8.max=127:=by decide
 simp only[Lit.wf,h1,h2] at h;exact h
theorem L3{n:Int}(h:(Lit.int .i64 n).wf=true):FI n=true:=by
 have h1:IntKind.i64.min = -9223372036854775808:=by decide
 have h2:IntKind.i64.max=9223372036854775807:=by decide
 simp only[Lit.wf,h1,h2] at h;exact h
theorem Oj{l:List Nm}(h:∀x∈l,cQ x=true):y_ l=true:=by
 induction l with
 |nil=>rfl
 |cons x l ih=>simp only[y_,Bool.and_eq_true]; exact⟨h x (List.mem_cons_self ..),ih λy hy=>h y (List.mem_cons_of_mem _ hy)⟩
theorem VR{l:List Cn}(h:∀x∈l,cy x=true):CX l=true:=by
 induction l with
 |nil=>rfl
 |cons x l ih=>simp only[CX,Bool.and_eq_true]; exact⟨h x (List.mem_cons_self ..),ih λy hy=>h y (List.mem_cons_of_mem _ hy)⟩
theorem IY{l:List Ef}(h:∀x∈l,cX x=true):xX l=true:=by
 induction l with
 |nil=>rfl
 |cons x l ih=>simp only[xX,Bool.and_eq_true]; exact⟨h x (List.mem_cons_self ..),ih λy hy=>h y (List.mem_cons_of_mem _ hy)⟩
theorem Jl:∀l:List Nm,(nF l).length=(l.map λx=>(sZ x).length).sum
 |[]=>rfl
 |x::l=>by simp only[nF,List.length_append,List.map_cons,List.sum_cons,Jl l]
theorem Na:∀l:List Cn,(nT l).length=(l.map λx=>(te x).length).sum
 |[]=>rfl
 |x::l=>by simp only[nT,List.length_append,List.map_cons,List.sum_cons,Na l]
theorem GR:∀l:List Ef,(fy l).length=(l.map λx=>(tZ x).length).sum
 |[]=>rfl
 |x::l=>by simp only[fy,List.length_append,List.map_cons,List.sum_cons,GR l]
theorem ia{n k:Nat}(h:n≤k)(hk:k≤1048576):decide (n≤fO)=true:=decide_eq_true (Nat.le_trans h (Nat.le_trans hk (by decide)))
abbrev tF:TypeId:=26
abbrev QJ:TypeId:=3
abbrev DM:TypeId:=4
abbrev vH:TypeId:=9
abbrev C1:TypeId:=64
abbrev HK:TypeId:=62
abbrev C8:TypeId:=137
abbrev II:TypeId:=135
abbrev DX:TypeId:=192
abbrev xU:TypeId:=80
abbrev D6:TypeId:=82
abbrev Jc:TypeId:=22
abbrev DO:TypeId:=96
abbrev JY:TypeId:=23
abbrev Hr:TypeId:=94
abbrev tG:TypeId:=25
abbrev DY:TypeId:=51
abbrev Jd:TypeId:=28
abbrev vI:TypeId:=27
abbrev HJ:TypeId:=30
abbrev JE:TypeId:=31
abbrev tJ:TypeId:=33
theorem xV:prog.underlying tF=some (.int .i8):=by kernel_rfl
theorem XQ:prog.underlying QJ=some (.int .i64):=by kernel_rfl
theorem D5:prog.underlying DM=some .bool:=by kernel_rfl
theorem D7:prog.underlying vH=some .string:=by kernel_rfl
theorem MG:prog.underlying HK=some (.slice C1):=by kernel_rfl
theorem GC:prog.underlying II=some (.slice C8):=by kernel_rfl
theorem Je:prog.underlying xU=some (.slice DX):=by kernel_rfl
theorem GB:prog.underlying Jc=some (.slice D6):=by kernel_rfl
theorem GD:prog.underlying JY=some (.slice DO):=by kernel_rfl
theorem Ou:prog.underlying Hr=some (.slice vH):=by kernel_rfl
theorem GG:prog.underlying Jd=some (.slice DY):=by kernel_rfl
theorem TO:prog.underlying vI=some (.slice QJ):=by kernel_rfl
theorem GF:prog.underlying JE=some (.array 2 HJ):=by kernel_rfl
theorem FP:prog.cellsOf C1=4:=by kernel_rfl
theorem Lu:prog.cellsOf C8=5:=by kernel_rfl
theorem Av:prog.cellsOf DX=14:=by kernel_rfl
theorem Lt:prog.cellsOf D6=12:=by kernel_rfl
theorem Lv:prog.cellsOf DO=7:=by kernel_rfl
theorem Pg:prog.cellsOf vH=1:=by kernel_rfl
theorem Lx:prog.cellsOf DY=4:=by kernel_rfl
theorem FO:prog.cellsOf QJ=1:=by kernel_rfl
theorem LN:Xt prog C1=some [tF,QJ,tF,HK]:=by kernel_rfl
theorem LK:Xt prog C8=some [tF,tF,vH,HK,II]:=by kernel_rfl
theorem LL:Xt prog DX=some [tF,tF,C1,vH,C8,xU,xU]:=by kernel_rfl
theorem LJ:Xt prog D6=some [vH,DM,QJ,QJ,QJ,QJ,QJ,QJ,xU,xU,xU,QJ]:=by kernel_rfl
theorem LM:Xt prog DO=some [vH,QJ,QJ,QJ,Hr,Hr,QJ]:=by kernel_rfl
theorem F5:Xt prog tG=some [Jc,JY]:=by kernel_rfl
theorem LQ:Xt prog DY=some [QJ,QJ,QJ,DM]:=by kernel_rfl
theorem LP:Xt prog HJ=some [QJ,QJ,QJ,vI,vI,vI,Jd,vI]:=by kernel_rfl
theorem F6:Xt prog tJ=some [QJ,QJ,tF,DM,tF,vI,QJ,JE]:=by kernel_rfl
theorem NC(fuel:Nat):∀xs (d:DataW H),Typed prog fuel C1 xs d→uptoBulk d≤1048576→∃x,xs=aP x∧cQ x=true∧(sZ x).length≤uptoBulk d:=by
 induction fuel using Nat.strongRecOn with
 |_ fuel ih=>
 intro xs d h hb;obtain⟨f,parts,ds,rfl,rfl,rfl,r⟩:=YG h LN;obtain⟨p0,parts,d0,ds,rfl,rfl,h0,r⟩:=r.cons;obtain⟨p1,parts,d1,ds,rfl,rfl,h1,r⟩:=r.cons;obtain⟨p2,parts,d2,ds,rfl,rfl,h2,r⟩:=r.cons;obtain⟨p3,parts,d3,ds,rfl,rfl,h3,r⟩:=r.cons;obtain⟨rfl,rfl⟩:=r.nil;obtain⟨v0,rfl,w0,rfl⟩:=Yw h0 xV;obtain⟨v1,rfl,w1,rfl⟩:=Yw h1 XQ;obtain⟨v2,rfl,w2,rfl⟩:=Yw h2 xV;simp only[YM,XA,YP] at hb ⊢;obtain⟨l,rfl,q,s,k⟩:=ZF aP (λx=>(sZ x).length) (λx=>cQ x=true) h3 MG FP (λf' hf=>ih f' (by omega)) (show uptoBulk d3≤1048576 by omega);refine⟨.mk v0 v1 v2 l,by rw[QA]; rfl,?_,?_⟩
 ·simp only[cQ,ia k (show uptoBulk d3≤1048576 by omega),Oj q,L4 w0,L3 w1,Bool.and_self]
 ·simp only[sZ,List.length_cons,Jl]; omega
theorem Gv(fuel:Nat):∀xs (d:DataW H),Typed prog fuel C8 xs d→uptoBulk d≤1048576→∃x,xs=b_ x∧cy x=true∧(te x).length≤uptoBulk d:=by
 induction fuel using Nat.strongRecOn with
 |_ fuel ih=>
 intro xs d h hb;obtain⟨f,parts,ds,rfl,rfl,rfl,r⟩:=YG h LK;obtain⟨p0,parts,d0,ds,rfl,rfl,h0,r⟩:=r.cons;obtain⟨p1,parts,d1,ds,rfl,rfl,h1,r⟩:=r.cons;obtain⟨p2,parts,d2,ds,rfl,rfl,h2,r⟩:=r.cons;obtain⟨p3,parts,d3,ds,rfl,rfl,h3,r⟩:=r.cons;obtain⟨p4,parts,d4,ds,rfl,rfl,h4,r⟩:=r.cons;obtain⟨rfl,rfl⟩:=r.nil;obtain⟨v0,rfl,w0,rfl⟩:=Yw h0 xV;obtain⟨v1,rfl,w1,rfl⟩:=Yw h1 xV;obtain⟨v2,rfl,rfl⟩:=DB h2 D7;simp only[YM,XA,YP] at hb ⊢;obtain⟨l,rfl,q,s,k⟩:=ZF aP (λx=>(sZ x).length) (λx=>cQ x=true) h3 MG FP (λf' _=>NC f') (show uptoBulk d3≤1048576 by omega);obtain⟨l2,rfl,q2,s2,k2⟩:=ZF b_ (λx=>(te x).length) (λx=>cy x=true) h4 GC Lu (λf' hf=>ih f' (by omega)) (show uptoBulk d4≤1048576 by omega);refine⟨.mk v0 v1 v2 l l2,by rw[XH]; rfl,?_,?_⟩
 ·simp only[cy,ia k (show uptoBulk d3≤1048576 by omega),Oj q,ia k2 (show uptoBulk d4≤1048576 by omega),VR q2,L4 w0,Bool.and_self]
 ·simp only[te,List.length_cons,List.length_append,Jl,Na]; omega
theorem Gw(fuel:Nat):∀xs (d:DataW H),Typed prog fuel DX xs d→uptoBulk d≤1048576→∃x,xs=aX x∧cX x=true∧(tZ x).length≤uptoBulk d:=by
 induction fuel using Nat.strongRecOn with
 |_ fuel ih=>
 intro xs d h hb;obtain⟨f,parts,ds,rfl,rfl,rfl,r⟩:=YG h LL;obtain⟨p0,parts,d0,ds,rfl,rfl,h0,r⟩:=r.cons;obtain⟨p1,parts,d1,ds,rfl,rfl,h1,r⟩:=r.cons;obtain⟨p2,parts,d2,ds,rfl,rfl,h2,r⟩:=r.cons;obtain⟨p3,parts,d3,ds,rfl,rfl,h3,r⟩:=r.cons;obtain⟨p4,parts,d4,ds,rfl,rfl,h4,r⟩:=r.cons;obtain⟨p5,parts,d5,ds,rfl,rfl,h5,r⟩:=r.cons;obtain⟨p6,parts,d6,ds,rfl,rfl,h6,r⟩:=r.cons;obtain⟨rfl,rfl⟩:=r.nil;obtain⟨v0,rfl,w0,rfl⟩:=Yw h0 xV;obtain⟨v1,rfl,w1,rfl⟩:=Yw h1 xV;obtain⟨v3,rfl,rfl⟩:=DB h3 D7;simp only[YM,XA,YP] at hb ⊢;obtain⟨n,rfl,qn,kn⟩:=NC _ _ _ h2 (by omega);obtain⟨c,rfl,qc,kc⟩:=Gv _ _ _ h4 (by omega);obtain⟨l,rfl,q,s,k⟩:=ZF aX (λx=>(tZ x).length) (λx=>cX x=true) h5 Je Av (λf' hf=>ih f' (by omega)) (show uptoBulk d5≤1048576 by omega);obtain⟨l2,rfl,q2,s2,k2⟩:=ZF aX (λx=>(tZ x).length) (λx=>cX x=true) h6 Je Av (λf' hf=>ih f' (by omega)) (show uptoBulk d6≤1048576 by omega);refine⟨.mk v0 v1 n v3 c l l2,by rw[QH,QA,XH]; rfl,?_,?_⟩
 ·simp only[cX,qn,qc,ia k (show uptoBulk d5≤1048576 by omega),IY q,ia k2 (show uptoBulk d6≤1048576 by omega),IY q2,L4 w0,Bool.and_self]
 ·have e1:(if aU v0 then sZ n else []).length≤(sZ n).length:=by split<;>simp
  have e2:(if v0=8 then te c++(fy l++fy l2) else []).length≤(te c).length+(fy l).length+(fy l2).length:=by
   split
   ·simp only[List.length_append]; omega
   ·simp
  rw[GR,GR] at e2;simp only[tZ,List.length_cons,List.length_append];omega
theorem Jg{fuel:Nat}{xs:List aa}{d:DataW H}(h:Typed prog fuel xU xs d)(hb:uptoBulk d≤1048576):∃l,xs=[ju l]∧bA l=true∧(fy l).length≤uptoBulk d:=by
 obtain⟨l,rfl,q,s,k⟩:=ZF aX (λx=>(tZ x).length) (λx=>cX x=true) h Je Av (λf' _=>Gw f') hb;exact⟨l,rfl,by simp only[bA,ia k hb,IY q,Bool.and_self],by rw[GR]; exact s⟩
theorem Gu(fuel:Nat)(xs:List aa)(d:DataW H)(h:Typed prog fuel D6 xs d)(hb:uptoBulk d≤1048576):∃x,xs=cD x∧(gE x=true∧(tV x).length≤1048576)∧0≤uptoBulk d:=by
 obtain⟨f,parts,ds,rfl,rfl,rfl,r⟩:=YG h LJ;obtain⟨p0,parts,d0,ds,rfl,rfl,h0,r⟩:=r.cons;obtain⟨p1,parts,d1,ds,rfl,rfl,h1,r⟩:=r.cons;obtain⟨p2,parts,d2,ds,rfl,rfl,h2,r⟩:=r.cons;obtain⟨p3,parts,d3,ds,rfl,rfl,h3,r⟩:=r.cons;obtain⟨p4,parts,d4,ds,rfl,rfl,h4,r⟩:=r.cons;obtain⟨p5,parts,d5,ds,rfl,rfl,h5,r⟩:=r.cons;obtain⟨p6,parts,d6,ds,rfl,rfl,h6,r⟩:=r.cons;obtain⟨p7,parts,d7,ds,rfl,rfl,h7,r⟩:=r.cons;obtain⟨p8,parts,d8,ds,rfl,rfl,h8,r⟩:=r.cons;obtain⟨p9,parts,d9,ds,rfl,rfl,h9,r⟩:=r.cons;obtain⟨p10,parts,d10,ds,rfl,rfl,h10,r⟩:=r.cons;obtain⟨p11,parts,d11,ds,rfl,rfl,h11,r⟩:=r.cons;obtain⟨rfl,rfl⟩:=r.nil;obtain⟨v0,rfl,rfl⟩:=DB h0 D7;obtain⟨v1,rfl,rfl⟩:=JX h1 D5;obtain⟨v2,rfl,w2,rfl⟩:=Yw h2 XQ;obtain⟨v3,rfl,w3,rfl⟩:=Yw h3 XQ;obtain⟨v4,rfl,w4,rfl⟩:=Yw h4 XQ;obtain⟨v5,rfl,w5,rfl⟩:=Yw h5 XQ;obtain⟨v6,rfl,w6,rfl⟩:=Yw h6 XQ;obtain⟨v7,rfl,w7,rfl⟩:=Yw h7 XQ;obtain⟨v11,rfl,w11,rfl⟩:=Yw h11 XQ;simp only[YM,XA,YP] at hb ⊢;obtain⟨a,rfl,qa,ka⟩:=Jg h8 (by omega);obtain⟨b,rfl,qb,kb⟩:=Jg h9 (by omega);obtain⟨c,rfl,qc,kc⟩:=Jg h10 (by omega);refine⟨⟨v0,v1,v2,v3,v4,v5,v6,v7,a,b,c,v11⟩,rfl,⟨?_,?_⟩,by omega⟩
 ·simp only[gE,ia (Nat.le_refl v0.length) (by omega),qa,qb,qc,Bool.and_self]
 ·simp only[tV,List.length_append]; omega
theorem Ot(fuel:Nat)(xs:List aa)(d:DataW H)(h:Typed prog fuel vH xs d)(_:uptoBulk d≤1048576):∃x,xs=s9 x∧True∧0≤uptoBulk d:=by
 obtain⟨s,rfl,rfl⟩:=DB h D7;exact⟨s,rfl,trivial,by omega⟩
theorem Gx(fuel:Nat)(xs:List aa)(d:DataW H)(h:Typed prog fuel DO xs d)(hb:uptoBulk d≤1048576):∃x,xs=mS x∧mT x=true∧0≤uptoBulk d:=by
 obtain⟨f,parts,ds,rfl,rfl,rfl,r⟩:=YG h LM;obtain⟨p0,parts,d0,ds,rfl,rfl,h0,r⟩:=r.cons;obtain⟨p1,parts,d1,ds,rfl,rfl,h1,r⟩:=r.cons;obtain⟨p2,parts,d2,ds,rfl,rfl,h2,r⟩:=r.cons;obtain⟨p3,parts,d3,ds,rfl,rfl,h3,r⟩:=r.cons;obtain⟨p4,parts,d4,ds,rfl,rfl,h4,r⟩:=r.cons;obtain⟨p5,parts,d5,ds,rfl,rfl,h5,r⟩:=r.cons;obtain⟨p6,parts,d6,ds,rfl,rfl,h6,r⟩:=r.cons;obtain⟨rfl,rfl⟩:=r.nil;obtain⟨v0,rfl,rfl⟩:=DB h0 D7;obtain⟨v1,rfl,w1,rfl⟩:=Yw h1 XQ;obtain⟨v2,rfl,w2,rfl⟩:=Yw h2 XQ;obtain⟨v3,rfl,w3,rfl⟩:=Yw h3 XQ;obtain⟨v6,rfl,w6,rfl⟩:=Yw h6 XQ;simp only[YM,XA,YP] at hb ⊢;obtain⟨a,rfl,_,_,ka⟩:=ZF s9 (λ_=>0) (λ_=>True) h4 Ou Pg (λf' _=>Ot f') (show uptoBulk d4≤1048576 by omega);obtain⟨b,rfl,_,_,kb⟩:=ZF s9 (λ_=>0) (λ_=>True) h5 Ou Pg (λf' _=>Ot f') (show uptoBulk d5≤1048576 by omega);refine⟨⟨v0,v1,v2,v3,a,b,v6⟩,rfl,?_,by omega⟩;simp only[mT,ia (Nat.le_refl v0.length) (by omega),ia ka (show uptoBulk d4≤1048576 by omega),ia kb (show uptoBulk d5≤1048576 by omega),Bool.and_self]
theorem Gt{fuel:Nat}{xs:List aa}{d:DataW H}(h:Typed prog fuel tG xs d)(hb:uptoBulk d≤1048576):∃x,xs=ed x∧bE x=true∧Zu x.ai:=by
 obtain⟨f,parts,ds,rfl,rfl,rfl,r⟩:=YG h F5;obtain⟨p0,parts,d0,ds,rfl,rfl,h0,r⟩:=r.cons;obtain⟨p1,parts,d1,ds,rfl,rfl,h1,r⟩:=r.cons;obtain⟨rfl,rfl⟩:=r.nil;simp only[YM,XA,YP] at hb ⊢;obtain⟨a,rfl,q,_,k⟩:=ZF cD (λ_=>0) (λx=>gE x=true∧(tV x).length≤1048576) h0 GB Lt (λf' _=>Gu f') (show uptoBulk d0≤1048576 by omega);obtain⟨b,rfl,q2,_,k2⟩:=ZF mS (λ_=>0) (λx=>mT x=true) h1 GD Lv (λf' _=>Gx f') (show uptoBulk d1≤1048576 by omega);refine⟨⟨a,b⟩,rfl,?_,λc hc=>Nat.le_trans (q c hc).2 (by decide)⟩;simp only[bE,YS,ia k (show uptoBulk d0≤1048576 by omega),ia k2 (show uptoBulk d1≤1048576 by omega),Bool.true_and,Bool.and_eq_true,List.all_eq_true];exact⟨λc hc=>(q c hc).1,q2⟩
theorem GA(fuel:Nat)(xs:List aa)(d:DataW H)(h:Typed prog fuel DY xs d)(hb:uptoBulk d≤1048576):∃x,xs=bf x∧True∧0≤uptoBulk d:=by
 obtain⟨f,parts,ds,rfl,rfl,rfl,r⟩:=YG h LQ;obtain⟨p0,parts,d0,ds,rfl,rfl,h0,r⟩:=r.cons;obtain⟨p1,parts,d1,ds,rfl,rfl,h1,r⟩:=r.cons;obtain⟨p2,parts,d2,ds,rfl,rfl,h2,r⟩:=r.cons;obtain⟨p3,parts,d3,ds,rfl,rfl,h3,r⟩:=r.cons;obtain⟨rfl,rfl⟩:=r.nil;obtain⟨v0,rfl,w0,rfl⟩:=Yw h0 XQ;obtain⟨v1,rfl,w1,rfl⟩:=Yw h1 XQ;obtain⟨v2,rfl,w2,rfl⟩:=Yw h2 XQ;obtain⟨v3,rfl,rfl⟩:=JX h3 D5;simp only[YM,XA,YP] at hb ⊢;exact⟨⟨v0,v1,v2,v3⟩,rfl,trivial,by omega⟩
theorem L2(fuel:Nat)(xs:List aa)(d:DataW H)(h:Typed prog fuel QJ xs d)(_:uptoBulk d≤1048576):∃x,xs=bL x∧True∧0≤uptoBulk d:=by
 obtain⟨s,rfl,_,rfl⟩:=Yw h XQ;exact⟨s,rfl,trivial,by omega⟩
theorem DN{fuel:Nat}{xs:List aa}{d:DataW H}(h:Typed prog fuel vI xs d)(hb:uptoBulk d≤1048576):∃l,xs=[bd l]∧l.length≤2000000:=by
 obtain⟨l,rfl,_,_,k⟩:=ZF bL (λ_=>0) (λ_=>True) h TO FO (λf' _=>L2 f') hb;exact⟨l,rfl,by omega⟩
theorem Pj{fuel:Nat}{xs:List aa}{d:DataW H}(h:Typed prog fuel HJ xs d)(hb:uptoBulk d≤1048576):∃x,xs=pn x∧pH 2000000 x:=by
 obtain⟨f,parts,ds,rfl,rfl,rfl,r⟩:=YG h LP;obtain⟨p0,parts,d0,ds,rfl,rfl,h0,r⟩:=r.cons;obtain⟨p1,parts,d1,ds,rfl,rfl,h1,r⟩:=r.cons;obtain⟨p2,parts,d2,ds,rfl,rfl,h2,r⟩:=r.cons;obtain⟨p3,parts,d3,ds,rfl,rfl,h3,r⟩:=r.cons;obtain⟨p4,parts,d4,ds,rfl,rfl,h4,r⟩:=r.cons;obtain⟨p5,parts,d5,ds,rfl,rfl,h5,r⟩:=r.cons;obtain⟨p6,parts,d6,ds,rfl,rfl,h6,r⟩:=r.cons;obtain⟨p7,parts,d7,ds,rfl,rfl,h7,r⟩:=r.cons;obtain⟨rfl,rfl⟩:=r.nil;obtain⟨v0,rfl,w0,rfl⟩:=Yw h0 XQ;obtain⟨v1,rfl,w1,rfl⟩:=Yw h1 XQ;obtain⟨v2,rfl,w2,rfl⟩:=Yw h2 XQ;simp only[YM,XA,YP] at hb ⊢;obtain⟨a,rfl,ka⟩:=DN h3 (by omega);obtain⟨b,rfl,kb⟩:=DN h4 (by omega);obtain⟨c,rfl,kc⟩:=DN h5 (by omega);obtain⟨u,rfl,_,_,ku⟩:=ZF bf (λ_=>0) (λ_=>True) h6 GG Lx (λf' _=>GA f') (show uptoBulk d6≤1048576 by omega);obtain⟨t,rfl,kt⟩:=DN h7 (by omega);exact⟨⟨v0,v1,v2,a,b,c,u,t⟩,rfl,ka,kb,kc,by show u.length≤_; omega,kt⟩
theorem Gz{fuel:Nat}{xs:List aa}{d:DataW H}(h:Typed prog fuel tJ xs d)(hb:uptoBulk d≤1048576):∃x,xs=bX x∧cw 2000000 x:=by
 obtain⟨f,parts,ds,rfl,rfl,rfl,r⟩:=YG h F6;obtain⟨p0,parts,d0,ds,rfl,rfl,h0,r⟩:=r.cons;obtain⟨p1,parts,d1,ds,rfl,rfl,h1,r⟩:=r.cons;obtain⟨p2,parts,d2,ds,rfl,rfl,h2,r⟩:=r.cons;obtain⟨p3,parts,d3,ds,rfl,rfl,h3,r⟩:=r.cons;obtain⟨p4,parts,d4,ds,rfl,rfl,h4,r⟩:=r.cons;obtain⟨p5,parts,d5,ds,rfl,rfl,h5,r⟩:=r.cons;obtain⟨p6,parts,d6,ds,rfl,rfl,h6,r⟩:=r.cons;obtain⟨p7,parts,d7,ds,rfl,rfl,h7,r⟩:=r.cons;obtain⟨rfl,rfl⟩:=r.nil;obtain⟨v0,rfl,w0,rfl⟩:=Yw h0 XQ;obtain⟨v1,rfl,w1,rfl⟩:=Yw h1 XQ;obtain⟨v2,rfl,w2,rfl⟩:=Yw h2 xV;obtain⟨v3,rfl,rfl⟩:=JX h3 D5;obtain⟨v4,rfl,w4,rfl⟩:=Yw h4 xV;obtain⟨v6,rfl,w6,rfl⟩:=Yw h6 XQ;simp only[YM,XA,YP] at hb ⊢;obtain⟨a,rfl,ka⟩:=DN h5 (by omega);obtain⟨f',p,q,da,db,rfl,rfl,rfl,hp,hq⟩:=U9 h7 GF;simp only[YM,XA] at hb;obtain⟨x,rfl,kx⟩:=Pj hp (by omega);obtain⟨y,rfl,ky⟩:=Pj hq (by omega);exact⟨⟨v0,v1,v2,v3,v4,a,v6,x,y⟩,rfl,ka,kx,ky⟩
end Go.Ah.Tz
end
section
namespace Go.Proofs.YtflcpnaigpgciaaGreatDoor
open Go.ChangeShapes Go.WideShapes Go.ChangeAt Go.RowKit Go.Ah Go.Ah.Tz
theorem S6{H:Type}{enc:TypeId×Value→H}{P:Program}{f:Func}{s:ChangeSpec}{apart fresh handsOn again:Bool}{W W':World}{args:Array Value}{v:Value}{ds gs:List (DataW H)}{before pa pv:List MemPlace}
 (hW:DataW.Whole enc P f.params.toList s.vars apart W args.toList ds gs before)
 (lB:∀(b:Nat) (sp:Nat→Bool) (hd:Bool),DataW.TrodAll enc P W' b sp hd f.resultTypes.toList (v.resultList f.resultTypes.size) (s.fn H (ds++gs)).results [])
 (uv:∀sp:Nat→Bool,(∀p∈before,sp p.block=true)→DataW.TrodAll enc P W' 0 sp true f.params.toList args.toList (s.fn H (ds++gs)).args pa)
 (yL:∀sp:Nat→Bool,(∀p∈before,sp p.block=true)→DataW.TrodVars enc P W' sp s.vars (s.fn H (ds++gs)).vars pv)
 (tq:before=pa++pv)(hb:Below W.heap.size W W')
 (de:∀(j:Nat) (t:TypeId) (r:Value),f.resultTypes[j]?=some t→(v.resultList f.resultTypes.size)[j]?=some r→Value.okWide P W' .any 0 t r) :
  s.post enc P f apart fresh handsOn again W args v W':=by
 have hold:∀p∈before,(λb=>decide (b<W.heap.size)) p.block=true:=λp hp=>by simpa using hW.lt p hp
 refine⟨ds,gs,before,[],pa,pv,hW,lB _ _ _,uv _ hold,yL _ hold,World.keptBut_mono (λp hp=>⟨hp,?_⟩) (hb.frame (·∈before)),λ_=>?_⟩
 ·rw[tq,List.mem_append] at hp;exact Or.inr hp
 ·have bj:=hW.lt;obtain⟨_,_,_,_,_,hz,hn⟩:=hW;refine⟨de,_,_,([]++pa)++pv,⟨[]++pa,pv,trodAll_append (uv _ (λ_ _=>rfl)) (lB _ _ _),yL _ (λ_ _=>rfl),rfl,?_,?_⟩,?_⟩
  ·intro b off hp;have cv:MemPlace.cell b off∈before:=by rw[tq]; simpa using hp
   rw[hb.frozen (p:=⟨b,off,none⟩) (show b<W.heap.size from bj _ cv)];exact hz b off cv
  ·intro ha;have:=hn ha;rw[tq] at this;simpa using this
  ·intro p hp _;rw[tq];simpa using hp
set_option maxRecDepth 100000
abbrev Gl:TypeId:=5
abbrev Ph:TypeId:=318
theorem Ew:ownKnob Tryz.prog.godebug=none:=by kernel_rfl
theorem MO:Tryz.prog.globalNamed "strings.asciiSpace" = some 0:=by kernel_rfl
theorem RS:(Tryz.prog.globals[0]?).map (·.type)=some Ph:=by kernel_rfl
theorem Us:laidOutB Tryz.prog=true:=by kernel_rfl
def fN:List Int:=(List.range 256).map λi=>match (Nat.ble 9 i&&Nat.ble i 13)||Nat.beq i 32 with|true=>1|false=>0
theorem U4{l:List (String×DataW Unit)}{x:String×DataW Unit}(hl:l=[x,("strings.asciiSpace",Lib.tabData .u8 fN)]){W:World}(h:laidMet Tryz.prog l W):∀p∈rH,Den (λb=>W.heap[b]?) aV (.ay p.2 0) (.pointer (some ⟨p.1,0,none⟩)):=by
 subst hl;have ht:Lib.TabIs Tryz.prog W "strings.asciiSpace" .u8 fN:=Lib.tabIs_of_head (rest:=[]) MO RS (show Tryz.prog.underlying Ph=some (.array 256 Gl) by kernel_rfl) (show Tryz.prog.underlying Gl=some (.int .u8) by kernel_rfl) (by kernel_rfl) (by kernel_rfl) h.tail;have hlen:fN.length=256:=by simp[fN]
 have cI:qw=fN.map (aa.int .u8):=by rw[qw,fN,List.map_map]; rfl
 intro p hp;simp only[rH,List.mem_singleton] at hp;subst hp;refine .ay _ qw 0 0 0 (λk=>.int .u8 (fN.getD k 0)) (λk hk=>?_) (λk y hy=>?_)
 ·have tn:k<fN.length:=by rw[cI,List.length_map] at hk; exact hk
  have:=(ID (ht.cell MO k tn)).2;rw[Nat.zero_add]; exact this
 ·rw[cI,List.getElem?_map] at hy;obtain⟨z,hz,rfl⟩:=Option.map_eq_some_iff.1 hy;have:fN.getD k 0=z:=by simp[List.getD,hz]
  rw[this]; exact .int _ _ _
def Ht:List TypeId:=[tF,QJ,DM,vH,C1,HK,C8,II,DX,xU,D6,Jc,DO,JY,Hr,tG,DY,Jd,vI,HJ,JE,tJ]
theorem O9:Ht.all (xR Tryz.prog Ht)=true:=by kernel_rfl
theorem OB{M:Nat→Option Obj}{xs:List aa}{cs:Array Value}(h:DL M xs cs.toList):Den M aV (.agg xs) (.agg cs):=
 .agg _ _ _ (by have:=h.1; simpa using this.symm) (λi x v h1 h2=>h.2 i x v h1 (by simpa using h2))
theorem Ol{P:Program}{t:TypeId}{ts:List TypeId}(h:Xt P t=some ts):∃fs,P.underlying t=some (.struct fs):=by
 unfold Xt at h;split at h
 ·rename_i fs e; exact⟨fs,e⟩
 ·cases h
section
variable {H:Type} {enc:TypeId×Value→H} {W:World} {base:Nat} {v:Value} {d:DataW H} {ps:List MemPlace}
theorem T4(ho:Value.okWide Tryz.prog W .any base tG v)(h:DataW.Trod enc Tryz.prog W 0 (λ_=>true) true tG v d ps)(hb:Rows.uptoBulk d≤1048576):∃b:Bk,bE b=true∧Zu b.ai∧Den (λk=>W.heap[k]?) aV (eY b) v:=by
 obtain⟨fs,E1⟩:=Ol F5;obtain⟨cs,rfl,_⟩:=okWide_struct E1 ho;obtain⟨fuel,hf⟩:=h;obtain⟨_,xs,h1,h2⟩:=HF (S:=Ht) O9 fuel tG (by decide) _ _ ⟨_,hf⟩;obtain⟨b,rfl,k1,k2⟩:=Gt h2 hb;exact⟨b,k1,k2,OB h1⟩
theorem TY(ho:Value.okWide Tryz.prog W .any base tJ v)(h:DataW.Trod enc Tryz.prog W 0 (λ_=>true) true tJ v d ps)(hb:Rows.uptoBulk d≤1048576):∃s:St,cw 2000000 s∧Den (λk=>W.heap[k]?) aV (eC s) v:=by
 obtain⟨fs,E1⟩:=Ol F6;obtain⟨cs,rfl,_⟩:=okWide_struct E1 ho;obtain⟨fuel,hf⟩:=h;obtain⟨_,xs,h1,h2⟩:=HF (S:=Ht) O9 fuel tJ (by decide) _ _ ⟨_,hf⟩;obtain⟨s,rfl,k⟩:=Gz h2 hb;exact⟨s,k,OB h1⟩
end
theorem I'{H:Type}{enc:TypeId×Value→H}{t:TypeId}(hr:Tryz.prog.readableRec t=true)(cI:t<Tryz.prog.types.size){W W':World}{v:Value}{d:DataW H}{ps all:List MemPlace}(h:DataW.Trod enc Tryz.prog W 0 (λ_=>true) true t v d ps)(hb:Below W.heap.size W W')(bj:∀p∈all,p.block<W.heap.size)(cv:∀p∈ps,p∈all){sp:Nat→Bool}(hs:∀p∈all,sp p.block=true):DataW.Trod enc Tryz.prog W' 0 sp true t v d ps:=
 WideElems.Trod_stays Us hr cI h (λp hp=>hb.same (bj p (cv p hp))) (λp hp=>hs p (cv p hp))
theorem I7(t:TypeId)(h:(Tryz.prog.readableRec t&&decide (t<Tryz.prog.types.size))=true):Tryz.prog.readableRec t=true∧t<Tryz.prog.types.size:=by simpa using h
theorem FV:Tryz.prog.readableRec tG=true∧tG<Tryz.prog.types.size:=I7 tG (by kernel_rfl)
theorem FW:Tryz.prog.readableRec tJ=true∧tJ<Tryz.prog.types.size:=I7 tJ (by kernel_rfl)
def Vm:List Int:=[9,13,1,32,133,101,160,5760,5600,8192,8202,1,8232,8233,1,8239,8287,48,12288,12288,1]
noncomputable def IE (os:Os):World:=
 let w0:=World.holding Tryz.prog os ⟨#[],#[],[]⟩
 let put (h:Array Obj) (g:Nat) (cs:Array Value):Array Obj:=h.modify g fun
  |.cells _ t frozen=>.cells cs t frozen
  |o=>o
 let h1:=put w0.heap 0 (fN.map λz=>Value.int .u8 z).toArray
 let h2:=put h1 1 #[.pointer (some ⟨w0.heap.size,0,none⟩)]
 { w0 with heap:=(h2.push (.cells #[.slice (some ⟨w0.heap.size+1,0,none⟩) 7 7,.slice none 0 0,.int .i64 2] 328 (0,0))).push (.cells (Vm.map λz=>Value.int .u16 z).toArray 331 (0,0)) }
theorem Yo{a b:Bool}(h:a=true)(k:b=true):(a&&b)=true:=by rw[h,k]; rfl
end Go.Proofs.YtflcpnaigpgciaaGreatDoor
end
section
namespace Go.Ah.Tz
open Go.Proofs.Tryz (prog)
attribute [local irreducible] al.rd al.pu al.wr al.dr al.gr al.gw al.gl al.gd al.opt au W
set_option maxHeartbeats 4000000
theorem c55(b:Bk)(hf:bE b=true)(fS:Zu b.ai)(s:St)(hs:cw 1000000000 s):PC 55 [eY b,eC s] (iv (bif bt (ej b).1 b s false then 0 else 170)):=by
 refine Qd hP oP rfl rfl ?_;unfold g55;refine Ze (v:=.an 0 0) (rd:=[]) (up:=[(0,.box (ed b))]) rfl rfl ?_;refine Ze (v:=.an 1 0) (rd:=[]) (up:=[(1,.box (bX s))]) rfl rfl ?_;refine ZP (rd:=[0,1]) (c111 b hf fS s hs false) rfl ke.plain (.cons (aS.box (row:=ed b) rfl (by simp) (bM.ro rfl)) <| .cons (aS.box (row:=bX s) rfl (by simp) (bM.ro rfl)) <| .cons (aS.ro rfl) .nil) rfl ?_;generalize bt (ej b).1 b s false=q;cases q with
 |true=>exact Za rfl (Xh rfl)
 |false=>exact Za rfl (Ye rfl)
end Go.Ah.Tz
end
section
namespace Go.Ah.Tz
open Go.Proofs.Tryz (prog)
def fV(p:Int×Int):List aa:=[iv p.1,iv p.2]
@[reducible] def qu(l:List (Int×Int)):aa:=.ax false false 2 (l.map fV)
theorem Ty(s:St)(id:Int):(∃k:Nat,∃u,aH s id=(0,(k:Int),true)∧s.s0.ae[k]?=some u)∨(∃k:Nat,∃u,aH s id=(1,(k:Int),true)∧s.s1.ae[k]?=some u)∨aH s id=(0,0,false):=by
 unfold aH;cases q0:ga s.s0.ae id with
 |some k=>obtain⟨u,hk,_⟩:=x7 q0; exact .inl ⟨k,u,rfl,hk⟩
 |none=>
  cases q1:ga s.s1.ae id with
  |some k=>obtain⟨u,hk,_⟩:=x7 q1; exact .inr (.inl ⟨k,u,rfl,hk⟩)
  |none=>exact .inr (.inr rfl)
end Go.Ah.Tz
end
section
namespace Go.Ah.Tz
open Go.Proofs.Tryz (prog)
attribute [local irreducible] al.rd al.pu al.wr al.dr al.gr al.gw al.gl al.gd al.opt au W
set_option maxHeartbeats 8000000
theorem c176(l:List Int)(hl:l.length≤1000000000)(x:Int):∃n:Int,PC 176 [bd l,iv x] (iv n)∧decide (n ≥ 0)=l.any λy=>decide (y=x):=by
 have key:∀n:Int,(∀i:Nat,i≤l.length→((l.take i).any λy=>decide (y=x))=false→(∀h:i<l.length,l[i]=x→n=i)∧(i=l.length→n = -1))→PC 176 [bd l,iv x] (iv n):=by
  intro n hn;refine Qd hP ow rfl rfl ?_;unfold g176;refine Za (v:=iv l.length) (rd:=[]) (by simp[Yh]) ?_;refine Zl (ι:=Nat) (λi vs σ=>vs=[iv i]∧i≤l.length∧((l.take i).any λy=>decide (y=x))=false) (λi=>l.length-i) 0 ⟨rfl,by omega,rfl⟩ ?_;rintro i vs σ again ⟨rfl,hi,hu⟩ aM;refine Za (Qv ..) (Zc (λh=>?_) (λh=>?_))
  ·have h:i<l.length:=by simpa using h
   refine Za (Zp _ bL false false 1 l .i64 i h) (Za (aj rfl) (Za (Qf ..) (Zc (λhe=>?_) (λhe=>?_))))
   ·have he:l[i]=x:=by simp at he; exact he.symm
    rw[(hn i hi hu).1 h he];rfl
   ·refine Za (Xk ..) ?_;rw[Zf (n:=i) (by omega)];refine aM (i+1) _ _ (by omega) ⟨rfl,by omega,?_⟩;rw[List.take_succ_eq_append_getElem h,List.any_append,hu];have he:¬x=l[i]:=by simpa using he
    simpa using λk=>he k.symm
  ·have h:i=l.length:=by simp at h; omega
   rw[(hn i hi hu).2 h]
 cases hf:l.findIdx? (λy=>decide (y=x)) with
 |none=>
  have hn:∀y∈l,¬y=x:=by simpa[List.findIdx?_eq_none_iff] using hf
  refine⟨-1,key _ (λi hi _=>⟨λh e=>(hn _ (List.getElem_mem h) e).elim,λ_=>rfl⟩),?_⟩;have:(l.any λy=>decide (y=x))=false:=by simpa using hn
  rw[this]; rfl
 |some k=>
  obtain⟨hk,h2,h3⟩:=List.findIdx?_eq_some_iff_getElem.1 hf;have h2:l[k]=x:=by simpa using h2
  refine⟨k,key _ (λi hi hu=>⟨λh e=>?_,λh=>?_⟩),?_⟩
  ·rcases Nat.lt_trichotomy i k with q|q|q
   ·have h4:¬l[i]=x:=by simpa using h3 i q
    exact(h4 e).elim
   ·rw[q]
   ·have:((l.take i).any λy=>decide (y=x))=true:=List.any_eq_true.2 ⟨_,List.mem_take_iff_getElem.2 ⟨k,by omega,rfl⟩,by simpa using h2⟩;rw[this] at hu; cases hu
  ·have:((l.take i).any λy=>decide (y=x))=true:=List.any_eq_true.2 ⟨_,List.mem_take_iff_getElem.2 ⟨k,by omega,rfl⟩,by simpa using h2⟩;rw[this] at hu; cases hu
  ·have:(l.any λy=>decide (y=x))=true:=List.any_eq_true.2 ⟨_,List.getElem_mem hk,by simpa using h2⟩;rw[this]; simp
theorem c138(l:List Int)(hl:l.length≤1000000000)(x:Int):PC 138 [bd l,iv x] (.bool (l.any λy=>decide (y=x))):=by
 obtain⟨n,h1,h2⟩:=c176 l hl x;refine Qd hP oi rfl rfl ?_;unfold g138;rw[←h2];exact Qc h1 rfl ow.plain rfl (Za (sE ..) rfl)
end Go.Ah.Tz
end
section
namespace Go.Ah.Tz
open Go.Proofs.Tryz (prog)
open Go.Proofs.YtflcpnaigpgciaaGreatDoor.Rows (uptoBulk uptoBulkAll)
variable {H:Type}
abbrev L1:TypeId:=72
abbrev tH:TypeId:=70
abbrev DC:TypeId:=151
theorem Pk:prog.underlying tH=some (.slice DC):=by kernel_rfl
theorem Lw:prog.cellsOf DC=2:=by kernel_rfl
theorem LO:Xt prog DC=some [QJ,QJ]:=by kernel_rfl
theorem Gy(fuel:Nat)(xs:List aa)(d:DataW H)(h:Typed prog fuel DC xs d)(hb:uptoBulk d≤1048576):∃x,xs=fV x∧True∧0≤uptoBulk d:=by
 obtain⟨f,parts,ds,rfl,rfl,rfl,r⟩:=YG h LO;obtain⟨p0,parts,d0,ds,rfl,rfl,h0,r⟩:=r.cons;obtain⟨p1,parts,d1,ds,rfl,rfl,h1,r⟩:=r.cons;obtain⟨rfl,rfl⟩:=r.nil;obtain⟨v0,rfl,w0,rfl⟩:=Yw h0 XQ;obtain⟨v1,rfl,w1,rfl⟩:=Yw h1 XQ;exact⟨(v0,v1),rfl,trivial,by omega⟩
theorem Sw{fuel:Nat}{xs:List aa}{d:DataW H}(h:Typed prog fuel tH xs d)(hb:uptoBulk d≤1048576):∃l,xs=[qu l]∧l.length≤2000000:=by
 obtain⟨l,rfl,_,_,k⟩:=ZF fV (λ_=>0) (λ_=>True) h Pk Lw (λf' _=>Gy f') hb;exact⟨l,rfl,by omega⟩
end Go.Ah.Tz
namespace Go.Proofs.YtflcpnaigpgciaaGreatDoor
open Go.ChangeShapes Go.WideShapes Go.ChangeAt Go.RowKit Go.Ah Go.Ah.Tz
set_option maxRecDepth 100000
def Jj:List TypeId:=[tF,QJ,L1,tH,DC,vI]
theorem VG:Jj.all (xR Tryz.prog Jj)=true:=by kernel_rfl
end Go.Proofs.YtflcpnaigpgciaaGreatDoor
end
section
namespace Go.Proofs.YtflcpnaigpgciaaGreatDoor
open Go.ChangeShapes Go.WideShapes Go.ChangeAt Go.RowKit Go.Ah Go.Ah.Tz
set_option maxRecDepth 100000
theorem NB:Tryz.prog.readableRec tH=true∧tH<Tryz.prog.types.size:=I7 tH (by kernel_rfl)
section
variable {H:Type} {enc:TypeId×Value→H} {W:World} {base:Nat} {v:Value} {d:DataW H} {ps:List MemPlace}
theorem Ex(ho:Value.okWide Tryz.prog W .any base tH v)(h:DataW.Trod enc Tryz.prog W 0 (λ_=>true) true tH v d ps)(hb:Rows.uptoBulk d≤1048576):∃l:List (Int×Int),l.length≤1000000000∧Den (λk=>W.heap[k]?) aV (qu l) v:=by
 obtain⟨a,len,cap,rfl⟩:=okWide_slice Pk ho;obtain⟨fuel,hf⟩:=h;obtain⟨_,xs,h1,h2⟩:=HF (S:=Jj) VG fuel tH (by decide) _ _ ⟨_,hf⟩;obtain⟨l,rfl,k⟩:=Sw h2 hb;exact⟨l,by omega,h1.2 0 _ _ rfl rfl⟩
end
end Go.Proofs.YtflcpnaigpgciaaGreatDoor
end
section
namespace Go.Ah
open Go.Sort (Holds putRow grow putCells)
def mD(P:Program)(f:FuncId):Prop:=∀(blk off cap:Nat) (zs:List Int) (w:World),Holds (Value.int .i64) w blk off zs.toArray→blk<w.heap.size→zs.length<4611686018427387904 →
 Calls P f #[.slice (some ⟨blk,off,none⟩) zs.length cap] w λe w'=>e=.returned (.tuple #[])∧∃n os,w'=grow (putRow (Value.int .i64) (Sort.ahead w n) blk off (zs.mergeSort λx y=>decide (x≤y)).toArray) os
def qA(l:List Int):List Int:=l.mergeSort λx y=>decide (x≤y)
theorem IG(l:List Int):(qA l).length=l.length:=by simp[qA]
theorem SC(l:List Int):(qA l).Perm l:=List.mergeSort_perm l _
theorem Sv(l:List Int):(qA l).Pairwise (·≤·):=by
 have:=List.pairwise_mergeSort (le:=λx y:Int=>decide (x≤y)) (λa b c h k=>by simp at h k ⊢; omega) (λa b=>by simp; omega) l;exact this.imp (λh=>by simpa using h)
section
variable {P:Program} {GL:aA}
theorem VE{f:FuncId}(hs:mD P f){h0:Hp}{b:Nat}{zs:List Int}{ex:Bool}(hb:h0 b=some (.rows 1 (zs.map λz=>[.int .i64 z])))(dL:zs≠[])(hlen:zs.length<4611686018427387904) :
  fD P GL f [.sl b 0 zs.length ex] h0 (.aG []) [] [(b,.rows 1 ((qA zs).map λz=>[.int .i64 z]))]:=by
 intro w0 L g h w vs r hx _ dH;have bq:h b=some (.rows 1 (zs.map λz=>[.int .i64 z])):=by rw[dH (b,_) (List.mem_singleton.2 rfl)]; exact hb
 have oY:0<zs.length:=List.length_pos_iff.2 dL
 match vs,hx with
 |[v],hx=>
 have hd:=hx.1;generalize hk:zs.length=k at hd;cases hd with
 |mu _ _ _ cb a ec hv=>omega
 |sl _ _ _ _ _ cb cap ec hv h1 h2 h3=>
 subst hk;obtain⟨hM,cv,_⟩:=r.own b _ cb bq rfl ec hv;obtain⟨ei,arr,T,ho,ht,hle,_,sf⟩:=r.dw bq ec hv;simp only[List.length_map,Nat.mul_one] at hle;have FC:arr.toList.take zs.length=zs.map (Value.int .i64):=by
  apply List.ext_getElem?;intro j;by_cases hj:j<zs.length
  ·rw[List.getElem?_take_of_lt hj,List.getElem?_map,List.getElem?_eq_getElem hj,Array.getElem?_toList];obtain⟨u,hu⟩:∃u,arr[j]?=some u:=⟨arr[j]'(by omega),by simp[show j<arr.size by omega]⟩;have:=sf j [.int .i64 zs[j]] 0 (.int .i64 zs[j]) u (by simp[hj]) rfl (by simpa using hu);rw[hu];cases this;rfl
  ·rw[List.getElem?_take_eq_none (by omega),List.getElem?_eq_none (by simp; omega)]
 have bj:cb.blk<w.heap.size:=(Array.getElem?_eq_some_iff.1 ho).1;have pz:0*cb.sz=0:=by simp
 rw[pz];refine(hs cb.blk 0 cap zs w (holds_of_blockI ho FC) bj hlen).mono ?_;rintro e w' ⟨rfl,n,os,rfl⟩;refine⟨_,rfl,g,Gm.Le.refl _,?_,.aG _ [] #[] rfl (by simp)⟩;have eR:(qA zs).length=zs.length:=IG zs;have r1:=r.write (b:=b) (blk':=.rows 1 ((qA zs).map λz=>[.int .i64 z])) (o':=.cells (putCells (Value.int .i64) 0 (qA zs).toArray arr) T (0,0)) (w':={ w with heap:=w.heap.setIfInBounds cb.blk (.cells (putCells (Value.int .i64) 0 (qA zs).toArray arr) T (0,0)) }) bq rfl ec hv rfl rfl rfl rfl rfl ⟨ei,_,T,rfl,by simp[putCells,ht],by simp; omega,by simp,?_⟩
 ·have KR:=grownBy_sortedI (w:=w) (g:=cb.blk) (n:=n) (os:=os) (qA zs).toArray;have hh:=heap_sortedI (w:=w) (g:=cb.blk) (n:=n) (os:=os) (qA zs).toArray ho;refine r1.after (M:=λ_=>none) (M':=g.M) ?_ (fE.refl _) (λc o fo=>?_) (λc o fo=>.inl fo)
  ·refine⟨rfl,rfl,rfl,?_,λk hk _=>?_⟩
   ·show (w.heap.setIfInBounds _ _).size≤_;rw[Array.size_setIfInBounds]; exact KR.size
   ·have tn:k<w.heap.size:=by simpa using hk
    show _=(w.heap.setIfInBounds _ _)[k]?;by_cases e:k=cb.blk
    ·subst e;rw[show (w.heap.setIfInBounds cb.blk _)[cb.blk]?=_ from Array.getElem?_setIfInBounds_self_of_lt tn];exact hh
    ·rw[Array.getElem?_setIfInBounds_ne (λq=>e q.symm)];exact KR.block k tn (λq=>e (Option.some.inj q))
  ·have hc:c<w.heap.size:=r.eg fo;exact(KR.block c hc (λq=>by cases q; rw[hM] at fo; cases fo)).trans (r.aJ c o fo)
 ·intro i row j x v hi hj ni;rw[List.getElem?_map] at hi;obtain⟨z,hz,rfl⟩:=Option.map_eq_some_iff.1 hi;have hj0:j=0:=by
   have:=(cJ hj).1;simpa using this
  subst hj0;cases hj;have P9:i<(qA zs).length:=(cJ hz).1;simp only[putCells,Nat.mul_one,Nat.add_zero,Array.getElem?_mapIdx] at ni;have WY:i<arr.size:=by omega
  rw[Array.getElem?_eq_getElem WY,Option.map_some,if_pos ⟨Nat.zero_le _,by simpa using P9⟩] at ni;have:(qA zs).toArray[i-0]! = z:=by
   rw[Nat.sub_zero];rw[getElem!_pos _ i (by simpa using P9)];have:=(cJ hz).2;simpa using this
  rw[this] at ni;cases ni;exact .int _ _ _
end
theorem Wq{row:List aa}(h:row.all aa.cell=true):cellsOf (.agg row)=some row:=by simp[cellsOf,h]
theorem Pm{row:List aa}(h:row.all aa.cell=true)(σ:List ab):Zm [.agg row] σ=.ok (.an σ.length 0) [] [(σ.length,.box row)]:=by rw[Ez,Wq h]
theorem vD(n:Nat)(σ:List ab)(x:aa)(z cs:List aa)(hx:fill z [(0,n)] [x]=some cs)(hc:chunk n 1 cs=some [cs]):Xi n 1 z [(0,n)] [x] σ=.ok (.sl σ.length 0 1 true) [] [(σ.length,.rows n [cs])]:=by simp only[Xi,hx,hc]
theorem aS.more{h0:Hp}{rd gA:List Nat}{x y:aa}(h:aS h0 rd x y)(hs:∀b∈rd,b∈gA):aS h0 gA x y:=
 λGL w0 L g h' w M2 r hM cB v d=>h GL w0 L g h' w M2 r hM (λb hb=>cB b (hs b hb)) v d
theorem PA{σ:List ab}{n c k:Nat}{ex2:Bool}{sr:List (List aa)}(hc:ah σ c=.rows n sr)(eR:sr.length=k):QG n σ (.sl c 0 k ex2)=some (sr,[c]):=by
 simp only[QG,hc];simp[cut,eR];rw[show Nat.ble k k=true from Nat.ble_eq_true_of_le (Nat.le_refl _)];simp[←eR]
theorem QT(n cd:Nat){σ:List ab}{b c len k:Nat}{ex ex2:Bool}{rs sr:List (List aa)}(hb:ah σ b=.rows n rs)(hc:ah σ c=.rows n sr)(hl:rs.length=len)(eR:sr.length=k)(hr:Qw sr=true)(cr:(2*(len+k)+192)*cd≤2 ^ 48) :
  Qj n cd [.sl b 0 len ex,.sl c 0 k ex2] σ=.ok (.sl σ.length 0 (len+k) false) [c] ([(b,.dead)]++[(σ.length,.rows n (rs++sr))]):=by
 have h2:Nat.ble ((2*(len+k)+192)*cd) (2 ^ 48)=true:=Nat.ble_eq_true_of_le cr;have:Qj n cd [.sl b 0 len ex,.sl c 0 k ex2] σ=QK n cd σ rs [(b,.dead)] (.sl c 0 k ex2):=by
  simp[Qj,D1,hb,hl]
 rw[this];unfold QK;simp only[PA hc eR,hr,eR,h2,Bool.and_self,cond_true,hl]
theorem Y1(n cd:Nat){σ:List ab}{c k:Nat}{ex2:Bool}{sr:List (List aa)}(hc:ah σ c=.rows n sr)(eR:sr.length=k)(hr:Qw sr=true)(cr:(2*k+192)*cd≤2 ^ 48) :
  Qj n cd [.af,.sl c 0 k ex2] σ=.ok (.sl σ.length 0 k false) [c] ([]++[(σ.length,.rows n sr)]):=by
 have h3:Nat.ble ((2*k+192)*cd) (2 ^ 48)=true:=Nat.ble_eq_true_of_le cr;show QK n cd σ [] [] (.sl c 0 k ex2)=_;unfold QK;simp only[PA hc eR,hr,eR,List.length_nil,h3,Bool.and_self,cond_true,Nat.zero_add,List.nil_append]
end Go.Ah
end
section
namespace Go.Ah.Tz
open Go.Proofs.Tryz (prog)
theorem We{σ:List ab}{b:Nat}{l:List Int}{ex:Bool}(h:mD prog 89)(hb:ah σ b=.rows 1 (l.map bL))(dL:l≠[])(hlen:l.length≤1000000000){K:aa→List ab→Prop}(hK:K (.aG []) (σ.set b (.rows 1 ((qA l).map bL)))) :
  VV.call (.call 89) [.sl b 0 l.length ex] σ K:=
 QO rfl qQ.plain (VE h (ZE hb (by simp)) dL (by omega)) (Xn _ (Qh hb (by simp))) hK
end Go.Ah.Tz
end
section
namespace Go.Ah.Tz
open Go.Shelf Go.Proofs
open Go.Proofs.Tryz (prog)
def UD:Go.Shelf.Ren:=⟨fun|189=>89|125=>129|257=>128|128=>172|129=>173|294=>163|295=>164|296=>165|297=>166|298=>167|299=>168|216=>169|300=>170|301=>171|328=>215|329=>216|330=>217|331=>218|332=>219|215=>220|343=>234|n=>n,fun|28=>27|3=>3|46=>202|0=>0|51=>245|53=>247|4=>4|183=>238|182=>237|131=>209|5=>5|9=>9|218=>276|222=>280|228=>296|229=>125|n=>n,fun|n=>n⟩
theorem uV:Go.Proofs.Lays.n189 prog UD:={
 mixed:=by kernel_rfl,
 f125:=Tryz.func129.trans (congrArg some (by kernel_rfl)),
 f128:=Tryz.func172.trans (congrArg some (by kernel_rfl)),
 f129:=Tryz.func173.trans (congrArg some (by kernel_rfl)),
 f189:=Tryz.func89.trans (congrArg some (by kernel_rfl)),
 f215:=Tryz.func220.trans (congrArg some (by kernel_rfl)),
 f216:=Tryz.func169.trans (congrArg some (by kernel_rfl)),
 f257:=Tryz.func128.trans (congrArg some (by kernel_rfl)),
 f294:=Tryz.func163.trans (congrArg some (by kernel_rfl)),
 f295:=Tryz.func164.trans (congrArg some (by kernel_rfl)),
 f296:=Tryz.func165.trans (congrArg some (by kernel_rfl)),
 f297:=Tryz.func166.trans (congrArg some (by kernel_rfl)),
 f298:=Tryz.func167.trans (congrArg some (by kernel_rfl)),
 f299:=Tryz.func168.trans (congrArg some (by kernel_rfl)),
 f300:=Tryz.func170.trans (congrArg some (by kernel_rfl)),
 f301:=Tryz.func171.trans (congrArg some (by kernel_rfl)),
 f328:=Tryz.func215.trans (congrArg some (by kernel_rfl)),
 f329:=Tryz.func216.trans (congrArg some (by kernel_rfl)),
 f330:=Tryz.func217.trans (congrArg some (by kernel_rfl)),
 f331:=Tryz.func218.trans (congrArg some (by kernel_rfl)),
 f332:=Tryz.func219.trans (congrArg some (by kernel_rfl)),
 f343:=Tryz.func234.trans (congrArg some (by kernel_rfl)),
 t0:=Tryz.underlying0,
 a0:=Tryz.isAgg0,
 z0:=Tryz.sizeOf0,
 v0:=Tryz.zeroValue0,
 t3:=Tryz.underlying3,
 a3:=Tryz.isAgg3,
 z3:=Tryz.sizeOf3,
 v3:=Tryz.zeroValue3,
 t4:=Tryz.underlying4,
 a4:=Tryz.isAgg4,
 z4:=Tryz.sizeOf4,
 v4:=Tryz.zeroValue4,
 t5:=Tryz.underlying5,
 a5:=Tryz.isAgg5,
 z5:=Tryz.sizeOf5,
 v5:=Tryz.zeroValue5,
 t9:=Tryz.underlying9,
 a9:=Tryz.isAgg9,
 z9:=Tryz.sizeOf9,
 v9:=Tryz.zeroValue9,
 t28:=Tryz.underlying27,
 a28:=Tryz.isAgg27,
 z28:=Tryz.sizeOf27,
 v28:=Tryz.zeroValue27,
 t46:=Tryz.underlying202,
 a46:=Tryz.isAgg202,
 z46:=Tryz.sizeOf202,
 v46:=Tryz.zeroValue202,
 t51:=Tryz.underlying245,
 a51:=Tryz.isAgg245,
 z51:=Tryz.sizeOf245,
 v51:=Tryz.zeroValue245,
 t53:=Tryz.underlying247,
 a53:=Tryz.isAgg247,
 z53:=Tryz.sizeOf247,
 v53:=Tryz.zeroValue247,
 t131:=Tryz.underlying209,
 a131:=Tryz.isAgg209,
 z131:=Tryz.sizeOf209,
 v131:=Tryz.zeroValue209,
 t182:=Tryz.underlying237,
 a182:=Tryz.isAgg237,
 z182:=Tryz.sizeOf237,
 v182:=Tryz.zeroValue237,
 t183:=Tryz.underlying238,
 a183:=Tryz.isAgg238,
 z183:=Tryz.sizeOf238,
 v183:=Tryz.zeroValue238,
 t218:=Tryz.underlying276,
 a218:=Tryz.isAgg276,
 z218:=Tryz.sizeOf276,
 v218:=Tryz.zeroValue276,
 t222:=Tryz.underlying280,
 a222:=Tryz.isAgg280,
 z222:=Tryz.sizeOf280,
 v222:=Tryz.zeroValue280,
 t228:=Tryz.underlying296,
 a228:=Tryz.isAgg296,
 z228:=Tryz.sizeOf296,
 v228:=Tryz.zeroValue296,
 t229:=Tryz.underlying125,
 a229:=Tryz.isAgg125,
 z229:=Tryz.sizeOf125,
 v229:=Tryz.zeroValue125 }
theorem Az:mD prog 89:=λblk off cap zs w hH hb hl=>Any.slices_Sort_int uV blk off cap zs w hH hb hl
end Go.Ah.Tz
end
section
namespace Go.Ah.Tz
open Go.Proofs.Tryz (prog)
attribute [local irreducible] al.rd al.pu al.wr al.dr al.gr al.gw al.gl al.gd al.opt au W
set_option maxHeartbeats 8000000
def iw(go:Int→Bool)(step:Nat→Int→Int):Nat→Nat→Int→Int
 |0,_,a=>a
 |k+1,i,a=>if go a=true then iw go step k (i+1) (step i a) else a
theorem C7{go:Int→Bool}{step:Nat→Int→Int}{n i:Nat}{a r:Int}(h:i<n)(hg:go a=true)(hr:iw go step (n-i) i a=r):iw go step (n-(i+1)) (i+1) (step i a)=r:=by
 rw[show n-i=n-(i+1)+1 by omega,iw,if_pos hg] at hr; exact hr
theorem C5{go:Int→Bool}{step:Nat→Int→Int}{n i:Nat}{a r:Int}(h:¬i<n∨go a=false)(hr:iw go step (n-i) i a=r):a=r:=by
 cases k:n-i with
 |zero=>rw[k] at hr; exact hr
 |succ m=>
  rcases h with h|h
  ·omega
  ·rw[k,iw,if_neg (by rw[h]; simp)] at hr; exact hr
theorem c174(k:Nat):∀x:Nm,SizeOf.sizeOf x≤k→cQ x=true→∃n,PC 174 [.agg (aP x)] (iv n):=by
 induction k with
 |zero=>intro x h _; cases x; simp at h
 |succ k ih=>
  intro x hk hf;have hl:=Q2 hf;rw[cM] at hl;have hF:∃F:Nat→Int,∀i (h:i<x.kids.length),PC 174 [.agg (aP x.kids[i])] (iv (F i)):=by
   refine Classical.axiomOfChoice (r:=λ(i:Nat) (n:Int)=>∀(h:i<x.kids.length),PC 174 [.agg (aP x.kids[i])] (iv n)) (λi=>?_);by_cases h:i<x.kids.length
   ·have hm:=List.getElem_mem h;obtain⟨n,hn⟩:=ih x.kids[i] (by have:=zg hm; omega) (XU hf hm);exact⟨n,λ_=>hn⟩
   ·exact⟨0,λh'=>(h h').elim⟩
  obtain⟨F,hF⟩:=hF;rw[QA];generalize hr:iw (λ_=>true) (λi a=>min (IntKind.i64.wrap (a+F i)) 100000) (x.kids.length-0) 0 1=r;refine⟨r,Qd hP lI rfl rfl ?_⟩;unfold g174;refine Ze rfl rfl ?_;refine Zl (ι:=Nat) (λi vs σ=>(∃a,vs=[iv i,iv a]∧iw (λ_=>true) (λi a=>min (IntKind.i64.wrap (a+F i)) 100000) (x.kids.length-i) i a=r)∧ah σ 0=.box [ar x.op,iv x.n,ar x.aB,.ax false false 4 (x.kids.map aP)]∧i≤x.kids.length) (λi=>x.kids.length-i) 0 ⟨⟨1,rfl,hr⟩,rfl,by omega⟩ ?_;rintro i vs σ again ⟨⟨a,rfl,hr⟩,hB,hi⟩ aM;refine Za rfl (Za (ld hB rfl) (Za (Yh ..) ?_));rw[List.length_map];refine Za (Qv ..) (Zc (λh=>?_) (λh=>?_))
  ·have h:i<x.kids.length:=by simpa using h
   refine Za rfl (Za (ld hB rfl) (Za (Zp _ aP false false 4 x.kids .i64 i h) (Za (v:=.agg (aP x.kids[i])) (aj (by rw[QA]; rfl)) ?_)));refine Qc (hF i h) rfl lI.plain (by rw[QA]; rfl) (Za (Xk ..) (Za (ZK ..) (Za (Xk ..) ?_)));rw[Zf (n:=i) (by omega)];exact aM (i+1) _ _ (by omega) ⟨⟨_,rfl,C7 h rfl hr⟩,hB,by omega⟩
  ·exact congrArg iv (C5 (.inl (by simpa using h)) hr)
theorem c175(k:Nat):∀x:Cn,SizeOf.sizeOf x≤k→cy x=true→∃n,PC 175 [.agg (b_ x)] (iv n):=by
 induction k with
 |zero=>intro x h _; cases x; simp at h
 |succ k ih=>
  intro x hk hf;have ik:=YL hf;have eR:=ZL hf;rw[cM] at ik eR;have hF:∃F:Nat→Int,∀i (h:i<x.aw.length),PC 174 [.agg (aP x.aw[i])] (iv (F i)):=by
   refine Classical.axiomOfChoice (r:=λ(i:Nat) (n:Int)=>∀(h:i<x.aw.length),PC 174 [.agg (aP x.aw[i])] (iv n)) (λi=>?_);by_cases h:i<x.aw.length
   ·obtain⟨n,hn⟩:=c174 _ x.aw[i] (Nat.le_refl _) (ZT hf (List.getElem_mem h));exact⟨n,λ_=>hn⟩
   ·exact⟨0,λh'=>(h h').elim⟩
  have hG:∃F:Nat→Int,∀i (h:i<x.kids.length),PC 175 [.agg (b_ x.kids[i])] (iv (F i)):=by
   refine Classical.axiomOfChoice (r:=λ(i:Nat) (n:Int)=>∀(h:i<x.kids.length),PC 175 [.agg (b_ x.kids[i])] (iv n)) (λi=>?_);by_cases h:i<x.kids.length
   ·have hm:=List.getElem_mem h;obtain⟨n,hn⟩:=ih x.kids[i] (by have:=zj hm; omega) (QS hf hm);exact⟨n,λ_=>hn⟩
   ·exact⟨0,λh'=>(h h').elim⟩
  obtain⟨F,hF⟩:=hF;obtain⟨G,hG⟩:=hG;rw[XH];generalize hr:iw (λ_=>true) (λi a=>min (IntKind.i64.wrap (a+F i)) 100000) (x.aw.length-0) 0 1=r;generalize tt:iw (λ_=>true) (λi a=>min (IntKind.i64.wrap (a+G i)) 100000) (x.kids.length-0) 0 r=r2;refine⟨r2,Qd hP ov rfl rfl ?_⟩;unfold g175;refine Ze rfl rfl ?_;refine Zl (ι:=Nat) (λi vs σ=>(∃a,vs=[iv i,iv a]∧iw (λ_=>true) (λi a=>min (IntKind.i64.wrap (a+F i)) 100000) (x.aw.length-i) i a=r)∧ah σ 0=.box [ar x.op,ar x.aB,.str x.name,.ax false false 4 (x.aw.map aP),.ax false false 5 (x.kids.map b_)]∧i≤x.aw.length) (λi=>x.aw.length-i) 0 ⟨⟨1,rfl,hr⟩,rfl,by omega⟩ ?_;rintro i vs σ again ⟨⟨a,rfl,hr⟩,hB,hi⟩ aM;refine Za rfl (Za (ld hB rfl) (Za (Yh ..) ?_));rw[List.length_map];refine Za (Qv ..) (Zc (λh=>?_) (λh=>?_))
  ·have h:i<x.aw.length:=by simpa using h
   refine Za rfl (Za (ld hB rfl) (Za (Zp _ aP false false 4 x.aw .i64 i h) (Za (v:=.agg (aP x.aw[i])) (aj (by rw[QA]; rfl)) ?_)));refine Qc (hF i h) rfl lI.plain (by rw[QA]; rfl) (Za (Xk ..) (Za (ZK ..) (Za (Xk ..) ?_)));rw[Zf (n:=i) (by omega)];exact aM (i+1) _ _ (by omega) ⟨⟨_,rfl,C7 h rfl hr⟩,hB,by omega⟩
  obtain rfl:=C5 (.inl (by simpa using h)) hr;clear aM again hr h hi;refine Zl (ι:=Nat) (λi vs σ=>(∃a,vs=[iv i,iv a]∧iw (λ_=>true) (λi a=>min (IntKind.i64.wrap (a+G i)) 100000) (x.kids.length-i) i a=r2)∧ah σ 0=.box [ar x.op,ar x.aB,.str x.name,.ax false false 4 (x.aw.map aP),.ax false false 5 (x.kids.map b_)]∧i≤x.kids.length) (λi=>x.kids.length-i) 0 ⟨⟨_,rfl,tt⟩,hB,by omega⟩ ?_;rintro i vs σ again ⟨⟨a,rfl,hr⟩,hB,hi⟩ aM;refine Za rfl (Za (ld hB rfl) (Za (Yh ..) ?_));rw[List.length_map];refine Za (Qv ..) (Zc (λh=>?_) (λh=>?_))
  ·have h:i<x.kids.length:=by simpa using h
   refine Za rfl (Za (ld hB rfl) (Za (Zp _ b_ false false 5 x.kids .i64 i h) (Za (v:=.agg (b_ x.kids[i])) (aj (by rw[XH]; rfl)) ?_)));refine Qc (hG i h) rfl ov.plain (by rw[XH]; rfl) (Za (Xk ..) (Za (ZK ..) (Za (Xk ..) ?_)));rw[Zf (n:=i) (by omega)];exact aM (i+1) _ _ (by omega) ⟨⟨_,rfl,C7 h rfl hr⟩,hB,by omega⟩
  ·exact congrArg iv (C5 (.inl (by simpa using h)) hr)
theorem told{α:Type}(l:List α){Q:α→Int→Prop}(h:∀x∈l,∃n,Q x n):∃F:Nat→Int,∀i (h:i<l.length),Q l[i] (F i):=by
 refine Classical.axiomOfChoice (r:=λ(i:Nat) (n:Int)=>∀(h:i<l.length),Q l[i] n) (λi=>?_);by_cases hi:i<l.length
 ·obtain⟨n,hn⟩:=h l[i] (List.getElem_mem hi);exact⟨n,λ_=>hn⟩
 ·exact⟨0,λh'=>(hi h').elim⟩
theorem c135(k:Nat):∀l:List Ef,SizeOf.sizeOf l≤k→bA l=true→∃n,PC 135 [ju l] (iv n):=by
 induction k with
 |zero=>intro l h _; cases l<;>simp at h
 |succ k ih=>
  intro l hk hf;have hl:=ZC hf;rw[cM] at hl;have hm:∀x∈l,cX x=true∧SizeOf.sizeOf x<SizeOf.sizeOf l:=λx hx=>⟨by simp only[bA,Bool.and_eq_true] at hf; exact Jw hf.2 x hx,List.sizeOf_lt_of_mem hx⟩;obtain⟨F1,h1⟩:=told l (Q:=λx n=>PC 174 [.agg (aP x.n)] (iv n)) (λx hx=>c174 _ x.n (Nat.le_refl _) (Y4 (hm x hx).1));obtain⟨F2,h2⟩:=told l (Q:=λx n=>PC 175 [.agg (b_ x.c)] (iv n)) (λx hx=>c175 _ x.c (Nat.le_refl _) (YZ (hm x hx).1));obtain⟨F3,h3⟩:=told l (Q:=λx n=>PC 135 [ju x.bk] (iv n)) (λx hx=>ih x.bk (by have:=(ZX x).1; have:=(hm x hx).2; omega) (QI (hm x hx).1));obtain⟨F4,h4⟩:=told l (Q:=λx n=>PC 135 [ju x.br] (iv n)) (λx hx=>ih x.br (by have:=(ZX x).2; have:=(hm x hx).2; omega) (XI (hm x hx).1))
  let st:Nat→Int→Int:=λi a=>IntKind.i64.wrap (IntKind.i64.wrap (IntKind.i64.wrap (IntKind.i64.wrap (a+F1 i)+F2 i)+F3 i)+F4 i)
  generalize hr:iw (λa=>decide (a<100000)) st (l.length-0) 0 l.length=r;refine⟨min r 100000,Qd hP gR rfl rfl ?_⟩;unfold g135;refine Za (Yh ..) ?_;rw[List.length_map];refine Zl (ι:=Nat) (λi vs σ=>(∃a,vs=[iv i,iv a]∧iw (λa=>decide (a<100000)) st (l.length-i) i a=r)∧i≤l.length) (λi=>l.length-i) 0 ⟨⟨_,rfl,hr⟩,by omega⟩ ?_;rintro i vs σ again ⟨⟨a,rfl,hr⟩,hi⟩ aM;refine Za (Yh ..) ?_;rw[List.length_map];refine Za (Qv ..) (IM (λ_=>rfl) (λ_=>Qv ..) (Zc (λh=>?_) (λh=>?_)))
  ·simp only[Bool.and_eq_true,decide_eq_true_eq] at h;obtain⟨h,bj⟩:=h;have h:i<l.length:=by omega
   have bW:=λσ=>Zp σ aX false false 14 l .i64 i h
   replace h1:=h1 i h
   replace h2:=h2 i h
   replace h3:=h3 i h
   replace h4:=h4 i h
   have hR:=C7 h (decide_eq_true bj) hr;generalize l[i]=x at bW h1 h2 h3 h4;refine Yk (bW _) (Yl _) (Zk rfl (Yk (aj (yo x)) (Yl _) (Qn h1 rfl lI.plain (by rw[QA]; rfl) (Zk (Xk ..) ?_))));refine Yk (bW _) (Yl _) (Zk rfl (Yk (aj (rM x)) (Yl _) (Qn h2 rfl ov.plain (by rw[XH]; rfl) (Zk (Xk ..) ?_))));refine Yk (bW _) (Yl _) (Zk rfl (Yk (aj (Zr x)) (Yl _) (Qn h3 rfl gR.plain rfl (Zk (Xk ..) ?_))));refine Yk (bW _) (Yl _) (Zk rfl (Yk (aj (Yr x)) (Yl _) (Qn h4 rfl gR.plain rfl (Zk (Xk ..) (XJ (Y3 (by simp[mJ])) ?_)))));refine Za (Xk ..) ?_;rw[Zf (n:=i) (by omega)];exact aM (i+1) _ _ (by omega) ⟨⟨_,rfl,hR⟩,by omega⟩
  ·refine Za (ZK ..) (congrArg iv ?_);rw[C5 (a:=a) ?_ hr];simp only[Bool.and_eq_false_iff,decide_eq_false_iff_not] at h;rcases h with h|h
   ·exact .inl (by omega)
   ·exact .inr (decide_eq_false h)
theorem c133(b:Bk)(hf:bE b=true):∃q:Bool,PC 133 [eY b] (.bool q):=by
 simp only[bE,YS,Bool.and_eq_true,decide_eq_true_eq] at hf;obtain⟨⟨f0,f3⟩,f1,f2⟩:=hf;rw[cM] at f0 f1;have hm:∀x∈b.ai,bA x.bB=true∧bA x.dead=true∧bA x.eh=true:=λx hx=>by
  have:=List.all_eq_true.1 f3 x hx;simp only[gE,Bool.and_eq_true] at this;exact⟨this.2.1,this.2.2.1,this.2.2.2⟩
 obtain⟨F1,h1⟩:=told b.ai (Q:=λx n=>PC 135 [ju x.bB] (iv n)) (λx hx=>c135 _ _ (Nat.le_refl _) (hm x hx).1);obtain⟨F2,h2⟩:=told b.ai (Q:=λx n=>PC 135 [ju x.dead] (iv n)) (λx hx=>c135 _ _ (Nat.le_refl _) (hm x hx).2.1);obtain⟨F3,h3⟩:=told b.ai (Q:=λx n=>PC 135 [ju x.eh] (iv n)) (λx hx=>c135 _ _ (Nat.le_refl _) (hm x hx).2.2)
 let st:Nat→Int→Int:=λi a=>IntKind.i64.wrap (IntKind.i64.wrap (IntKind.i64.wrap (a+F1 i)+F2 i)+F3 i)
 let LU:Nat→Int→Int:=λi a=>IntKind.i64.wrap (IntKind.i64.wrap (a+((b.ao[i]?).map λf=>(f.gp.length:Int)).getD 0)+((b.ao[i]?).map λf=>(f.single.length:Int)).getD 0)
 generalize hr:iw (λa=>decide (a≤6000)) st (b.ai.length-0) 0 (IntKind.i64.wrap (b.ai.length+b.ao.length))=r;generalize tt:iw (λa=>decide (a≤6000)) LU (b.ao.length-0) 0 r=r2;refine⟨decide (r2>6000),Qd hP rT rfl rfl ?_⟩;unfold g133;refine Ze (v:=.an 0 0) (rd:=[]) (up:=[(0,.box (ed b))]) rfl rfl ?_;have lc:∀σ,Yf [gG b.ai] σ=.ok (iv b.ai.length) [] []:=λσ=>by rw[Yh,List.length_map]
 have lf:∀σ,Yf [jZ b.ao] σ=.ok (iv b.ao.length) [] []:=λσ=>by rw[Yh,List.length_map]
 refine Za rfl (Za rfl (Za (lc _) (Za rfl (Za rfl (Za (lf _) (Za (Xk ..) ?_))))));refine Zl (ι:=Nat) (λi vs σ=>(∃a,vs=[iv i,iv a]∧iw (λa=>decide (a≤6000)) st (b.ai.length-i) i a=r)∧ah σ 0=.box (ed b)∧i≤b.ai.length) (λi=>b.ai.length-i) 0 ⟨⟨_,rfl,hr⟩,rfl,by omega⟩ ?_;rintro i vs σ again ⟨⟨a,rfl,hr⟩,hB,hi⟩ aM;refine Za rfl (Za (ld hB rfl) (Za (lc _) (Za (Qv ..) (IM (λ_=>rfl) (λ_=>DS ..) (Zc (λh=>?_) (λh=>?_))))))
 ·simp only[Bool.and_eq_true,decide_eq_true_eq] at h;obtain⟨h,bj⟩:=h;have h:i<b.ai.length:=by omega
  have bW:=Zp σ cD false false 12 b.ai .i64 i h
  replace h1:=h1 i h
  replace h2:=h2 i h
  replace h3:=h3 i h
  have hR:=C7 h (decide_eq_true bj) hr;generalize b.ai[i]=x at bW h1 h2 h3;refine Za rfl (Za (ld hB rfl) (Za bW (Za (aj (pJ x)) (Yt (row:=cD x) (row':=cD x) rfl rfl rfl ?_))));have hx:=Zi σ (.box (cD x));refine Zk rfl (Yk (ld hx rfl) (Yl _) (Qn h1 rfl gR.plain rfl (Zk (Xk ..) ?_)));refine Zk rfl (Yk (ld hx rfl) (Yl _) (Qn h2 rfl gR.plain rfl (Zk (Xk ..) ?_)));refine Zk rfl (Yk (ld hx rfl) (Yl _) (Qn h3 rfl gR.plain rfl (Zk (Xk ..) (XJ (Y3 (by simp[mJ])) ?_))));refine Za (Xk ..) ?_;rw[Zf (n:=i) (by omega)];exact aM (i+1) _ _ (by omega) ⟨⟨_,rfl,hR⟩,Zg _ hB (by simp),by omega⟩
 obtain rfl:=C5 (a:=a) (by
  simp only[Bool.and_eq_false_iff,decide_eq_false_iff_not] at h;rcases h with h|h
  ·exact .inl (by omega)
  ·exact .inr (decide_eq_false h)) hr
 clear aM again hr h hi;refine Zl (ι:=Nat) (λi vs σ=>(∃a,vs=[iv i,iv a]∧iw (λa=>decide (a≤6000)) LU (b.ao.length-i) i a=r2)∧ah σ 0=.box (ed b)∧i≤b.ao.length) (λi=>b.ao.length-i) 0 ⟨⟨_,rfl,tt⟩,hB,by omega⟩ ?_;rintro i vs σ again ⟨⟨a,rfl,hr⟩,hB,hi⟩ aM;refine Za rfl (Za (ld hB rfl) (Za (lf _) (Za (Qv ..) (IM (λ_=>rfl) (λ_=>DS ..) (Zc (λh=>?_) (λh=>?_))))))
 ·simp only[Bool.and_eq_true,decide_eq_true_eq] at h;obtain⟨h,bj⟩:=h;have h:i<b.ao.length:=by omega
  have bW:=Zp σ mS false false 7 b.ao .i64 i h;have hR:=C7 h (decide_eq_true bj) hr;have e:b.ao[i]?=some b.ao[i]:=by simp[h]
  simp only[LU,e,Option.map_some,Option.getD_some] at hR;generalize b.ao[i]=f at bW hR;refine Za rfl (Za (ld hB rfl) (Za bW (Za rfl (Za (v:=Dr f.gp) (rd:=[]) (aj rfl) (Za (v:=iv f.gp.length) (rd:=[]) (by simp[Yh]) (Za (Xk ..) ?_))))));refine Za rfl (Za (ld hB rfl) (Za bW (Za rfl (Za (v:=Dr f.single) (rd:=[]) (aj rfl) (Za (v:=iv f.single.length) (rd:=[]) (by simp[Yh]) (Za (Xk ..) ?_))))));refine Za (Xk ..) ?_;rw[Zf (n:=i) (by omega)];exact aM (i+1) _ _ (by omega) ⟨⟨_,rfl,hR⟩,hB,by omega⟩
 obtain rfl:=C5 (a:=a) (by
  simp only[Bool.and_eq_false_iff,decide_eq_false_iff_not] at h;rcases h with h|h
  ·exact .inl (by omega)
  ·exact .inr (decide_eq_false h)) hr
 exact Za (ZZ ..) rfl
theorem c134(s:St):∃q:Bool,PC 134 [eC s] (.bool q):=by
 apply Exists.intro;refine Qd hP rU rfl rfl ?_;unfold g134;refine Ze rfl rfl (Za rfl (Za rfl (Za (Yh ..) (XF 3 (Xm ?_)))));refine Za rfl (Ye (Za rfl (Za rfl (Za rfl (Ze rfl rfl (Ze rfl rfl ?_))))))
 iterate 5 refine Za rfl (Za rfl (Za (Yh ..) (Za (Xk ..) ?_)))
 refine Za (Xk ..) (Xm ?_);refine Za rfl (Ye (Za rfl (Za rfl (Za rfl (Ze rfl rfl (Ze rfl rfl ?_))))))
 iterate 5 refine Za rfl (Za rfl (Za (Yh ..) (Za (Xk ..) ?_)))
 refine Za (Xk ..) (Xm ?_);exact Za rfl (Xh (Za (ZZ ..) rfl))
theorem c92(b:Bk)(hf:bE b=true)(s:St)(l:List Ef)(hl:bA l=true):∃q:Bool,PC 92 [eY b,eC s,ju l] (.bool q):=by
 obtain⟨q1,h1⟩:=c133 b hf;obtain⟨q2,h2⟩:=c134 s;obtain⟨q3,h3⟩:=c135 _ l (Nat.le_refl _) hl;apply Exists.intro;refine Qd hP uk rfl rfl ?_;unfold g92;refine Ze (v:=.an 0 0) (rd:=[]) (up:=[(0,.box (ed b))]) rfl rfl ?_;refine Ze (v:=.an 1 0) (rd:=[]) (up:=[(1,.box (bX s))]) rfl rfl ?_;refine Za rfl (Za rfl (Za (Yh ..) (Za (ZZ ..) ?_)));refine Nx (v1:=eY b) (λ_=>rfl) (λ_ k hk=>Qc h1 rfl rT.plain rfl hk) ?_;refine Nx (v1:=eC s) (λ_=>rfl) (λ_ k hk=>Qc h2 rfl rU.plain rfl hk) ?_;exact Wn (v1:=ju l) (u0:=iv q3) (λ_=>rfl) (λ_ k hk=>Qc h3 rfl gR.plain rfl hk) (λ_=>ZZ ..) rfl
theorem c43(b:Bk)(hf:bE b=true)(s:St){x y:aa}{n m:Int}(hx:∀σ,Yf [x] σ=.ok (iv n) [] [])(hy:∀σ,Yf [y] σ=.ok (iv m) [] []):∃q:Bool,PC 43 [eY b,eC s,x,y] (.bool q):=by
 obtain⟨q,h92⟩:=c92 b hf s [] rfl;apply Exists.intro;refine Qd hP uf rfl rfl ?_;unfold g43;refine Ze (v:=.an 0 0) (rd:=[]) (up:=[(0,.box (ed b))]) rfl rfl ?_;refine Ze (v:=.an 1 0) (rd:=[]) (up:=[(1,.box (bX s))]) rfl rfl ?_;refine Za rfl (Za rfl (ZP (rd:=[]) h92 rfl uk.plain (.cons (aS.ro rfl) <| .cons (aS.ro rfl) <| .cons (aS.jl (aS.ro rfl) (λM u d=>d.eU 14)) .nil) rfl ?_));refine za (λ_=>rfl) (λ_=>hx _) (λ_=>ZZ ..) ?_;exact za (λ_=>rfl) (λ_=>hy _) (λ_=>ZZ ..) rfl
def u5(a b:Ev):Bool:=((((decide (a.kind=b.kind)&&decide (a.side=b.side))&&decide (a.card=b.card))&&decide (a.id=b.id))&&decide (a.other=b.other))&&decide (a.n=b.n)
theorem c99(a b:Ev){x y:aa}(hx:x.cell=true)(hy:y.cell=true)(hr:x.ro=true)(tt:y.ro=true){q:Bool}(h62:∀(σ:List ab) (k:aa→List ab→Prop),k (.bool q) σ→VV.call (.call 62) [x,y] σ k) :
  PC 99 [.agg [ar a.kind,iv a.side,iv a.card,iv a.id,iv a.other,iv a.n,x],.agg [ar b.kind,iv b.side,iv b.card,iv b.id,iv b.other,iv b.n,y]] (.bool (u5 a b&&q)):=by
 refine Qd hP uo rfl rfl ?_;unfold g99;have h0:ah ([]++[ab.box [ar a.kind,iv a.side,iv a.card,iv a.id,iv a.other,iv a.n,x]]++[ab.box [ar b.kind,iv b.side,iv b.card,iv b.id,iv b.other,iv b.n,y]]) 0=.box [ar a.kind,iv a.side,iv a.card,iv a.id,iv a.other,iv a.n,x]:=rfl;have h1:ah ([]++[ab.box [ar a.kind,iv a.side,iv a.card,iv a.id,iv a.other,iv a.n,x]]++[ab.box [ar b.kind,iv b.side,iv b.card,iv b.id,iv b.other,iv b.n,y]]) 1=.box [ar b.kind,iv b.side,iv b.card,iv b.id,iv b.other,iv b.n,y]:=rfl;have qW:∀(e:Ev) {z:aa},z.cell=true→[ar e.kind,iv e.side,iv e.card,iv e.id,iv e.other,iv e.n,z].all aa.cell=true:=λe z hz=>by
  show (true&&(true&&(true&&(true&&(true&&(true&&(z.cell&&true)))))))=true;rw[hz]; rfl
 refine Ze (Pm (qW a hx) []) (Yq _ _) ?_;refine Ze (Pm (qW b hy) _) (Yq _ _) ?_;refine Za rfl (Za rfl (Za rfl (Za rfl (Za (Qf ..) ?_))));refine DW (λ_=>rfl) (λ_=>rfl) (λ_=>rfl) (λ_=>rfl) (λ_=>Qf ..) ?_;refine DW (λ_=>rfl) (λ_=>rfl) (λ_=>rfl) (λ_=>rfl) (λ_=>Qf ..) ?_;refine DW (λ_=>rfl) (λ_=>rfl) (λ_=>rfl) (λ_=>rfl) (λ_=>Qf ..) ?_;refine DW (λ_=>rfl) (λ_=>rfl) (λ_=>rfl) (λ_=>rfl) (λ_=>Qf ..) ?_;refine DW (λ_=>rfl) (λ_=>rfl) (λ_=>rfl) (λ_=>rfl) (λ_=>Qf ..) ?_;exact Vh (v2:=x) (v4:=y) (λ_=>rfl) (λ_=>rfl) (λ_=>rfl) (λ_=>rfl) (λ_ k hk=>h62 _ _ hk) rfl
theorem M5(a:Ev):u5 a a=true:=by simp[u5]
theorem c47{rows:List (List aa)}(hl:rows.length≤1000000000)(h:∀r∈rows,r.length=7∧el r=true∧PC 99 [.agg r,.agg r] (.bool true)):PC 47 [.ax false false 7 rows,.ax false false 7 rows] (.bool true):=by
 refine Qd hP ug rfl rfl ?_;unfold g47;refine Za (Yh ..) (Za (Yh ..) (Za (XN ..) ?_));rw[decide_eq_false (show ¬((rows.length:Int)≠rows.length) by simp)];refine Xh ?_;refine Zl (ι:=Nat) (λi vs _=>vs=[iv i]∧i≤rows.length) (λi=>rows.length-i) 0 ⟨rfl,by omega⟩ ?_;rintro i vs σ again ⟨rfl,hi⟩ aM;refine Za (Yh ..) (Za (Qv ..) (Zc (λbj=>?_) (λ_=>rfl)));have bj:i<rows.length:=by simpa using bj
 obtain⟨q1,q2,q3⟩:=h rows[i] (List.getElem_mem bj);have bW:=NK σ false false 7 rows .i64 i rows[i] (by simp[bj]);generalize rows[i]=r at bW q1 q2 q3;have hp:aF true 0 7 r=some (.agg r):=by
  match r,q1 with
  |[a,b,c,d,e,f,g],_=>rfl
 refine Yk bW (Yl _) (Yk (aj hp) (Yl _) (Yk bW (Yl _) (Yk (aj hp) (Yl _) ?_)));refine Qn q3 rfl uo.plain (by simp[el,aa.ro,q2]) (Zk rfl (XJ (Y3 (by simp[mJ])) (Xh (Za (Xk ..) ?_))));rw[Zf (n:=i) (by omega)];exact aM (i+1) _ _ (by omega) ⟨rfl,by omega⟩
theorem c98(l:List Int)(hl:l.length≤1000000000)(x:Int):PC 98 [bd l,iv x] (.bool (l.contains x)):=by
 refine Qd hP um rfl rfl ?_;unfold g98;refine Zl (ι:=Nat) (λi vs _=>vs=[iv i]∧i≤l.length∧l.contains x=(l.drop i).contains x) (λi=>l.length-i) 0 ⟨rfl,by omega,rfl⟩ ?_;rintro i vs σ again ⟨rfl,hi,hc⟩ aM;refine Za (Yh ..) ?_;rw[List.length_map];refine Za (Qv ..) (Zc (λh=>?_) (λh=>?_))
 ·have h:i<l.length:=by simpa using h
  rw[eD h,List.contains_cons] at hc;refine Za (Zp _ bL false false 1 l .i64 i h) (Za (v:=iv l[i]) (aj rfl) (Za (Qf ..) (Zc (λq=>?_) (λq=>?_))))
  ·have q:l[i]=x:=by simpa using q
   rw[hc,q]; simp
  ·have q:¬l[i]=x:=by simpa using q
   refine Za (Xk ..) ?_;rw[Zf (n:=i) (by omega)];refine aM (i+1) _ _ (by omega) ⟨rfl,by omega,?_⟩;rw[hc,show (x==l[i])=false by simpa using λe=>q e.symm,Bool.false_or]
 ·have h:i=l.length:=by simp at h; omega
  subst h;rw[List.drop_length] at hc;rw[hc]; rfl
end Go.Ah.Tz
end
section
namespace Go.Ah
def nJ(P:Program)(f:FuncId):Prop:=∀(p:Option Addr) (cap:Nat) (w:World),Calls P f #[.slice p 0 cap] w λe w'=>e=.returned (.tuple #[])∧w'=w
section
variable {P:Program} {GL:aA}
theorem UP{f:FuncId}(hs:nJ P f){h0:Hp}{b:Nat}{ex:Bool}:fD P GL f [.sl b 0 0 ex] h0 (.aG []) [] []:=by
 intro w0 L g h w vs r hx _ _
 match vs,hx with
 |[v],hx=>
 have hd:=hx.1;have key:∃p cap,v=.slice p 0 cap:=by
  cases hd with
  |mu _ _ _ cb a ec hv=>exact⟨_,_,rfl⟩
  |sl _ _ _ _ _ cb cap ec hv h1 h2 h3=>exact⟨_,_,rfl⟩
 obtain⟨p,cap,rfl⟩:=key;refine(hs p cap w).mono ?_;rintro e w' ⟨rfl,rfl⟩;exact⟨_,rfl,g,Gm.Le.refl _,r,.aG _ [] #[] rfl (by simp)⟩
end
end Go.Ah
namespace Go.Ah.Tz
open Go.Proofs.Tryz (prog)
attribute [local irreducible] al.rd al.pu al.wr al.dr al.gr al.gw al.gl al.gd al.opt au W
set_option maxHeartbeats 8000000
theorem On{n:Nat}(h:n≤1000000000):IntKind.i64.wrap (((n+1:Nat):Int)-1)=(n:Int):=by
 rw[IntWalk.i64_in _ (by omega)]; omega
def U'(l:List Int):Prop:=∀i (h:i+1<l.length),l[i]≠l[i+1]
theorem Uj{l:List Int}(hs:l.Pairwise (·≤·))(ha:U' l):l.Nodup:=by
 rw[List.nodup_iff_pairwise_ne,List.pairwise_iff_getElem];rw[List.pairwise_iff_getElem] at hs;intro i j hi hj hij e;have h1:l[i]≤l[i+1]:=hs i (i+1) hi (by omega) (by omega);have h2:l[i+1]≤l[j]:=by
  by_cases h:i+1=j
  ·subst h; exact Int.le_refl _
  ·exact hs (i+1) j (by omega) hj (by omega)
 have:=ha i (by omega);omega
theorem c137{σ:List ab}{b:Nat}{l:List Int}(hb:ah σ b=.rows 1 (l.map bL))(hs:l.Pairwise (·≤·))(hl:l.length≤1000000000){K:aa→List ab→Prop}(hK:∀(m:Nat) τ,decide ((m:Int)<l.length) = !decide l.Nodup→K (.sl b 0 m false) τ) :
  g137 VV [.sl b 0 l.length false] σ K:=by
 have Ao:l.Nodup→∀τ,K (.sl b 0 l.length false) τ:=λh τ=>hK _ τ (by rw[decide_eq_false (by omega),decide_eq_true h]; rfl);unfold g137;refine Za rfl (Za (Qv ..) (Zc (λh=>?_) (λh=>?_)))
 ·refine Ao ?_ _;have h:l.length<2:=by simp at h; omega
  match l,h with
  |[],_=>simp
  |[x],_=>simp
  |_::_::_,h=>simp at h; omega
 have Fj:2≤l.length:=by simp at h; omega
 clear h;refine Zl (ι:=Nat) (λi vs τ=>vs=[iv (i+1:Nat)]∧τ=σ∧i+1≤l.length∧∀j (h:j<i) (h2:j+1<l.length),l[j]≠l[j+1]) (λi=>l.length-i) 0 ⟨rfl,rfl,by omega,λj h=>by omega⟩ ?_;rintro i vs τ again ⟨rfl,rfl,hi,zJ⟩ aM;refine Za rfl (Za (Qv ..) (Zc (λh=>?_) (λh=>?_)));rotate_left
 ·have h:i+1=l.length:=by simp at h; omega
  exact Ao (Uj hs λj hj=>zJ j (by omega) hj) _
 have h:i+1<l.length:=by simp at h; omega
 have ix:∀(τ:List ab) (L:List Int) (n:Nat),ah τ b=.rows 1 (L.map bL)→n<l.length→Yb 1 [.sl b 0 l.length false,iv n] τ=.ok (.ptr b n 0) [b] []:=λτ L n hb hn=>by
  have:=vK τ b 0 l.length false 1 (L.map bL) .i64 n hn hb;rw[Nat.zero_add] at this; exact this
 have gt:∀ {L:List Int} {n:Nat} (h:n<L.length),(L.map bL)[n]?=some (bL L[n]):=λh=>by simp[h]
 refine Za (ix _ l _ hb h) (Za (v:=iv l[i+1]) (xj hb (gt h) rfl) (Za (sG ..) ?_));rw[On (by omega)];refine Za (ix _ l _ hb (by omega)) (Za (v:=iv l[i]) (xj hb (gt (by omega)) rfl) (Za (Qf ..) (Zc (λhq=>?_) (λhq=>?_))));rotate_left
 ·have hq:¬l[i+1]=l[i]:=by simpa using hq
  refine Za (Xk ..) ?_;rw[Zf (n:=i+1) (by omega)];refine aM (i+1) _ _ (by omega) ⟨rfl,rfl,by omega,λj h1 h2=>?_⟩;by_cases e:j=i
  ·subst e; exact λe=>hq e.symm
  ·exact zJ j (by omega) h2
 have hq:l[i+1]=l[i]:=by simpa using hq
 have Fm:¬l.Nodup:=λhn=>by
  have h1:=List.pairwise_iff_getElem.1 (List.nodup_iff_pairwise_ne.1 hn) i (i+1) (by omega) h (by omega);exact h1 hq.symm
 replace hK:∀(m:Nat) τ,m<l.length→K (.sl b 0 m false) τ:=λm τ hm=>hK m τ (by rw[decide_eq_true (by omega),decide_eq_false Fm]; rfl)
 clear Ao zJ aM hq;obtain⟨v,rd,hv,⟨_,rfl,rfl⟩|⟨h0,_⟩⟩:=Oz (n:=l.length) (i:=i+1) (ex:=false) hb (by omega);rotate_left
 ·omega
 refine Za hv ?_;have Lp:∀(τ:List ab) (L:List Int) (n:Nat),ah τ b=.rows 1 (L.map bL)→n<l.length-(i+1)→Yb 1 [.sl b (i+1) (l.length-(i+1)) false,iv n] τ=.ok (.ptr b (i+1+n) 0) [b] []:=λτ L n hb hn=>
  vK τ b (i+1) (l.length-(i+1)) false 1 (L.map bL) .i64 n hn hb
 refine Zl (ι:=Nat) (λj vs τ=>∃(m:Nat) (L:List Int),vs=[iv (j+1:Nat),iv m]∧ah τ b=.rows 1 (L.map bL)∧L.length=l.length∧m≤i+1+j∧i+1+(j+1)≤l.length) (λj=>l.length-j) 0 ⟨i+1,l,rfl,hb,rfl,by omega,by omega⟩ ?_;clear hb;rintro j vs τ again ⟨m,L,rfl,hb,hL,hm,hj⟩ aM;have H3:=Qh hb (by simp);refine Za rfl (Za (Qv ..) (Zc (λh=>?_) (λh=>?_)))
 ·have h:j+1<l.length-(i+1):=by simp at h; omega
  refine Qk λk17 hk=>?_;have ik:i+1+(j+1)<L.length:=by omega
  have H9:i+1+j<L.length:=by omega
  refine Za (Lp _ L _ hb h) (Za (v:=iv L[i+1+(j+1)]) (xj hb (gt ik) rfl) (Za (sG ..) ?_));rw[On (by omega)];refine Za (Lp _ L _ hb (by omega)) (Za (v:=iv L[i+1+j]) (xj hb (gt H9) rfl) (Za (XN ..) (Zc (λ_=>?_) (λ_=>?_))))
  ·refine Za (Lp _ L _ hb h) (Za (v:=iv L[i+1+(j+1)]) (xj hb (gt ik) rfl) (Za (ix _ L _ hb (by omega)) ?_));refine Ze (S0 hb (by omega) _) (Xn _ H3) (Za (Xk ..) ?_);rw[Zf (n:=m) (by omega),hk];refine Za (Xk ..) ?_;rw[Zf (n:=j+1) (by omega)];exact aM (j+1) _ _ (by omega) ⟨m+1,_,rfl,Xj _ H3,by simpa using hL,by omega,by omega⟩
  ·rw[hk];refine Za (Xk ..) ?_;rw[Zf (n:=j+1) (by omega)];exact aM (j+1) _ _ (by omega) ⟨m,L,rfl,hb,hL,by omega,by omega⟩
 have hmn:m<l.length:=by omega
 obtain⟨v,rd,hv,⟨_,rfl,rfl⟩|⟨h0,_⟩⟩:=Oz (n:=l.length) (i:=m) (ex:=false) hb (by omega);rotate_left
 ·omega
 refine Za hv ?_;have hc:ze 1 [.int .i64 0] [.sl b m (l.length-m) false] τ=.ok .aI [] [(b,.rows 1 (over m (List.replicate (l.length-m) [.int .i64 0]) (L.map bL)))]:=by
  show (match ah τ b with
   |.rows s rs=>bif Nat.beq s 1&&Nat.ble (m+(l.length-m)) rs.length then az.ok .aI [] [(b,.rows 1 (over m (List.replicate (l.length-m) [.int .i64 0]) rs))] else .stop
   | _=>.stop)=_
  rw[hb];have:Nat.ble (m+(l.length-m)) (L.map bL).length=true:=Nat.ble_eq_true_of_le (by simp; omega);simp only[this,Nat.beq_refl,Bool.and_self,cond_true]
 refine Ze hc (Xn _ H3) ?_;refine Za (v:=.sl b 0 m false) (rd:=[b]) ?_ (hK m _ hmn);show (match ah (τ.set b _) b with
  |.rows s _=>bif Nat.beq s 1&&Nat.ble m l.length then az.ok (.sl b 0 m false) [b] [] else .stop
  | _=>.stop)=_
 rw[Xj _ H3];have:Nat.ble m l.length=true:=Nat.ble_eq_true_of_le (by omega);simp only[this,Nat.beq_refl,Bool.and_self,cond_true]
theorem c95(h89:mD prog 89)(hn:nJ prog 89)(l:List Int)(hl:l.length≤1000000000):PC 95 [bd l] (.bool (!decide l.Nodup)):=by
 refine Qd hP oQ rfl rfl ?_;unfold g95;refine DJ (c96 l hl) rfl iF.plain rfl ?_;simp only[Zw,List.map_cons,List.map_nil,QP,aa.bG,ZB,List.length_nil,Nat.zero_add,List.nil_append];have key:∀σ,ah σ 0=.rows 1 ((qA l).map bL)→VV.call (.call 137) [.sl 0 0 l.length false] σ λL0 σ=>VV.rd (Yf [L0] σ) λF'=>VV.rd (Yf [bd l] σ) λGb=>VV.rd (Yj .lss false [F',Gb] σ) λGd=>Gd=.bool (!decide l.Nodup):=λσ hb=>by
  have eJ:=IG l;refine Yu hP rfl rV rfl ?_;rw[←eJ];refine c137 hb (Sv l) (by omega) (λm τ hm=>?_);refine Za rfl (Za (Yh ..) ?_);rw[List.length_map];refine Za (Qv ..) ?_;rw[eJ,decide_eq_decide.2 (SC l).nodup_iff] at hm;exact congrArg aa.bool hm
 by_cases h0:l=[]
 ·subst h0;refine QO rfl qQ.plain (UP hn) (Yl _) ?_;exact key _ (by rw[show qA []=[] from List.eq_nil_of_length_eq_zero (IG [])]; rfl)
 ·exact We h89 rfl h0 hl (key _ rfl)
end Go.Ah.Tz
end
section
namespace Go.Ah.Tz
open Go.Proofs.Tryz (prog)
def Yv(s:St)(side:Int):Sd:=if side=0 then s.s0 else s.s1
theorem GO{s:St}{id:Int}(h:(aH s id).2.2=true):∃(k:Nat) (u:Th),(aH s id).2.1=k∧(Yv s (aH s id).1).ae[k]?=some u∧u.id=id∧((aH s id).1=0∨(aH s id).1=1):=by
 unfold aH at h ⊢;cases q0:ga s.s0.ae id with
 |some k=>obtain⟨u,hk,hi⟩:=x7 q0; exact⟨k,u,rfl,hk,hi,.inl rfl⟩
 |none=>
  cases q1:ga s.s1.ae id with
  |some k=>obtain⟨u,hk,hi⟩:=x7 q1; exact⟨k,u,rfl,hk,hi,.inr rfl⟩
  |none=>rw[q0,q1] at h; cases h
structure CP (τ:List ab) (n:Nat) (t:St):Prop where
 box:ah τ (n+11)=.box (jP t n)
 key:∀i x,(iC t)[i]?=some x→ah τ (n+i)=x
theorem CP.sb{τ:List ab}{n:Nat}{t:St}(h:CP τ n t):∃rd,SB τ rd (jP t n) t:=
 ⟨(List.range 11).map (n + ·),SB.copy h.key λi hi=>List.mem_map.2 ⟨i,List.mem_range.2 hi,rfl⟩⟩
def tw(side:Int):Nat:=if side=0 then 4 else 9
def yX(side:Int):Nat:=if side=0 then 7 else 15
theorem CP.ae{τ:List ab}{n:Nat}{t:St}(h:CP τ n t){side:Int}(hs:side=0∨side=1):ah τ (n+tw side)=.rows 4 ((Yv t side).ae.map bf)∧(∀σ,Yg 2 8 [.an (n+11) (0+7),iv side] σ=.ok (.an (n+11) (yX side)) [] []) ∧
  aF false (yX side+6) 1 (jP t n)=some (.sl (n+tw side) 0 (Yv t side).ae.length false):=by
 rcases hs with rfl|rfl
 ·exact⟨h.key 4 _ rfl,λ_=>rfl,rfl⟩
 ·exact⟨h.key 9 _ rfl,λ_=>rfl,rfl⟩
end Go.Ah.Tz
end
section
namespace Go.Ah.Tz
open Go.Proofs.Tryz (prog)
attribute [local irreducible] al.rd al.pu al.wr al.dr al.gr al.gw al.gl al.gd al.opt au W
set_option maxHeartbeats 8000000
theorem Gr.set{σ τ:List ab}{n k:Nat}{rows:List (List aa)}{v:aa}(h:Gr σ n rows k v τ){c:Nat}(hc:c<σ.length)(x:ab):Gr (σ.set c x) n rows k v (τ.set c x):=by
 obtain⟨h1,h2,h3⟩:=h;refine⟨by simpa using h1,λd hd=>?_,?_⟩
 ·have pB:d<σ.length:=by simpa using hd
  by_cases e:d=c
  ·subst e; rw[Xj _ (by omega),Xj _ hc]
  ·rw[Yi _ (by omega) e,Yi _ pB e]; exact h2 d pB
 ·rcases h3 with h3|⟨q1,b,q2,q3,q4,q5⟩
  ·exact .inl h3
  ·exact .inr ⟨q1,b,by simpa using q2,q3,Zj q4 (by simp) (by omega),q5⟩
theorem Mx{s:St}(hs:cw 1000000000 s){σ:List ab}{n:Nat}(hn:σ.length=n){K:aa→aa→List ab→Prop}(hK:∀τ,τ.length=n+12→(∀c y,ah σ c=.box y→ah τ c=.box y)→CP τ n s→K (.an (n+11) 0) .aI τ) :
  VV.call (.call 19) [eC s] σ λv σ=>VV.wr (Xe bo [] σ) σ λt σ=>VV.wr (Xb 23 [t,v] σ) σ (K t):=
 Wc hs λτ m h1 h2 h3 h4 h5=>by
  have e:m=n:=h1.symm.trans hn;subst e;exact hK τ h2 h3 ⟨h4,h5⟩
theorem Gr.op{σ0 σ:List ab}{n cd k:Nat}{rows:List (List aa)}{v:aa}{cs:List aa}(hg:Gr σ0 n rows k v σ)(hr:cs.all aa.cell=true)(cr:(2*(k+1)+192)*cd≤2 ^ 48) :
  ∃v' rd up σ',Qj n cd [v,.sl σ.length 0 1 true] (σ++[.rows n [cs]])=.ok v' rd up∧gy (σ++[.rows n [cs]]) up=some σ'∧Gr σ0 n (rows++[cs]) (k+1) v' σ':=by
 obtain⟨g1,g2,hg⟩:=hg;have eu:=Zi σ (.rows n [cs]);rcases hg with ⟨rfl,rfl,rfl⟩|⟨hk,b,De,rfl,hb,hl⟩
 ·have e:=Y1 n cd (ex2:=true) eu rfl (ZY hr) (by simpa using cr);refine⟨_,_,_,_,e,Yq _ _,by simp; omega,λc hc=>?_,.inr ⟨by omega,_,?_,rfl,by have:=Zi (σ++[ab.rows n [cs]]) (.rows n [cs]); simpa using this,rfl⟩⟩
  ·rw[Yp _ (by simp; omega),Yp _ (by omega),g2 c hc]
  ·simp; omega
 ·have e:=QT n cd (ex:=false) (ex2:=true) (Zg [.rows n [cs]] hb (by simp)) eu hl rfl (ZY hr) cr;have bj:=Qh hb (by simp);refine⟨_,_,_,_,e,QY _ _ (by simp; omega),by simp; omega,λc hc=>?_,.inr ⟨by omega,_,?_,rfl,?_,by simp[hl]⟩⟩
  ·rw[Yp _ (by simp; omega),Yi _ (by simp; omega) (by omega),Yp _ (by omega),g2 c hc]
  ·simp; omega
  ·have:=Zi ((σ++[ab.rows n [cs]]).set b .dead) (.rows n (rows++[cs]));simpa using this
end Go.Ah.Tz
end
section
namespace Go.Ah.Tz
open Go.Shelf Go.Proofs
open Go.Proofs.Tryz (prog)
theorem xp:nJ prog 89:=λp cap w=>Any.slices_Sort_int_none uV p cap w
end Go.Ah.Tz
end
section
namespace Go.Ah
theorem OD:∀ {l:List aa} {i:Nat} {x:aa},el l=true→l[i]?=some x→x.ro=true
 |[],i,x,_,e=>by simp at e
 |y::l,0,x,h,e=>by simp only[el,Bool.and_eq_true] at h; simp at e; subst e; exact h.1
 |y::l,i+1,x,h,e=>by simp only[el,Bool.and_eq_true] at h; exact OD h.2 (by simpa using e)
section
variable {P:Program} {GL:aA}
theorem a_.HS{w0:World}{L:Ln}{g:Gm}{h:Hp}{w:World}(r:a_ GL w0 L g h w){b sz len:Nat}{ex:Bool}{rs:List (List aa)}(hb:h b=some (.rows sz rs))(hl:rs.length=len)(jO:∀q∈rs,el q=true){u:Value}(d:g.den (.sl b 0 len ex) u) :
  ∃M,fE g.M M∧a_ GL w0 L ⟨M,g.c⟩ (dH h b .dead) w∧Den M aV (.ax false false sz rs) u:=by
 cases d with
 |mu _ _ _ cb p ec hv=>
  have:rs=[]:=List.length_eq_zero_iff.1 hl;subst this;exact⟨g.M,fE.refl _,r.kill hb,.ax _ _ _ _ [] _ _ 0 0 (λ_ _=>undef) (by simp) (by simp) (by simp) (by simp) (by simp) (by simp) (by simp) (by simp)⟩
 |sl _ _ _ _ _ cb cap ec hv h1 h2 h3=>
  subst hl;obtain⟨e1,arr,T,dV,hs,kp,cI,bY⟩:=r.dw hb ec hv;obtain⟨hle,r2⟩:=r.freeze hb rfl ec hv dV;refine⟨_,hle.m,r2,?_⟩;rw[Nat.zero_mul];have cv:∀i j,i<rs.length→j<sz→i*sz+j<arr.size:=by
   intro i j hi hj;have:(i+1)*sz≤rs.length*sz:=Nat.mul_le_mul_right sz (by omega);rw[Nat.succ_mul] at this; omega
  refine .ax _ false false sz rs (some ⟨cb.blk,0,none⟩) cap cb.blk 0 (λi j=>(arr[i*sz+j]?).getD undef) (by simp) (by simp) (λ_=>rfl) (by simp) h1 cI (λi j hi hj=>?_) (λi row j x q1 q2=>?_)
  ·have:=cv i j hi hj;simp[fL,lk,this]
  ·have hi:i<rs.length:=(cJ q1).1;have hj:j<sz:=by rw[←cI i row q1]; exact(cJ q2).1
   have:=cv i j hi hj;have e:arr[i*sz+j]?=some arr[i*sz+j]:=by simp[this]
   rw[e];exact Den.ro (Den.mono hle.m (bY i row j x _ q1 q2 e) (eF.refl _)) (OD (jO row (List.mem_of_getElem? q1)) q2) _
theorem bZ.snoc{g:Gm}{x:aa}:∀ {xs:List aa} {vs:List Value},bZ g (xs++[x]) vs→∃us u,vs=us++[u]∧bZ g xs us∧g.den x u
 |[],[u],h=>⟨[],u,rfl,trivial,h.1⟩
 |y::xs,v::vs,h=>by
  obtain⟨us,u,rfl,h1,h2⟩:=bZ.snoc h.2;exact⟨v::us,u,rfl,⟨h.1,h1⟩,h2⟩
theorem bZ.su{g:Gm}{x:aa}{u:Value}(hu:g.den x u):∀ {xs:List aa} {us:List Value},bZ g xs us→bZ g (xs++[x]) (us++[u])
 |[],[],_=>⟨hu,trivial⟩
 |y::xs,v::vs,h=>⟨h.1,bZ.su hu h.2⟩
theorem cm.HS{f:FuncId}{pre:List aa}{b sz len:Nat}{ex:Bool}{rs:List (List aa)}{v:aa}{h0:Hp}(hc:cm P GL f (pre++[.ax false false sz rs]) v)(uL:el pre=true)(hb:h0 b=some (.rows sz rs))(hl:rs.length=len)(jO:∀q∈rs,el q=true) :
  fD P GL f (pre++[.sl b 0 len ex]) h0 v [] [(b,.dead)]:=by
 intro w0 L g h w vs r hx _ dH;have bq:h b=some (.rows sz rs):=by rw[dH (b,_) (List.mem_singleton.2 rfl)]; exact hb
 obtain⟨us,u,rfl,h1,h2⟩:=bZ.snoc hx;obtain⟨M,hM,r2,hd⟩:=r.HS bq hl jO h2;refine(hc w M _ r2.aJ r2.bz (bZ.su (g:=⟨M,aV⟩) hd (Hl uL (h1.mono (g':=⟨M,g.c⟩) ⟨hM,eF.refl _⟩) aV))).mono ?_;rintro e w' ⟨y,he,k,M',hle,dM,ji,KM⟩;exact⟨y,he,⟨M',g.c⟩,⟨hM.trans hle,eF.refl _⟩,r2.after k hle dM ji,KM.mono (fE.refl _) (eF.aV _)⟩
theorem NU{k:MK}{xs pre:List aa}{f:FuncId}{v:aa}{σ:List ab}{b sz len:Nat}{ex:Bool}{rs:List (List aa)}(h:cm P GL f (pre++[.ax false false sz rs]) v)(hc:Ys k xs=some (f,pre++[.sl b 0 len ex]))(gz:Xl P f=true)(uL:el pre=true)(hb:ah σ b=.rows sz rs)(hl:rs.length=len)(jO:∀q∈rs,el q=true)
 {K:aa→List ab→Prop}(hK:K v (σ.set b .dead)):(W P GL).call k xs σ K:=
 QO hc gz (h.HS uL (ZE hb (by simp)) hl jO) (Xn _ (Qh hb (by simp))) hK
theorem VX{k:MK}{xs pre:List aa}{f:FuncId}{v:aa}{σ:List ab}{b sz len:Nat}{ex:Bool}{rs:List (List aa)}(h:cm P GL f (pre++[.ax false false sz rs]) v)(hc:Ys k xs=some (f,pre++[.sl b 0 len ex]))(gz:Xl P f=true)(uL:el pre=true)(hb:ah σ b=.rows sz rs)(hl:rs.length=len)(jO:∀q∈rs,el q=true)
 {K:aa→List Nat×List Nat→List ab→Prop}(hK:K v ([],[b]) (σ.set b .dead)):(W P GL).aE k xs σ K:=
 Y0 hc gz (h.HS uL (ZE hb (by simp)) hl jO) (Xn _ (Qh hb (by simp))) hK
end
end Go.Ah
end
section
namespace Go.Ah
section
variable {P:Program} {GL:aA}
def la(h:Hp)(rd:List Nat):Hp:=λb=>if b∈rd then h b else (h b).map λ_=>.dead
theorem ZR{h:Hp}{rd:List Nat}{b:Nat}{blk:ab}(e:la h rd b=some blk)(hl:blk.live=true):b∈rd∧h b=some blk:=by
 unfold la at e;by_cases hb:b∈rd
 ·rw[if_pos hb] at e; exact⟨hb,e⟩
 ·rw[if_neg hb] at e;obtain⟨x,_,rfl⟩:=Option.map_eq_some_iff.1 e;simp[ab.live] at hl
theorem a_.only{w0:World}{L:Ln}{g:Gm}{h:Hp}{w:World}(r:a_ GL w0 L g h w)(rd:List Nat):a_ GL w0 L g (la h rd) w where
 keeps:=r.keeps
 aJ:=r.aJ
 src:=r.src
 bz:=r.bz
 dc:=λb e=>r.dc b (by
  unfold la at e;split at e
  ·exact e
  ·simpa using e)
 ig:=λb blk e=>by
  unfold la at e;split at e
  ·exact r.ig b blk e
  ·obtain⟨x,hx,_⟩:=Option.map_eq_some_iff.1 e;exact r.ig b x hx
 own:=λb blk cb e hl=>r.own b blk cb (ZR e hl).2 hl
 aN:=λb blk cb e hl=>r.aN b blk cb (ZR e hl).2 hl
 inj:=λb b' blk blk' cb cV e e' hl kP=>r.inj b b' blk blk' cb cV (ZR e hl).2 (ZR e' kP).2 hl kP
def iI(rd:List Nat):List (Nat×ab):=rd.map λb=>(b,.dead)
theorem a_.uq{w0:World}{L:Ln}{w:World}(c:Own):∀(rd:List Nat) {M0:Nat→Option Obj} {h:Hp},a_ GL w0 L ⟨M0,c⟩ h w→(∀b∈rd,∃blk,h b=some blk) →
  ∃M,fE M0 M∧a_ GL w0 L ⟨M,c⟩ (ca h (iI rd)) w∧∀b∈rd,∀blk cb o,h b=some blk→blk.live=true→c b=some cb→cb.cS=false→w.heap[cb.blk]?=some o→M cb.blk=some o
 |[],M0,h,r,_=>⟨M0,fE.refl _,r,λb hb=>absurd hb (by simp)⟩
 |b::rd,M0,h,r,cv=>by
  obtain⟨blk,hb⟩:=cv b (List.mem_cons_self);have KS:∀c∈rd,∃blk,dH h b .dead c=some blk:=λc hc=>by
   by_cases e:c=b
   ·subst e; exact⟨_,Xs _ _ _⟩
   ·rw[Xq _ _ e]; exact cv c (List.mem_cons_of_mem _ hc)
  obtain⟨cb,ec⟩:=r.ig b blk hb;have key:∃M1,fE M0 M1∧a_ GL w0 L ⟨M1,c⟩ (dH h b .dead) w∧(blk.live=true→cb.cS=false→∀o,w.heap[cb.blk]?=some o→M1 cb.blk=some o):=by
   by_cases hl:blk.live=true∧cb.cS=false
   ·obtain⟨_,_,o,ho,_⟩:=r.own b blk cb hb hl.1 ec hl.2;obtain⟨q1,q2⟩:=r.freeze hb hl.1 ec hl.2 ho;refine⟨_,q1.m,q2,λ_ _ o' dV=>?_⟩;rw[ho] at dV; cases dV;simp[lk]
   ·exact⟨M0,fE.refl _,r.kill hb,λh1 h2=>absurd ⟨h1,h2⟩ hl⟩
  obtain⟨M1,m1,r1,k1⟩:=key;obtain⟨M,m2,r2,k2⟩:=a_.uq c rd r1 KS;refine⟨M,m1.trans m2,r2,λx hx blk' cV o e1 e2 e3 e4 e5=>?_⟩;by_cases e:x=b
  ·subst e;have Wx:c x=some cb:=ec;rw[hb] at e1; cases e1;rw[Wx] at e3; cases e3;exact m2 _ _ (k1 e2 e4 o e5)
  ·rcases List.mem_cons.1 hx with h'|h'
   ·exact absurd h' e
   ·exact k2 x h' blk' cV o (by rw[Xq _ _ e]; exact e1) e2 e3 e4 e5
theorem cm.uq{f:FuncId}{xs ys:List aa}{v:aa}{rd:List Nat}{h0:Hp}(hc:cm P GL f ys v)(hb:bM h0 rd xs ys)(cv:∀b∈rd,∃blk,h0 b=some blk):fD P GL f xs h0 v rd (iI rd):=by
 intro w0 L g h w vs r hx cB _;obtain⟨M,hM,r2,KI⟩:=a_.uq g.c rd (M0:=g.M) r (λb bq=>by rw[cB b bq]; exact cv b bq);have tg:xS g (la h rd) w M:=⟨hM,λb blk cb o e hl ec hv ho=>KI b (ZR e hl).1 blk cb o (ZR e hl).2 hl ec hv ho⟩;have hd:=hb GL w0 L g (la h rd) w M (r.only rd) tg (λb bq=>by unfold la; rw[if_pos bq]; exact cB b bq) vs hx;refine(hc w M _ r2.aJ r2.bz hd).mono ?_;rintro e w' ⟨y,he,k,M',hle,dM,ji,KM⟩;exact⟨y,he,⟨M',g.c⟩,⟨hM.trans hle,eF.refl _⟩,r2.after k hle dM ji,KM.mono (fE.refl _) (eF.aV _)⟩
def gM(σ:List ab)(rd:List Nat):List ab:=rd.foldl (λσ b=>σ.set b .dead) σ
theorem Jq:∀(rd:List Nat) (σ:List ab),(gM σ rd).length=σ.length
 |[],_=>rfl
 |b::rd,σ=>(Jq rd (σ.set b .dead)).trans (by simp)
theorem JJ:∀(rd:List Nat) (σ:List ab),(∀b∈rd,b<σ.length)→gy σ (iI rd)=some (gM σ rd)
 |[],_,_=>rfl
 |b::rd,σ,h=>by
  have hb:=h b List.mem_cons_self;show (bif Nat.beq b σ.length then gy (σ ++ [.dead]) (iI rd) else (match Yz b .dead σ with
   |some σ'=>gy σ' (iI rd)
   | none=>none))=_
  have:Nat.beq b σ.length=false:=by
   cases e:Nat.beq b σ.length with
   |false=>rfl
   |true=>have:=eZ e; omega
  rw[this,Z3 hb];exact JJ rd (σ.set b .dead) (λc hc=>by simpa using h c (List.mem_cons_of_mem _ hc))
theorem Sk{k:MK}{xs ys zs:List aa}{f:FuncId}{v:aa}{rd:List Nat}(h:cm P GL f zs v){σ:List ab}(hc:Ys k xs=some (f,ys))(gz:Xl P f=true)(hb:bM (hp σ) rd ys zs)(cv:∀b∈rd,ah σ b≠.dead){K:aa→List ab→Prop}(hK:K v (gM σ rd)):(W P GL).call k xs σ K:=
 QO hc gz (h.uq hb λb bq=>⟨_,ZE rfl (cv b bq)⟩) (JJ rd σ λb bq=>Qh rfl (cv b bq)) hK
theorem Ul{k:MK}{xs ys zs:List aa}{f:FuncId}{v:aa}{rd:List Nat}(h:cm P GL f zs v){σ:List ab}(hc:Ys k xs=some (f,ys))(gz:Xl P f=true)(hb:bM (hp σ) rd ys zs)(cv:∀b∈rd,ah σ b≠.dead){K:aa→List Nat×List Nat→List ab→Prop}(hK:K v (rd,(iI rd).map (·.1)) (gM σ rd)):(W P GL).aE k xs σ K:=
 Y0 hc gz (h.uq hb λb bq=>⟨_,ZE rfl (cv b bq)⟩) (JJ rd σ λb bq=>Qh rfl (cv b bq)) hK
end
end Go.Ah
end
section
namespace Go.Ah.Tz
open Go.Proofs.Tryz (prog)
def XD:List (Int×Int)→Int→Option (Int×Int)
 |[],_=>none
 |p::l,a=>if p.1=a then some p else XD l a
def jq:List (Int×Int)→Int→Int→Int
 |[],_,_=>-1
 |p::l,i,a=>if p.1=a then i else jq l (i+1) a
theorem OS(a:Int):∀(l:List (Int×Int)) (i:Nat),(∃(k:Nat) (h:k<l.length),jq l i a=((i+k:Nat):Int)∧XD l a=some l[k]∧l[k].1=a)∨(jq l i a = -1∧XD l a=none)
 |[],_=>.inr ⟨rfl,rfl⟩
 |p::l,i=>by
  unfold jq XD;by_cases h:p.1=a
  ·rw[if_pos h,if_pos h]; exact .inl ⟨0,by simp,rfl,rfl,h⟩
  ·rw[if_neg h,if_neg h];rcases OS a l (i+1) with ⟨k,hk,h1,h2,h3⟩|⟨h1,h2⟩
   ·refine .inl ⟨k+1,by simpa using hk,?_,by simpa using h2,by simpa using h3⟩;rw[show ((i:Int)+1)=((i+1:Nat):Int) by push_cast; rfl,h1]; congr 1; omega
   ·refine .inr ⟨?_,h2⟩;rw[show ((i:Int)+1)=((i+1:Nat):Int) by push_cast; rfl,h1]
def XO(s:St)(p:Int×Int):Bool:=((aH s p.2).2.2 && !decide ((aH s p.2).1=s.mover))&&s.ak.any λx=>decide (x=p.1)
def Qu(s:St)(l:List (Int×Int)):Bool:=l.all (XO s)&&(decide (l.map (·.1)).Nodup&&decide (l.map (·.2)).Nodup)
attribute [local irreducible] al.rd al.pu al.wr al.dr al.gr al.gw al.gl al.gd al.opt au W
set_option maxHeartbeats 8000000
theorem c104(p:Int×Int)(a:Int):PC 104 [.agg (fV p),.ay [iv a] 0] (.bool (decide (p.1=a))):=by
 refine Qd hP nZ rfl rfl ?_;unfold g104;exact Ze (v:=.an 0 0) (rd:=[]) (up:=[(0,.box (fV p))]) rfl rfl (Za rfl (Za (v:=iv p.1) (rd:=[0]) rfl (Za (aj rfl) (Za (Qf ..) rfl))))
theorem c139(l:List (Int×Int))(hl:l.length≤1000000000)(a:Int):PC 139 [qu l,.func (.func 104) [] [.ay [iv a] 0]] (iv (jq l 0 a)):=by
 refine Qd hP oj rfl rfl ?_;unfold g139;refine Za (v:=iv l.length) (rd:=[]) (by simp[Yh]) ?_;refine Zl (ι:=Nat) (λi vs _=>vs=[iv i]∧i≤l.length∧jq l 0 a=jq (l.drop i) i a) (λi=>l.length-i) 0 ⟨rfl,by omega,rfl⟩ ?_;rintro i vs σ again ⟨rfl,hi,hu⟩ aM;refine Za (Qv ..) (Zc (λh=>?_) (λh=>?_))
 ·have h:i<l.length:=by simpa using h
  rw[eD h,jq] at hu;refine Za (Zp _ fV false false 2 l .i64 i h) (Za (v:=.agg (fV l[i])) (aj rfl) ?_);refine Qc (c104 l[i] a) rfl nZ.plain rfl (Zc (λq=>?_) (λq=>?_))
  ·rw[hu,if_pos (by simpa using q)]; rfl
  ·rw[if_neg (by simpa using q)] at hu;refine Za (Xk ..) ?_;rw[Zf (n:=i) (by omega)];exact aM (i+1) _ _ (by omega) ⟨rfl,by omega,by rw[hu]; push_cast; rfl⟩
 ·have h:i=l.length:=by simp at h; omega
  subst h;rw[List.drop_length] at hu;rw[hu]; rfl
theorem c103(l:List (Int×Int))(hl:l.length≤1000000000)(a:Int):PC 103 [qu l,.func (.func 104) [] [.ay [iv a] 0]] (.aG [.agg (fV ((XD l a).getD (0,0))),.bool (XD l a).isSome]):=by
 refine Qd hP nY rfl rfl ?_;unfold g103;refine Ze (v:=.an 0 0) (rd:=[]) (up:=[(0,.box [iv 0,iv 0])]) rfl rfl ?_;refine Qc (c139 l hl a) rfl oj.plain rfl ?_;rcases OS a l 0 with ⟨k,hk,h1,h2,_⟩|⟨h1,h2⟩
 ·have h1:jq l 0 a=(k:Int):=by simpa using h1
  rw[h1,h2];refine Za (sE ..) ?_;rw[decide_eq_true (by omega)];refine Ye (Za (Zp _ fV false false 2 l .i64 k hk) (Za (v:=.agg (fV l[k])) (aj rfl) (Ze (v:=.aI) (rd:=[]) (up:=[(0,.box (fV l[k]))]) rfl rfl (Ql rfl rfl))))
 ·have h1:jq l 0 a = -1:=by simpa using h1
  rw[h1,h2];refine Za (sE ..) (Xh (Za (v:=.agg [iv 0,iv 0]) (rd:=[0]) rfl (Ze (v:=.aI) (rd:=[]) (up:=[(0,.box [iv 0,iv 0])]) rfl rfl (Ql rfl rfl))))
def Tw(a d:List Int)(va vd:aa)(τ:List ab):Prop:=
 (a=[]∧d=[]∧va=.af∧vd=.af)∨(∃p q,p≠q∧1≤p∧1≤q∧va=.sl p 0 a.length false∧vd=.sl q 0 d.length false∧ah τ p=.rows 1 (a.map bL)∧ah τ q=.rows 1 (d.map bL))
theorem Tw.ri{a d:List Int}{va vd:aa}{τ:List ab}(h:Tw a d va vd τ):(∃rd,RI τ rd va a)∧∃rd,RI τ rd vd d:=by
 rcases h with ⟨rfl,rfl,rfl,rfl⟩|⟨p,q,_,_,_,rfl,rfl,h1,h2⟩
 ·exact⟨⟨[],RI.af⟩,⟨[],RI.af⟩⟩
 ·exact⟨⟨[p],RI.own h1 (by simp) rfl⟩,⟨[q],RI.own h2 (by simp) rfl⟩⟩
theorem c100(h89:mD prog 89)(hn:nJ prog 89)(s:St)(hs:cw 1000000000 s)(l:List (Int×Int))(hl:l.length≤1000000000)(hsa:s.ak.length≤1000000000):PC 100 [eC s,qu l] (.bool (Qu s l)):=by
 refine Qd hP nX rfl rfl ?_;unfold g100;refine Ze (v:=.an 0 0) (rd:=[]) (up:=[(0,.box (bX s))]) rfl rfl ?_;refine Za (v:=iv l.length) (rd:=[]) (by simp[Yh]) ?_;refine Zl (ι:=Nat) (λi vs τ=>∃va vd,vs=[iv i,va,vd]∧i≤l.length∧ah τ 0=.box (bX s)∧Tw ((l.take i).map (·.1)) ((l.take i).map (·.2)) va vd τ∧l.all (XO s)=(l.drop i).all (XO s)) (λi=>l.length-i) 0 ⟨_,_,rfl,by omega,rfl,.inl ⟨rfl,rfl,rfl,rfl⟩,rfl⟩ ?_;rintro i vs τ again ⟨va,vd,rfl,hi,h0,hT,fK⟩ aM;refine Za (Qv ..) (Zc (λh=>?_) (λh=>?_))
 ·have h:i<l.length:=by simpa using h
  have hJ:l.take (i+1)=l.take i++[l[i]]:=by rw[List.take_succ_eq_append_getElem h]
  have bW:=λ(t:List ab)=>Zp t fV false false 2 l .i64 i h;rw[eD h,List.all_cons] at fK;have hlen:(l.take i).length=i:=by simp; omega
  generalize l[i]=p at bW hJ fK;refine Za (bW _) (Za (v:=.agg (fV p)) (rd:=[]) (aj rfl) ?_);refine Yt (row:=fV p) (row':=fV p) rfl rfl rfl ?_;have hB:=Zi τ (ab.box (fV p));have pz:=Zg [ab.box (fV p)] h0 (by simp);have aaa:=Qh h0 (by simp);refine Za (ld pz rfl) (Za rfl (Za (v:=iv p.2) (ld hB rfl) ?_));refine Qc (c71 s hs p.2) rfl iE.plain rfl (Za rfl (Za rfl (Za rfl (Za rfl ?_))));refine NI (v3:=iv s.mover) (λ_=>rfl) (λ_=>rfl) (λ_=>ld pz rfl) (λ_=>Qf ..) ?_;refine Pd (v2:=bd s.ak) (v4:=iv p.1) (u0:=.bool (s.ak.any λx=>decide (x=p.1))) (λ_=>rfl) (λ_=>ld pz rfl) (λ_=>rfl) (λ_=>ld hB rfl) (λ_ k hk=>Qc (c138 s.ak hsa p.1) rfl oi.plain rfl hk) (λ_=>rfl) ?_;have H':(((!(aH s p.2).2.2||decide ((aH s p.2).1=s.mover)) || !(s.ak.any λx=>decide (x=p.1)))) = !XO s p:=by
   rw[XO]; cases (aH s p.2).2.2<;>cases decide ((aH s p.2).1=s.mover)<;>simp
  rw[H'];refine Zc (λhk=>?_) (λhk=>?_)
  ·have hk:XO s p=false:=by simpa using hk
   rw[Qu,fK,hk]; rfl
  have hk:XO s p=true:=by simpa using hk
  rw[hk,Bool.true_and] at fK;clear H' hk;have gv:∀Ij Ik τ',ah τ' 0=.box (bX s)→Tw (((l.take i).map (·.1))++[p.1]) (((l.take i).map (·.2))++[p.2]) Ij Ik τ'→again [iv (i+1),Ij,Ik] τ':=λIj Ik τ' q0 q1=>by
   refine aM (i+1) _ _ (by omega) ⟨Ij,Ik,rfl,by omega,q0,by rw[hJ,List.map_append,List.map_append]; exact q1,fK⟩
  have Rf:((l.take i).map (·.1)).length=i:=by simpa using hlen
  have Rg:((l.take i).map (·.2)).length=i:=by simpa using hlen
  generalize (l.take i).map (·.1)=a at hT gv Rf;generalize (l.take i).map (·.2)=d at hT gv Rg;refine Zk rfl (Yk (v:=iv p.1) (ld hB rfl) (Yl _) (Yk (vD 1 _ _ _ [iv p.1] rfl rfl) (Yq _ _) ?_));have xf:=Zi (τ++[ab.box (fV p)]) (.rows 1 [[iv p.1]]);have cK:=Zg [ab.rows 1 [[iv p.1]]] hB (by simp);have h01:=Zg [ab.rows 1 [[iv p.1]]] pz (by simp);rcases hT with ⟨rfl,rfl,rfl,rfl⟩|⟨pa,pd,dL,Ae,hq1,rfl,rfl,xh,Rs⟩
  ·refine Yk (Y1 1 8 xf rfl rfl (by simp)) (Yq _ _) ?_;have dB:=Zg [ab.rows 1 [[iv p.1]]] cK (by simp);refine Zk rfl (Yk (v:=iv p.2) (ld dB rfl) (Yl _) (Yk (vD 1 _ _ _ [iv p.2] rfl rfl) (Yq _ _) ?_));have Fj:=Zi ((τ++[ab.box (fV p)]++[ab.rows 1 [[iv p.1]]])++[ab.rows 1 [[iv p.1]]]) (.rows 1 [[iv p.2]]);refine Yk (Y1 1 8 Fj rfl rfl (by simp)) (Yq _ _) (XJ ?_ ?_)
   ·simp[Zh,List.range,List.range.loop,QC,X2,QB,fF,fR]
   refine Za (Xk ..) ?_;rw[Zf (n:=i) (by omega)];refine gv _ _ _ (Zg _ (Zg _ (Zg _ h01 (by simp)) (by simp)) (by simp)) (.inr ⟨_,_,?_,?_,?_,rfl,rfl,Zg _ (Zg _ (Zi _ _) (by simp)) (by simp),Zi _ _⟩)
   ·simp
   ·simp
   ·simp
  ·have hlp:=Qh xh (by simp);have Ff:=Qh Rs (by simp);have K9:=Zg [ab.rows 1 [[iv p.1]]] (Zg [ab.box (fV p)] xh (by simp)) (by simp);have K_:=Zg [ab.rows 1 [[iv p.1]]] (Zg [ab.box (fV p)] Rs (by simp)) (by simp);refine Yk (QT 1 8 K9 xf (by simp) rfl rfl (by simp[Rf]; omega)) (QY _ _ (by simp; omega)) ?_;have dB:=Zg [ab.rows 1 (a.map bL++[[iv p.1]])] (Zj (c:=pa) (x:=.dead) cK (by simp) (by omega)) (by simp);have h02:=Zg [ab.rows 1 (a.map bL++[[iv p.1]])] (Zj (c:=pa) (x:=.dead) h01 (by simp) (by omega)) (by simp);have Fu:=Zg [ab.rows 1 (a.map bL++[[iv p.1]])] (Zj (c:=pa) (x:=.dead) K_ (by simp) (by omega)) (by simp);have tp:=Zi ((τ++[ab.box (fV p)]++[ab.rows 1 [[iv p.1]]]).set pa .dead) (.rows 1 (a.map bL++[[iv p.1]]));have nd:((τ++[ab.box (fV p)]++[ab.rows 1 [[iv p.1]]]).set pa .dead++[ab.rows 1 (a.map bL++[[iv p.1]])]).length=τ.length+3:=by simp
   have eR:((τ++[ab.box (fV p)]++[ab.rows 1 [[iv p.1]]]).set pa .dead).length=τ.length+2:=by simp
   have KZ:(τ++[ab.box (fV p)]++[ab.rows 1 [[iv p.1]]]).length=τ.length+2:=by simp
   have KY:(τ++[ab.box (fV p)]).length=τ.length+1:=by simp
   rw[eR] at tp;rw[KZ,KY];generalize (τ++[ab.box (fV p)]++[ab.rows 1 [[iv p.1]]]).set pa .dead++[ab.rows 1 (a.map bL++[[iv p.1]])]=τ2 at dB h02 Fu tp nd ⊢;refine Zk rfl (Yk (v:=iv p.2) (ld dB rfl) (Yl _) (Yk (vD 1 _ _ _ [iv p.2] rfl rfl) (Yq _ _) ?_));have Fj:=Zi τ2 (.rows 1 [[iv p.2]]);have La:=Zg [ab.rows 1 [[iv p.2]]] Fu (by simp);rw[nd] at Fj ⊢;refine Yk (QT 1 8 La Fj (by simp) rfl rfl (by simp[Rg]; omega)) (QY _ _ (by simp; omega)) (XJ ?_ ?_)
   ·have e1:¬τ.length=pa:=by omega
    have e2:¬τ.length+1=pa:=by omega
    have e5:¬τ.length=pd:=by omega
    simp[Zh,List.range,List.range.loop,QC,X2,QB,fF,fR,e1,e2,e5,nd];omega
   refine Za (Xk ..) ?_;rw[Zf (n:=i) (by omega)];refine gv _ _ _ (Zg _ (Zj (Zg _ h02 (by simp)) (by simp) (by omega)) (by simp)) (.inr ⟨τ.length+2,τ.length+4,by omega,by omega,by omega,?_,?_,Zg _ (Zj (Zg _ (tp.trans (by rw[List.map_append]; rfl)) (by simp)) (by simp) (by omega)) (by simp),?_⟩)
   ·simp
   ·simp[nd]
   ·have:=Zi ((τ2++[ab.rows 1 [[iv p.2]]]).set pd .dead) (.rows 1 (d.map bL++[[iv p.2]]));simp only[List.length_set,List.length_append,nd,List.length_singleton] at this;rw[List.map_append]; exact this
 have h:i=l.length:=by simp at h; omega
 subst h;rw[List.drop_length,List.all_nil] at fK;rw[List.take_length] at hT;obtain⟨⟨r1,hA⟩,r2,hD⟩:=hT.ri;refine ZP (rd:=r1) (c95 h89 hn (l.map λx=>x.1) (by simpa using hl)) rfl oQ.plain (.cons (show aS _ _ _ (bd (l.map λx=>x.1)) from hA) .nil) rfl (Za rfl ?_);refine Wl (v1:=vd) (u0:=.bool (!decide (l.map (·.2)).Nodup)) (λ_=>rfl) (λ_ k hk=>ZP (rd:=r2) (c95 h89 hn (l.map λx=>x.2) (by simpa using hl)) rfl oQ.plain (.cons (show aS _ _ _ (bd (l.map λx=>x.2)) from hD) .nil) rfl hk) (λ_=>rfl) ?_;rw[Qu,fK];simp
end Go.Ah.Tz
end
section
namespace Go.Ah.Tz
open Go.Proofs.Tryz (prog)
def kA(b:Bk)(s:St)(id:Int):Int×Int:=if (aH s id).2.2 then hZ b (Yv s (aH s id).1).ae (aH s id).2.1 else (0,0)
def nk(b:Bk)(s:St)(id:Int):aa:=.aG [iv (kA b s id).1,iv (kA b s id).2,.bool (aH s id).2.2]
def bT(b:Bk)(s:St)(id:Int):Int:=max (kA b s id).1 0
theorem Vd{b:Bk}{s:St}{id:Int}(h:(aH s id).2.2=false):bT b s id=0:=by simp[bT,kA,h]
attribute [local irreducible] al.rd al.pu al.wr al.dr al.gr al.gw al.gl al.gd al.opt au W
set_option maxHeartbeats 8000000
theorem c54(b:Bk)(hf:bE b=true)(fS:Zu b.ai)(s:St)(hs:cw 1000000000 s)(hm:bt (ej b).1 b s true=true)(id:Int):PC 54 [eY b,eC s,iv id] (nk b s id):=by
 refine Qd hP oO rfl rfl ?_;unfold g54;refine Ze (v:=.an 0 0) (rd:=[]) (up:=[(0,.box (ed b))]) rfl rfl ?_;refine Ze (v:=.an 1 0) (rd:=[]) (up:=[(1,.box (bX s))]) rfl rfl ?_;refine sH b hf fS s hs (n0:=2) (n:=13) rfl rfl rfl rfl (λh=>by rw[hm] at h; cases h) (λ_=>?_);refine Za rfl (Xh (Za (ld (row:=bX s) rfl rfl) (Qc (c71 s hs id) rfl iE.plain rfl (Za rfl (Za rfl (Za rfl (Za rfl ?_)))))));rcases Ty s id with ⟨k,u,hu,hk⟩|⟨k,u,hu,hk⟩|hu
 ·have e:nk b s id=.aG [iv (hZ b s.s0.ae k).1,iv (hZ b s.s0.ae k).2,.bool true]:=by simp[nk,kA,hu,Yv]
  rw[e,hu];refine Xh ?_;refine ZP (rd:=[0,2,3,4,5,6,7,8,9,10,11,12,13]) (Eg b s hs.s0.ae (HD hm) k) rfl kN.plain (.cons (aS.box (row:=RD s) rfl (by decide) (.cons (aS.box (row:=ed b) rfl (by decide) (bM.ro rfl)) ?_)) <| .cons (aS.ro rfl) <| .cons (aS.ro rfl) .nil) rfl ?_
  ·exact SB.mk (s:=s) (RI.own rfl (by decide) rfl) (RI.own rfl (by decide) rfl) (RI.own rfl (by decide) rfl) (RI.own rfl (by decide) rfl) (RT.own rfl (by decide) rfl) (RI.own rfl (by decide) rfl) (RI.own rfl (by decide) rfl) (RI.own rfl (by decide) rfl) (RI.own rfl (by decide) rfl) (RT.own rfl (by decide) rfl) (RI.own rfl (by decide) rfl)
  exact Za rfl (Za rfl rfl)
 ·have e:nk b s id=.aG [iv (hZ b s.s1.ae k).1,iv (hZ b s.s1.ae k).2,.bool true]:=by simp[nk,kA,hu,Yv]
  rw[e,hu];refine Xh ?_;refine ZP (rd:=[0,2,3,4,5,6,7,8,9,10,11,12,13]) (Eh b s hs.s1.ae (Ho hm) k) rfl kN.plain (.cons (aS.box (row:=RD s) rfl (by decide) (.cons (aS.box (row:=ed b) rfl (by decide) (bM.ro rfl)) ?_)) <| .cons (aS.ro rfl) <| .cons (aS.ro rfl) .nil) rfl ?_
  ·exact SB.mk (s:=s) (RI.own rfl (by decide) rfl) (RI.own rfl (by decide) rfl) (RI.own rfl (by decide) rfl) (RI.own rfl (by decide) rfl) (RT.own rfl (by decide) rfl) (RI.own rfl (by decide) rfl) (RI.own rfl (by decide) rfl) (RI.own rfl (by decide) rfl) (RI.own rfl (by decide) rfl) (RT.own rfl (by decide) rfl) (RI.own rfl (by decide) rfl)
  exact Za rfl (Za rfl rfl)
 ·have e:nk b s id=.aG [iv 0,iv 0,.bool false]:=by simp[nk,kA,hu]
  rw[e,hu];exact Ye rfl
end Go.Ah.Tz
end
section
namespace Go.Ah.Tz
open Go.Proofs.Tryz (prog)
abbrev Ih:Int→aa:=λn=>iv n
def jI(b:Bk)(s:St)(l:List Th):List (Int×Int):=l.map λu=>(u.id,bT b s u.id)
theorem MC(b:Bk)(s:St)(l:List Th):(jI b s l).map (·.1)=l.map Th.id:=by simp[jI]
theorem Pc(b:Bk)(s:St)(id:Int):∀l:List Th,(cf id (jI b s l))=if id∈l.map Th.id then some (bT b s id) else none
 |[]=>rfl
 |u::l=>by
  show (if id==u.id then some (bT b s u.id) else cf id (jI b s l))=_;by_cases e:id=u.id
  ·subst e; simp
  ·rw[if_neg (by simpa using e),Pc b s id l];simp[e]
theorem UY(b:Bk)(s:St)(id:Int):(cf id (jI b s (s.s0.ae++s.s1.ae))).getD 0=bT b s id:=by
 rw[Pc];split
 ·rfl
 ·rename_i h;refine(Vd ?_).symm;cases h2:(aH s id).2.2 with
  |false=>rfl
  |true=>
   obtain⟨k,u,_,h3,rfl,_⟩:=GO h2;refine absurd ?_ h;have hm:=List.mem_of_getElem? h3;rw[Yv] at hm;refine List.mem_map.2 ⟨u,?_,rfl⟩;split at hm<;>simp[hm]
structure vC (b:Bk) (s:St) (M:List (Int×Int)) (τ:List ab):Prop where
 k0:ah τ 0=.box (ed b)
 k1:ah τ 1=.box (bX s)
 k2:ah τ 2=.box bo
 k3:ah τ 3=.map (pg Ih M)
theorem vC.app{b:Bk}{s:St}{M:List (Int×Int)}{τ:List ab}(h:vC b s M τ)(l:List ab):vC b s M (τ++l):=
 ⟨Zg _ h.k0 (by simp),Zg _ h.k1 (by simp),Zg _ h.k2 (by simp),Zg _ h.k3 (by simp)⟩
attribute [local irreducible] al.rd al.pu al.wr al.dr al.gr al.gw al.gl al.gd al.opt au W
set_option maxHeartbeats 8000000
theorem NN(b:Bk)(hf:bE b=true)(fS:Zu b.ai)(s:St)(hs:cw 1000000000 s)(hm:bt (ej b).1 b s true=true)(U:List Th)(hU:U.length≤1000000000)(M:List (Int×Int))(hn:(M.map (·.1)++U.map Th.id).Nodup){τ:List ab}(h0:vC b s M τ){K:List ab→Prop}(hK:∀τ',vC b s (M++jI b s U) τ'→K τ') :
  VV.loop (λJ2 v31 σ=>
  VV.rd (Yj .lss false [(Go.Ah.h0 v31),iv U.length] σ) λBo=>
  VV.test Bo (
  VV.rd (Yb 4 [nA U,(Go.Ah.h0 v31)] σ) λBq=>
  VV.rd (Zd true 4 [Bq] σ) λBs=>
  VV.wr (Xe [(.int .i64 0),(.int .i64 0),(.int .i64 0),(.bool false)] [] σ) σ λrB σ=>
  VV.wr (Xb 4 [rB,Bs] σ) σ λ_ σ=>
  VV.rd (Zd true 2 [.an 0 0] σ) λBv=>
  VV.rd (Zd true 23 [.an 1 0] σ) λBw=>
  VV.rd (Ya 0 [rB] σ) λBz=>
  VV.rd (Zd false 1 [Bz] σ) λBA=>
  VV.call (.call 54) [Bv,Bw,BA] σ λrE σ=>
  VV.rd (Xc 0 [rE] σ) λBB=>
  VV.rd (Xc 1 [rE] σ) λLW=>
  VV.rd (Xc 2 [rE] σ) λLX=>
  VV.rd (Ya 0 [rB] σ) λBC=>
  VV.rd (Zd false 1 [BC] σ) λBE=>
  VV.rd (tI [BB,(.int .i64 0)] σ) λBH=>
  VV.wr (Xz false [.map 3,BE,BH] σ) σ λ_ σ=>
  VV.rd (Yj .add false [(Go.Ah.h0 v31),(.int .i64 1)] σ) λBJ=>
  J2 [BJ] σ) (K σ)) [(.int .i64 0)] τ:=by
 refine Zl (ι:=Nat) (λi vs τ=>vs=[iv i]∧i≤U.length∧vC b s (M++jI b s (U.take i)) τ) (λi=>U.length-i) 0 ⟨rfl,by omega,by simpa[jI] using h0⟩ ?_;clear h0;rintro i vs τ again ⟨rfl,hi,h0⟩ aM;refine Za (Qv ..) (Zc (λh=>?_) (λh=>?_))
 ·have h:i<U.length:=by simpa using h
  have hJ:U.take (i+1)=U.take i++[U[i]]:=by rw[List.take_succ_eq_append_getElem h]
  have bW:=λ(t:List ab)=>Zp t bf false false 4 U .i64 i h;have rh:cf U[i].id (M++jI b s (U.take i))=none:=by
   have hk:=GW U[i].id (M++jI b s (U.take i));rw[List.map_append,MC] at hk;have:(M.map (·.1)++(U.take i).map Th.id).contains U[i].id=false:=by
    rw[←List.take_append_drop i U,List.map_append,←List.append_assoc] at hn;have h3:=(List.nodup_append.1 hn).2.2;cases hc:(M.map (·.1)++(U.take i).map Th.id).contains U[i].id with
    |false=>rfl
    |true=>
     refine absurd rfl (h3 U[i].id (by simpa using hc) U[i].id (List.mem_map.2 ⟨U[i],?_,rfl⟩));rw[eD h]; exact List.mem_cons_self
   rw[this] at hk;simpa using hk
  generalize U[i]=u at bW hJ rh;refine Za (bW _) (Za (v:=.agg (bf u)) (rd:=[]) (aj rfl) (Yt (row:=bf u) (row':=bf u) rfl rfl rfl ?_));have hB:=Zi τ (ab.box (bf u));have h1:=h0.app [.box (bf u)];refine Za (ld h1.k0 rfl) (Za (ld h1.k1 rfl) (Za rfl (Za (v:=iv u.id) (ld hB rfl) ?_)));refine Qc (c54 b hf fS s hs hm u.id) rfl oO.plain rfl (Za rfl (Za rfl (Za rfl (Za rfl (Za (v:=iv u.id) (ld hB rfl) (Za (vn ..) ?_))))));refine Ze (IC Ih h1.k3 u.id (bT b s u.id) rh) (Xn _ (Qh h1.k3 (by simp))) (Za (Xk ..) ?_);rw[Zf (n:=i) (by omega)];refine aM (i+1) _ _ (by omega) ⟨rfl,by omega,Zj h1.k0 (by simp) (by decide),Zj h1.k1 (by simp) (by decide),Zj h1.k2 (by simp) (by decide),?_⟩;rw[Xj _ (Qh h1.k3 (by simp)),hJ];simp[jI]
 ·have h:i=U.length:=by simp at h; omega
  subst h;rw[List.take_length] at h0;exact hK _ h0
end Go.Ah.Tz
end
