/- Part of the proof that WakeRests holds of the program for arguments that together hold at most 1048576 values and letters; no other condition. -/
import Derived.Test.YtiplhedaicikiaaGreatDoorZ1
import Derived.Orders
import Derived.DataReads
import Derived.ChangeShapes
set_option linter.all false
open Array renaming getD_eq_getD_getElem?->zBU,getElem?_eq_getElem->zBD,getElem?_replicate->zBo,getElem?_setIfInBounds_ne->zBb,getElem?_toList->zBM,getElem_extract->zBx,replicate->zBq,toArray_toList->zCB,toList_map->zBn
open Bool renaming and_eq_true->AI,eq_iff_iff->zAk,false_eq_true->zAS,not_eq_true'->zAf,or_eq_true->zBS
open Classical renaming choose->zCr
open Go renaming Frame->zDC
open Go.Addr renaming add->zDz
open Go.Builtin renaming append_->zBE,lenOf->zCK,zeroCells->zAx
open Go.DataW renaming trod->zCW
open Go.Deferred renaming ofValue->zCl
open Go.Ending renaming returned->zCV
open Go.Instr renaming missingMethod->zDm,slice->zDD,sliceAt->zDY,sliceBounds->zAO
open Go.Region renaming ready->zBk
open Go.Result renaming andThen_ok->AS
open Go.Sem renaming run_bind->OF,run_pure->zAA
open Go.Utf8 renaming decode->zBc
open Go.Value renaming iface->zBz
open Int renaming natCast_nonneg->zAh,ofNat_le->zBV,ofNat_lt->zDh
open List renaming all_eq_true->zAj,append_assoc->zAa,contains_iff_mem->zBZ,drop_zero->zDW,flatten_cons->zEC,getD_eq_getElem?_getD->zDM,getElem?_append_left->zAV,getElem?_append_right->zAQ,getElem?_map->zAX,length->zCo,length_append->By,length_map->zAH,length_singleton->zBa,map_cons->zAN,mem_append->zAI,mem_cons->zAR,mem_cons_of_mem->zAn,mem_cons_self->zBO,mem_filterMap->zCG,mem_map->zAt,mem_of_getElem?->zAK,mem_range->zBR,nil_append->zAM,range->zAC,range'->zBG,range'_succ->zDF,range_eq_range'->zDk,replicate->zAd,take_append_drop->zCh,take_of_length_le->zAs
open Nat renaming add_comm->zDu,add_mul->zBX,add_zero->zBj,beq->IN,beq_refl->zBf,ble->zAP,ble_eq_true_of_le->sh,blt->zAi,le_refl->IT,le_zero->zDp,mul_le_mul_right->zAE,strongRecOn->zBv,sub_self->zDP,succ_mul->zBP,zero_add->No
open Option renaming bind_eq_some_iff->zDO,getD_some->zAo,isSome_iff_exists->zAB,isSome_none->zDj,map_eq_some_iff->zBg,map_none->zCy,map_some->zCS
open Option.some renaming inj->zBy,injEq->zBl
section
namespace Go.Ah
section
variable {P:Program} {GL:ar}
theorem Ybq(s:List UInt8)(k:IntKind)(i:Int)(h1:0<=i)(h2:i<=s.length)(h0:Hp) :
  aD P GL (.ff true false) [.str s,.int k i] h0 (.str (s.drop i.toNat)) [] []:=by
 intro o os hc w0 L g hp w a r hx _ _;obtain⟨t,x,lo,hi,ho,gk,dU,rfl,hu⟩:=RH hc;obtain⟨lo,rfl⟩:∃z,lo=some z:=zAB.1 gk.symm;obtain rfl:hi=none:=by cases hi<;>first|rfl|cases dU
 obtain⟨d,d2,_⟩:=hx;obtain⟨s',e1,rfl⟩:=yb d;have eL:s'.data.toList.length=s'.size:=by simp
 have ba:(execOp a.eval o).run P w=.ok (.value (.string (s'.extract i.toNat s'.size))) w:=by
  simp only[execOp,ho,e1,zDY,zDD,OF,run_underlying hu,AS,zCS,Zp d2,zCy,zDj,zAS,if_false,zAO,zAA,Qk k i s'.size _ h1 (by omega)]
 rw[ba];have:s'.data.toList.drop i.toNat=(s'.extract i.toNat s'.size).data.toList:=by
  simp[zAs]
 rw[this];exact Out.here r (.str _ _)
theorem Zbq(s:List UInt8)(k:IntKind)(i:Int)(h1:0<=i)(h2:i<=s.length)(h0:Hp) :
  aD P GL (.ff false true) [.str s,.int k i] h0 (.str (s.take i.toNat)) [] []:=by
 intro o os hc w0 L g hp w a r hx _ _;obtain⟨t,x,lo,hi,ho,gk,dU,rfl,hu⟩:=RH hc;obtain rfl:lo=none:=by cases lo<;>first|rfl|cases gk
 obtain⟨hi,rfl⟩:∃z,hi=some z:=zAB.1 dU.symm;obtain⟨d,d2,_⟩:=hx;obtain⟨s',e1,rfl⟩:=yb d;have eL:s'.data.toList.length=s'.size:=by simp
 have ba:(execOp a.eval o).run P w=.ok (.value (.string (s'.extract 0 i.toNat))) w:=by
  simp only[execOp,ho,e1,zDY,zDD,OF,run_underlying hu,AS,zCS,Zp d2,zCy,zDj,zAS,if_false,zAO,zAA,Qk k i s'.size _ h1 (by omega)]
 rw[ba];have:s'.data.toList.take i.toNat=(s'.extract 0 i.toNat).data.toList:=by
  simp
 rw[this];exact Out.here r (.str _ _)
theorem Yav(n by_:Nat)(z:List aa)(x y:aa)(rd:List Nat)(h0:Hp)(su:x=.an∨x=.cS∨(∃b o l e,x=.sl b o l e)∨∃e nn sz rows,x=.aU e nn sz rows)(sv:fF h0 n y [] rd) :
  aD P GL (.append n by_ z) [x,y] h0 x rd []:=by
 intro o os hc w0 L g h w a r hx dc _;generalize ho:o.op=op at hc;cases hc with
 |append t t' e ox oy _ _ v _ ht zU eL sk hz rG dJ ln kI=>
  obtain⟨d,hd,pH⟩:=zU;obtain⟨d1,d2,_⟩:=hx;generalize jT:a.eval ox=u1 at d1;generalize qg:a.eval oy=u2 at d2;obtain⟨p1,oM,nf,e1,hle⟩:∃p len cap,u1=.slice p len cap∧len<=cap:=by
   rcases su with rfl|rfl|⟨b,o',l,e',rfl⟩|⟨e',nn,sz,rows,rfl⟩
   ·cases d1;exact⟨_,_,_,rfl,IT _⟩
   ·cases d1;exact⟨_,_,_,rfl,IT _⟩
   ·cases d1<;>grind
   grind [Gp]
  subst e1;obtain⟨p2,zl,newv,e2,f2,qo,_⟩:=XK (P:=P) r sv dc d2;have fH:(zCK u2).run P w=.ok 0 w:=by rw[e2];rfl
  have zP:newv.toList=[]:=by have:=qo.1;simp at this;simp[this]
  have ba:(zBE #[t,t'] o.type #[.slice p1 oM nf,u2]).run P w=.ok (.slice p1 oM nf) w:=by
   obtain⟨k1,k2⟩:=(ZI ht hd pH eL sk hz ln (base:=p1) (len:=oM) (cap:=nf) (newv:=newv) fH o.type).1 (by simpa using hle) f2;cases p1 with
   |none=>exact k1 rfl
   |some ad=>exact k2 ad w rfl (by rw[zP];rfl)
  rw[QH ho jT qg ba];exact Out.here r d1
theorem aD.dY{k:MK}{x x':aa}{xs:List aa}{h0:Hp}{v:aa}{rd:List Nat}{up:List (Nat×ab)}(hw:∀(g:Gm) (u:Value),g.den x u→g.den x' u)(h:aD P GL k (x'::xs) h0 v rd up):aD P GL k (x::xs) h0 v rd up:=by
 intro o os hc w0 L g hp w a r hx dc ei;refine h o os hc w0 L g hp w a r ?_ dc ei;generalize os.map a.eval=vs at hx;cases vs with
 |nil=>exact hx
 |cons v vs=>exact⟨hw g v hx.1,hx.2⟩
theorem ZcW(x y:aa)(h0:Hp):aD P GL .pick [.bool true,x,y] h0 x [] []:=by
 intro o os hc w0 L g h w a r hx _ _;generalize ho:o.op=op at hc;cases hc with
 |pick oc oa ob=>
  obtain⟨d1,d2,d3,_⟩:=hx;have e1:=ZD d1;simp_all [execOp,asBool,Out.here]
theorem YcW(x y:aa)(h0:Hp):aD P GL .pick [.bool false,x,y] h0 y [] []:=by
 intro o os hc w0 L g h w a r hx _ _;generalize ho:o.op=op at hc;cases hc with
 |pick oc oa ob=>
  obtain⟨d1,d2,d3,_⟩:=hx;have e1:=ZD d1;simp_all [execOp,asBool,Out.here]
theorem ZV{g:Gm}{b off len:Nat}{ex:Bool}{cb:CB}{p:Option Addr}{Lf cap:Nat}(ec:g.c b=some cb)(d:g.den (.sl b off len ex) (.slice p Lf cap)) :
  Lf=len∧len<=cap∧(ex=true→cap=len)∧∀ {l h:Nat},l<=h→h<=cap→∀vj:Bool,(vj=true→cap=h)→(l<h∨(l=0)) →
   g.den (.sl b (off+l) (h-l) vj) (.slice (if cap=l then p else p.map (·.add (l*cb.sz))) (h-l) (cap-l)):=by
 cases d with
 |oV _ _ _ eN _ gN hv=>
  rw[ec]at gN;cases gN;refine⟨rfl,IT _,λ_=>rfl,λ{l h} hl hh vj hex hs=>?_⟩;have:h=0:=by omega
  subst this;have:l=0:=by omega
  subst this;exact .oV _ _ _ cb _ ec hv
 |sle _ _ _ _ eN _ gN hv h1 h2=>
  rw[ec]at gN;cases gN;refine⟨rfl,IT _,λ_=>rfl,λ{l h} hl hh vj hex hs=>?_⟩;have:h=0:=by omega
  subst this;have:l=0:=by omega
  subst this;exact .sle _ _ _ _ cb _ ec hv h1 h2
 |sl _ _ _ _ _ eN _ gN hv h1 h2 h3=>
  rw[ec]at gN;cases gN;refine⟨rfl,h1,h3,λ{l h} hl hh vj hex hs=>?_⟩;have wh:(if cap=l then some (⟨cb.blk,cb.base+off*cb.sz,none⟩:Addr)else (some (⟨cb.blk,cb.base+off*cb.sz,none⟩:Addr)).map (·.add (l*cb.sz)))=some ⟨cb.blk,cb.base+(off+l)*cb.sz,none⟩:=by
   grind [XU]
  rw[wh];refine .sl _ _ _ _ _ cb _ ec hv (by omega) ?_ (λe=>by rw[hex e])
  grind
theorem Zdq{w0:World}{L:Ln}{g:Gm}{h:Hp}{w:World}(r:bx GL w0 L g h w){b n off len cap:Nat}{ex:Bool}{rs:List (List aa)}{p:Option Addr}(hb:h b=some (.rows n rs))(kI:n≠0)(d:g.den (.sl b off len ex) (.slice p len cap)):rs.length<=off+cap:=by
 cases d with
 |oV _ _ _ cb p ec hv=>have:=(r.gV hb ec hv).2;subst this;simp
 |sle _ _ _ _ cb p ec hv h1 h2=>exact Nn (off:=off) (cap:=0) r hb kI ec hv (by simpa using h2)
 |sl _ _ _ _ _ cb cap ec hv h1 h2 h3=>exact Nn r hb kI ec hv h2
theorem Gy{g:Gm}{b off len:Nat}{ex:Bool}{v:Value}(d:g.den (.sl b off len ex) v):∃cb p cap,g.c b=some cb∧v=.slice p len cap∧(p=none→cap=0):=by
 cases d<;>grind
theorem Om{w0:World}{L:Ln}{g:Gm}{h:Hp}{w:World}(r:bx GL w0 L g h w){b sz:Nat}{rs:List (List aa)}{cb:CB}(hb:h b=some (.rows sz rs))(ec:g.c b=some cb):cb.sz=sz:=by
 cases hv:cb.cK with
 |true=>have:=r.bc b _ cb hb rfl ec hv;cases this;rfl
 |false=>exact(r.fR hb ec hv).1
theorem Ya4(ex:Bool)(sz b off len:Nat)(rs:List (List aa))(k:IntKind)(i:Int)(h1:0<=i)(h2:i<len)(h0:Hp)(hb:h0 b=some (.rows sz rs)) :
  aD P GL (.cJ sz true false false) [.sl b off len ex,.int k i] h0 (.sl b (off+i.toNat) (len-i.toNat) ex) [b] []:=by
 intro o os hc w0 L g hp w a r hx dc _;obtain⟨t,x,lo,hi,mx,e,ho,gk,dU,lY,rfl,hu,hn⟩:=Zv hc;obtain⟨lo,rfl⟩:∃z,lo=some z:=zAB.1 gk.symm;obtain rfl:hi=none:=by cases hi<;>first|rfl|cases dU
 obtain rfl:mx=none:=by cases mx<;>first|rfl|cases lY
 obtain⟨d,d2,_⟩:=hx;obtain⟨cb,p,cap,ec,hv,_⟩:=Gy d;have eL:=Om r ((dc b (by simp)).trans hb) ec;rw[hv]at d;obtain⟨_,vm,kN,uM⟩:=ZV ec d;have hb:(zAO true len cap (some (.int k i)) none none).run P w=.ok (i.toNat,len,cap) w:=by
  grind [zAO,OF,zAA,AS,Qk]
 grind [ZA,Zp,Out.here]
theorem ZaX(ex:Bool)(sz b off len:Nat)(k:IntKind)(i:Int)(h1:i=len)(h0:Hp) :
  aD P GL (.cJ sz true false false) [.sl b off len ex,.int k i] h0 (.aU false (zAi 0 len) sz []) [] []:=by
 intro o os hc w0 L g hp w a r hx dc _;obtain⟨t,x,lo,hi,mx,e,ho,gk,dU,lY,rfl,hu,hn⟩:=Zv hc;obtain⟨lo,rfl⟩:∃z,lo=some z:=zAB.1 gk.symm;obtain rfl:hi=none:=by cases hi<;>first|rfl|cases dU
 obtain rfl:mx=none:=by cases mx<;>first|rfl|cases lY
 obtain⟨d,d2,_⟩:=hx;obtain⟨cb,p,cap,ec,hv,kW⟩:=Gy d;rw[hv]at d;have oI:zAi 0 len=true→p.isSome=true:=by
  intro e;generalize hq:(Value.slice p len cap)=q at d;cases d with
  |sl=>cases hq;rfl
  |oV=>cases hq;cases e
  |sle=>cases hq;cases e
 obtain⟨_,vm,kN,_⟩:=ZV ec d;have hb:(zAO true len cap (some (.int k i)) none none).run P w=.ok (i.toNat,len,cap) w:=by
  grind [zAO,OF,zAA,AS,Qk]
 rw[ZA ho hu hn hv (l:=i.toNat) (h:=len) (m:=cap) (by simpa[Zp d2]using hb)];refine Out.here r ?_;rw[show len-i.toNat=([]:List (List aa)).length by simp;omega];refine .aU _ _ _ _ [] _ _ 0 0 (λ_ _=>undef) (by simp) (λe=>by have:=oI e;split<;>simp[this]) (by simp) (λe=>?_) (by simp) (by simp) (by simp) (by simp);split at e
 ·omega
 ·simp at e;have:=kW e;omega
theorem QaR(ex:Bool)(sz b off len:Nat)(rs:List (List aa))(k:IntKind)(i:Int)(h1:i=len)(hz:sz≠0)(h0:Hp)(hb:h0 b=some (.rows sz rs)) :
  aD P GL (.cJ sz true false false) [.sl b off len ex,.int k i] h0 (.sl b (off+len) 0 ex) [b] []:=by
 intro o os hc w0 L g hp w a r hx dc _;obtain⟨t,x,lo,hi,mx,e,ho,gk,dU,lY,rfl,hu,hn⟩:=Zv hc;obtain⟨lo,rfl⟩:∃z,lo=some z:=zAB.1 gk.symm;obtain rfl:hi=none:=by cases hi<;>first|rfl|cases dU
 obtain rfl:mx=none:=by cases mx<;>first|rfl|cases lY
 obtain⟨d,d2,_⟩:=hx;obtain⟨cb,p,cap,ec,hv,_⟩:=Gy d;have eL:=Om r ((dc b (by simp)).trans hb) ec;rw[hv]at d;obtain⟨_,vm,kN,_⟩:=ZV ec d;have CZ:(zAO true len cap (some (.int k i)) none none).run P w=.ok (i.toNat,len,cap) w:=by
  grind [zAO,OF,zAA,AS,Qk]
 rw[ZA ho hu hn hv (l:=i.toNat) (h:=len) (m:=cap) (by simpa[Zp d2]using CZ)];have hi:i.toNat=len:=by omega
 rw[hi,←eL];refine Out.here r ?_;rw[zDP];generalize hq:(Value.slice p len cap)=q at d;cases d with
 |oV _ _ _ eN _ gN KX=>
  cases hq<;>grind
 |sle _ _ _ _ eN _ gN KX g1 g2=>
  cases hq<;>grind
 |sl _ _ _ _ _ eN _ gN KX g1 g2 g9993=>
  rw[ec]at gN;cases gN;cases hq;by_cases pg:cap=len
  ·subst pg;rw[aJ rfl,zDP];exact .sle _ _ _ _ cb _ ec KX (by rw[eL];exact hz) g2
  ·rw[aE pg];have:=Den.sl (M:=g.M) g.c b (off+len) 0 ex cb (cap-len) ec KX (Nat.zero_le _) (by grind) (λe=>absurd (g9993 e) pg);show Den g.M g.c _ _
   grind [XU]
theorem QaW(sz:Nat)(k:IntKind)(h0:Hp):aD P GL (.cJ sz true false false) [.an,.int k 0] h0 .an [] []:=by
 intro o os hc w0 L g hp w a r hx dc _;obtain⟨t,x,lo,hi,mx,e,ho,gk,dU,lY,rfl,hu,hn⟩:=Zv hc;obtain⟨lo,rfl⟩:∃z,lo=some z:=zAB.1 gk.symm;obtain rfl:hi=none:=by cases hi<;>first|rfl|cases dU
 obtain rfl:mx=none:=by cases mx<;>first|rfl|cases lY
 obtain⟨d,d2,_⟩:=hx;have hv:a.eval x=.slice none 0 0:=by
  generalize a.eval x=u at d;cases d;rfl
 have hb:(zAO true 0 0 (some (.int k 0)) none none).run P w=.ok (0,0,0) w:=by
  rfl
 rw[ZA ho hu hn hv (l:=0) (h:=0) (m:=0) (by simpa[Zp d2]using hb)];exact Out.here r (.an _)
theorem XaW(sz:Nat)(k:IntKind)(h0:Hp):aD P GL (.cJ sz false true false) [.an,.int k 0] h0 .an [] []:=by
 intro o os hc w0 L g hp w a r hx dc _;obtain⟨t,x,lo,hi,mx,e,ho,gk,dU,lY,rfl,hu,hn⟩:=Zv hc;obtain rfl:lo=none:=by cases lo<;>first|rfl|cases gk
 obtain⟨hi,rfl⟩:∃z,hi=some z:=zAB.1 dU.symm;obtain rfl:mx=none:=by cases mx<;>first|rfl|cases lY
 obtain⟨d,d2,_⟩:=hx;have hv:a.eval x=.slice none 0 0:=by
  generalize a.eval x=u at d;cases d;rfl
 have hb:(zAO true 0 0 none (some (.int k 0)) none).run P w=.ok (0,0,0) w:=by
  rfl
 rw[ZA ho hu hn hv (l:=0) (h:=0) (m:=0) (by simpa[Zp d2]using hb)];exact Out.here r (.an _)
theorem Za4(ex:Bool)(sz b off len:Nat)(rs:List (List aa))(k:IntKind)(i:Int)(h1:0<=i)(h2:i<=len)(h0:Hp)(hb:h0 b=some (.rows sz rs)) :
  aD P GL (.cJ sz false true false) [.sl b off len ex,.int k i] h0 (.sl b off i.toNat false) [b] []:=by
 intro o os hc w0 L g hp w a r hx dc _;obtain⟨t,x,lo,hi,mx,e,ho,gk,dU,lY,rfl,hu,hn⟩:=Zv hc;obtain rfl:lo=none:=by cases lo<;>first|rfl|cases gk
 obtain⟨hi,rfl⟩:∃z,hi=some z:=zAB.1 dU.symm;obtain rfl:mx=none:=by cases mx<;>first|rfl|cases lY
 obtain⟨d,d2,_⟩:=hx;obtain⟨cb,p,cap,ec,hv,_⟩:=Gy d;have eL:=Om r ((dc b (by simp)).trans hb) ec;rw[hv]at d;obtain⟨_,vm,kN,uM⟩:=ZV ec d;have hb:(zAO true len cap none (some (.int k i)) none).run P w=.ok (0,i.toNat,cap) w:=by
  grind [zAO,OF,zAA,AS,Qk]
 rw[ZA ho hu hn hv (l:=0) (h:=i.toNat) (m:=cap) (by simpa[Zp d2]using hb)];rw[←eL];have:=uM (l:=0) (h:=i.toNat) (by omega) (by omega) false (by simp) (.inr rfl);exact Out.here r this
theorem XaR(ex:Bool)(sz b off len:Nat)(rs:List (List aa))(k k':IntKind)(i j:Int)(h1:0<=i)(h2:i<j∨(i=0∧0<=j))(h3:j<=len∨(sz≠0∧off+j.toNat<=rs.length))(h0:Hp)(hb:h0 b=some (.rows sz rs)) :
  aD P GL (.cJ sz true true false) [.sl b off len ex,.int k i,.int k' j] h0 (.sl b (off+i.toNat) (j.toNat-i.toNat) false) [b] []:=by
 intro o os hc w0 L g hp w a r hx dc _;obtain⟨t,x,lo,hi,mx,e,ho,gk,dU,lY,rfl,hu,hn⟩:=Zv hc;obtain⟨lo,rfl⟩:∃z,lo=some z:=zAB.1 gk.symm;obtain⟨hi,rfl⟩:∃z,hi=some z:=zAB.1 dU.symm;obtain rfl:mx=none:=by cases mx<;>first|rfl|cases lY
 obtain⟨d,d2,d3,_⟩:=hx;obtain⟨cb,p,cap,ec,hv,_⟩:=Gy d;have eL:=Om r ((dc b (by simp)).trans hb) ec;rw[hv]at d;obtain⟨_,vm,kN,uM⟩:=ZV ec d;have hjc:j<=cap:=by
  rcases h3 with h3|⟨h3,h4⟩
  ·omega
  ·have:=Zdq r ((dc b (by simp)).trans hb) h3 d;omega
 have hb:(zAO true len cap (some (.int k i)) (some (.int k' j)) none).run P w=.ok (i.toNat,j.toNat,cap) w:=by
  simp only[zAO,OF,zAA,AS,Qk k' j cap _ (by omega) (by omega),Qk k i j.toNat _ h1 (by omega)]
 rw[ZA ho hu hn hv (l:=i.toNat) (h:=j.toNat) (m:=cap) (by simpa[Zp d2,Zp d3]using hb)]
 grind [Out.here]
theorem Xbq(ex:Bool)(sz b off len:Nat)(k k' U9:IntKind)(i j m:Int)(h1:0<=i)(h2:i<=j)(h3:j<=m)(h4:m<=len)(h0:Hp) :
  aD P GL (.cJ sz true true true) [.sl b off len ex,.int k i,.int k' j,.int U9 m] h0 .aQ [] []:=by
 intro o os hc w0 L g hp w a r hx dc _;obtain⟨t,x,lo,hi,mx,e,ho,gk,dU,lY,rfl,hu,hn⟩:=Zv hc;obtain⟨lo,rfl⟩:∃z,lo=some z:=zAB.1 gk.symm;obtain⟨hi,rfl⟩:∃z,hi=some z:=zAB.1 dU.symm;obtain⟨mx,rfl⟩:∃z,mx=some z:=zAB.1 lY.symm;obtain⟨d,d2,d3,d4,_⟩:=hx;obtain⟨cb,p,cap,ec,hv,_⟩:=Gy d;rw[hv]at d;obtain⟨_,vm,kN,uM⟩:=ZV ec d;have hb:(zAO true len cap (some (.int k i)) (some (.int k' j)) (some (.int U9 m))).run P w=.ok (i.toNat,j.toNat,m.toNat) w:=by
  simp only[zAO,OF,zAA,AS,Qk U9 m cap _ (by omega) (by omega),Qk k' j m.toNat _ (by omega) (by omega),Qk k i j.toNat _ h1 (by omega)]
 rw[ZA ho hu hn hv (l:=i.toNat) (h:=j.toNat) (m:=m.toNat) (by grind [Zp])];exact Out.here r (.aQ _ _)
theorem Qbw(sz:Nat)(x:aa)(su:x=.an∨x=.cS∨(∃b o l e,x=.sl b o l e)∨∃e nn s rows,x=.aU e nn s rows)(k k':IntKind)(h0:Hp) :
  aD P GL (.cJ sz false true true) [x,.int k 0,.int k' 0] h0 .cS [] []:=by
 intro o os hc w0 L g hp w a r hx dc _;obtain⟨t,y,lo,hi,mx,e,ho,gk,dU,lY,rfl,hu,hn⟩:=Zv hc;obtain rfl:lo=none:=by cases lo<;>first|rfl|cases gk
 obtain⟨hi,rfl⟩:∃z,hi=some z:=zAB.1 dU.symm;obtain⟨mx,rfl⟩:∃z,mx=some z:=zAB.1 lY.symm;obtain⟨d,d2,d3,_⟩:=hx;have O2:∃p len cap,a.eval y=.slice p len cap:=by
  generalize jT:a.eval y=u1 at d;rcases su with rfl|rfl|⟨_,_,_,_,rfl⟩|⟨_,_,_,_,rfl⟩
  ·cases d;exact⟨_,_,_,rfl⟩
  ·cases d;exact⟨_,_,_,rfl⟩
  ·cases d<;>exact⟨_,_,_,rfl⟩
  ·cases d;exact⟨_,_,_,rfl⟩
 obtain⟨p,len,cap,hv⟩:=O2;have hb:(zAO true len cap none (some (.int k 0)) (some (.int k' 0))).run P w=.ok (0,0,0) w:=by
  rfl
 rw[ZA ho hu hn hv (l:=0) (h:=0) (m:=0) (by simpa[Zp d2,Zp d3]using hb)];exact Out.here r (.cS _ _)
end
theorem QE{α:Type}{b:Bool}{x:Option α}{v:α}(h:(bif b then x else none)=some v):b=true∧x=some v:=by
 grind
theorem XP{α:Type}{b:Bool}{x y v:α}(h:(bif b then x else y)=v):(b=true∧x=v)∨(b=false∧y=v):=by
 grind
def yP:Bool→aa→Bool
 |true,.str _=>true
 |false,.int _ _=>true
 |_,_=>false
theorem Wp{s:Bool}{k:aa}(h:yP s k=true):lM s k:=by
 cases s<;>cases k<;>simp_all [yP,lM]
def aW:List (List aa)→Bool
 |[]=>true
 |r::rs=>r.all aa.cell&&aW rs
theorem QV:∀ {rs:List (List aa)},aW rs=true→∀row∈rs,∀x∈row,aa.cell x=true
 |[],_,_,hm,_,_=>by cases hm
 |r::rs,h,row,hm,x,hx=>by
  simp only[aW,AI]at h;cases hm with
  |head=>exact zAj.1 h.1 x hx
  |tail _ hm=>exact QV h.2 row hm x hx
def Xk(sz:Nat)(σ:List ab):aa→Option (List (List aa)×List Nat)
 |.aU _ _ s rows=>bif IN s sz then some (rows,[])else none
 |.an=>some ([],[])
 |.cS=>some ([],[])
 |.sl b off len _=>match aj σ b with
  |.rows s rs=>bif IN s sz&&zAP (off+len) rs.length then some (cut off (off+len) rs,[b])else none
  |_=>none
 |_=>none
theorem QR{sz:Nat}{σ:List ab}{y:aa}{ys:List (List aa)}{rd:List Nat}(h:Xk sz σ y=some (ys,rd)):fF (hp σ) sz y ys rd:=by
 unfold Xk at h;split at h
 ·replace h:=QE h;obtain⟨hb,h⟩:=h
  have:=fV hb;subst this;cases h;exact .row _ _ _
 ·cases h;exact .an
 ·cases h;exact .cS
 ·split at h
  ·rename_i hg
   replace h:=QE h;obtain⟨hb,h⟩:=h
   simp only[AI]at hb;have:=fV hb.1;subst this;cases h;exact .own _ _ _ _ _ (Q6 hg (by simp)) (ik hb.2)
  ·cases h
 ·cases h
def yX:aa→aa
 |.aU true _ _ []=>.cS
 |x=>x
theorem XW(x:aa)(g:Gm)(u:Value)(d:g.den x u):g.den (yX x) u:=by
 unfold yX;split
 ·obtain⟨p,cap,q1,_,q3⟩:=Gp d;have:=q3 rfl;rw[q1,this];exact .cS _ _
 ·exact d
def HQ:aa→Bool
 |.an=>true
 |.cS=>true
 |.sl ..=>true
 |.aU ..=>true
 |_=>false
theorem Si{x:aa}(h:HQ x=true):x=.an∨x=.cS∨(∃b o l e,x=.sl b o l e)∨∃e nn sz rows,x=.aU e nn sz rows:=by
 cases x<;>simp_all [HQ]
def mapOf(σ:List ab):aa→Option (List (aa×aa)×List Nat)
 |.map b=>match aj σ b with
  |.map es=>some (es,[b])
  |_=>none
 |.fL es=>some (es,[])
 |.cQ=>some ([],[])
 |_=>none
theorem QdO{σ:List ab}{m:aa}{es:List (aa×aa)}{rd:List Nat}(h:mapOf σ m=some (es,rd)):qK (hp σ) m es rd:=by
 unfold mapOf at h;split at h
 ·split at h
  ·rename_i hg;cases h;exact .own _ _ (Ia hg)
  ·cases h
 ·cases h;exact .row _
 ·cases h;exact .nil
 ·cases h
def Zo(xs:List aa)(σ:List ab):aA:=match xs with
  |[.bool true,x,_]=>.ok x [] []
  |[.bool false,_,y]=>.ok y [] []
  |_=>.stop
def Qh(sz:Nat)(xs:List aa)(σ:List ab):aA:=match xs with
  | [.aU e n s rows,.int _ (.ofNat i)]=>bif IN s sz then (match nth rows i with
   |some row=>.ok (.aq row 0) [] []
   | none=>.stop)else .stop
  | [.sl b o len _,.int _ (.ofNat i)]=>bif zAi i len then (match aj σ b with
   |.rows s _=>bif IN s sz then .ok (.ptr b (o+i) 0) [b] []else .stop
   | _=>.stop)else .stop
  |_=>.stop
def YP(xs:List aa)(σ:List ab):aA:=match xs with
  |[.str s,.int _ (.ofNat i)]=>match nth s i with
   |some c=>.ok (.int .u8 c.toNat) [] []
   |none=>.stop
  |_=>.stop
def Qe(agg:Bool)(n:Nat)(xs:List aa)(σ:List ab):aA:=match xs with
  |[.ptr b i j]=>match aj σ b with
   |.rows _ rs=>match nth rs i with
    |some row=>match aK agg j n row with
     |some v=>.ok v [b] []
     |none=>.stop
    |none=>.stop
   |_=>.stop
  |xs=>rQ (.load agg n) xs σ
def Yj(n:Nat)(xs:List aa)(σ:List ab):aA:=match xs with
  |[.ptr b i j,x]=>match aj σ b with
   |.rows sz rs=>match nth rs i with
    |some row=>match cellsOf x with
     | some cs=>bif IN cs.length n then (match cc j cs row with
      |some row'=>match QF i row' rs with
       |some rs'=>.ok .aQ [] [(b,.rows sz rs')]
       |none=>.stop
      | none=>.stop)else .stop
     |none=>.stop
    |none=>.stop
   |_=>.stop
  |xs=>rQ (.store n) xs σ
def Xy(sz:Nat)(xs:List aa)(σ:List ab):aA:=match xs with
  |[.aU e n s rows,.int _ (.ofNat i)]=>bif IN s sz&&zAP i rows.length then .ok (.aU e n sz (cut i rows.length rows)) [] []else .stop
  |[.sl b off len e,.int _ (.ofNat i)]=>match aj σ b with
   |.rows s _=>bif IN s sz then (bif zAi i len then .ok (.sl b (off+i) (len-i) e) [b] []else bif IN i len then (bif IN sz 3 then .ok (.sl b (off+len) 0 e) [b] []else .ok (.aU false (zAi 0 len) sz []) [] [])else .stop)else .stop
   |_=>.stop
  |[.an,.int _ (.ofNat 0)]=>.ok .an [] []
  |_=>.stop
def ZJ(sz:Nat)(xs:List aa)(σ:List ab):aA:=match xs with
  |[.aU e n s rows,.int _ (.ofNat i)]=>bif IN s sz&&zAP i rows.length then .ok (.aU false n sz (cut 0 i rows)) [] []else .stop
  |[.sl b off len e,.int _ (.ofNat i)]=>match aj σ b with
   |.rows s _=>bif IN s sz&&zAP i len then .ok (.sl b off i false) [b] []else .stop
   |_=>.stop
  |[.an,.int _ (.ofNat 0)]=>.ok .an [] []
  |_=>.stop
def ZN(sz:Nat)(xs:List aa)(σ:List ab):aA:=match xs with
  |[.aU e n s rows,.int _ (.ofNat i),.int _ (.ofNat j)]=>bif IN s sz&&(zAP i j&&zAP j rows.length)then .ok (.aU false n sz (cut i j rows)) [] []else .stop
  |[.sl b off len e,.int _ (.ofNat i),.int _ (.ofNat j)]=>match aj σ b with
   |.rows s rs=>bif IN s sz&&((zAi i j||IN i 0)&&(zAP j len||(!(IN sz 0)&&zAP (off+j) rs.length)))then .ok (.sl b (off+i) (j-i) false) [b] []else .stop
   |_=>.stop
  |_=>.stop
def YE(xs:List aa)(σ:List ab):aA:=match xs with
  |[.str s,.int _ (.ofNat i),.int _ (.ofNat j)]=>bif zAP i j&&zAP j s.length then .ok (.str ((s.take j).drop i)) [] []else .stop
  |_=>.stop
def QB(xs:List aa)(σ:List ab):aA:=match xs with
  |[.str s,.int _ (.ofNat i)]=>bif zAP i s.length then .ok (.str (s.drop i)) [] []else .stop
  |_=>.stop
def ZC(xs:List aa)(σ:List ab):aA:=match xs with
  |[.str s,.int _ (.ofNat i)]=>bif zAP i s.length then .ok (.str (s.take i)) [] []else .stop
  |_=>.stop
def P6(n:Nat)(by_:Nat)(z:List aa)(xs:List aa)(σ:List ab):aA:=match xs with
  |[.int _ (.ofNat len)]=>bif zAP (by_*len) (2 ^ 48)&&zAi len (2 ^ 62)then .ok (.sl σ.length 0 len true) [] [(σ.length,.rows n (zAd len z))]else .stop
  |_=>.stop
def XD(n by_:Nat)(σ:List ab)(rs:List (List aa))(kill:List (Nat×ab))(y:aa):aA:=match Xk n σ y with
 |some (ys,rd)=>bif aW ys&&zAP ((2*(rs.length+ys.length)+192)*by_) (2 ^ 48)then
   .ok (.sl σ.length 0 (rs.length+ys.length) false) rd (kill++[(σ.length,.rows n (rs++ys))])else .stop
 |none=>.stop
def Gk(n by_:Nat)(σ:List ab)(b off len:Nat)(rs:List (List aa))(y:aa):aA:=match Xk n σ y with
 | some (ys,rd)=>bif aW ys then (bif zAP (off + len + ys.length) rs.length then .ok (.sl b off (len + ys.length) false) rd [(b,.rows n (over (off + len) ys rs))]
   else bif IN off 0&&(zAP len rs.length&&(!(rd.contains b)&&zAP ((2*(len+ys.length)+192)*by_) (2 ^ 48)))then
    .ok (.sl σ.length 0 (len + ys.length) false) rd [(b,.dead),(σ.length,.rows n (rs.take len ++ ys))]else .stop)else .stop
 |none=>.stop
def AJ(n by_:Nat)(σ:List ab)(b len:Nat)(rs:List (List aa))(y:aa):aA:=match Xk n σ y with
 | some (ys,rd)=>bif aW ys && zAP ((2 * (len + ys.length) + 192) * by_) (2 ^ 48)then (bif zAP (len + ys.length) rs.length then .ok (.sl b 0 (len + ys.length) false) rd [(b,.full n (over len ys rs))]
   else bif zAP len rs.length then .ok (.sl σ.length 0 (len + ys.length) false) (b :: rd) [(σ.length,.rows n (rs.take len ++ ys))]else .stop)else .stop
 |none=>.stop
def yO:List (List aa)→Bool
 |[]=>true
 |r::rs=>ga r&&yO rs
theorem ZbI:∀ {rs:List (List aa)},yO rs=true→∀(i:Nat) (row:List aa),rs[i]?=some row→∀(j:Nat) (x:aa),row[j]?=some x→x.ro=true
 |r::rs,h,0,row,e,j,x,ex=>by
  simp at e;subst e;simp only[yO,AI]at h;have:∀(l:List aa),ga l=true→∀(j:Nat) (x:aa),l[j]?=some x→x.ro=true:=by
   intro l
   induction l<;>grind [ga]
  exact this _ h.1 j x ex
 |r::rs,h,i+1,row,e,j,x,ex=>by
  simp only[yO,AI]at h;exact ZbI h.2 i row (by simpa using e) j x ex
theorem Zbw{P:Program}{GL:ar}(n by_:Nat)(z:List aa)(nn:Bool)(y:aa)(rs ys:List (List aa))(rd:List Nat)(h0:Hp)(sv:fF h0 n y ys rd)(kY:yO (rs++ys)=true)(bM:(2*(rs.length+ys.length)+192)*by_<=2 ^ 48) :
  aD P GL (.append n by_ z) [.aU true nn n rs,y] h0 (.aU false false n (rs++ys)) rd []:=by
 intro o os hc w0 L g h w a r hx dc _;generalize ho:o.op=op at hc;cases hc with
 |append t t' e ox oy _ _ v _ ht zU eL sk hz rG dJ ln kI=>
  obtain⟨d,hd,pH⟩:=zU;obtain⟨d1,d2,_⟩:=hx;generalize jT:a.eval ox=u1 at d1;generalize qg:a.eval oy=u2 at d2;obtain⟨p1,nf,nD,e1,f1,B4,_⟩:=XK (P:=P) (h0:=h0) r.drew (.row true nn rs) (λb hb=>by cases hb) d1;obtain⟨p2,zl,newv,e2,f2,qo,_⟩:=XK (P:=P) r sv dc d2;obtain⟨p2',Bc,mZ,Jv,JA,rV,_⟩:=XK (P:=P) r.drew sv dc d2;have fH:(zCK u2).run P w=.ok ys.length w:=by rw[e2];rfl
  have pg:nf=rs.length:=by
   rw[e1]at d1;cases d1<;>simp_all
  subst pg;by_cases rH:ys=[]
  ·subst rH;have zP:newv.toList=[]:=by have:=qo.1;simp at this;simp[this]
   have ba:(zBE #[t,t'] o.type #[.slice p1 rs.length rs.length,u2]).run P w=.ok (.slice p1 rs.length rs.length) w:=by
    obtain⟨k1,k2⟩:=(ZI ht hd pH eL sk hz ln (base:=p1) (len:=rs.length) (cap:=rs.length) (newv:=newv) fH o.type).1 (by simp) f2;cases p1 with
    |none=>exact k1 rfl
    |some ad=>exact k2 ad w rfl (by rw[zP];rfl)
   rw[QH ho (by rw[jT];exact e1) qg ba];refine Out.here r ?_;rw[List.append_nil,←e1];cases d1 with
   |aU _ _ _ _ _ a' cap blk off f q1 q2 q3 q4 q5 q6 q7 q8=>exact .aU _ _ _ _ _ a' cap blk off f (λh=>by cases h) (λh=>by cases h) q3 q4 q5 q6 q7 q8
  ·have qd:0<ys.length:=List.length_pos_iff.2 rH;obtain⟨nc,wP,ba⟩:=(ZI ht hd pH eL sk hz ln (base:=p1) (len:=rs.length) (cap:=rs.length) (newv:=mZ) fH o.type).2 (by omega) bM nD (by rw[←e1];exact f1) JA;rw[QH ho (by rw[jT];exact e1) qg ba];obtain⟨q1,q2⟩:=Sk (c:=zAx v.cells (nc-(rs.length+ys.length))) B4 rV;generalize oq:nD++mZ++zAx v.cells (nc-(rs.length+ys.length))=arr at q2;have KQ:(rs++ys).length*n<=arr.size:=by
    rw[←oq];simp only[Array.size_append,B4.1,rV.1,By,zBX];omega
   obtain⟨hle,zQ⟩:=r.drew.vI (.cells arr e);refine⟨_,hle,zQ,?_⟩;have hl:rs.length+ys.length=(rs++ys).length:=(By).symm;rw[hl];refine .aU _ _ _ _ _ _ nc w.heap.size 0 (λi j=>(arr[i*n+j]?).getD undef) (λh=>by cases h) (λh=>by cases h) (λ_=>rfl) (λh=>by cases h) (by rw[←hl];exact wP) q1 (λi j hi hj=>?_) (λi row j x Tt Jv=>?_)
   ·have b_:i*n+j<arr.size:=by
     have:(i+1)*n<=(rs++ys).length*n:=zAE n hi;rw[zBP]at this;omega
    rw[No];unfold iL;have:nI g.M w.drew.heap.size (.cells arr e) w.heap.size=some (.cells arr e):=by simp[nI]
    grind
   ·have hi:i<(rs++ys).length:=(gK Tt).1;have hj:j<n:=by grind
    have b_:i*n+j<arr.size:=by
     have:(i+1)*n<=(rs++ys).length*n:=zAE n hi;rw[zBP]at this;omega
    have hdn:=q2 i row j x arr[i*n+j] Tt Jv (by simp[b_]);have:(arr[i*n+j]?).getD undef=arr[i*n+j]:=by simp[b_]
    show Den _ _ x ((arr[i*n+j]?).getD undef);rw[this];exact(Den.mono hle.m hdn (gH.refl _)).ro (ZbI kY i row Tt j x Jv) _
def Qf(n:Nat)(by_:Nat)(xs:List aa)(σ:List ab):aA:=match xs with
  |[.aU true false s rs,y]=>match Xk n σ y with
   |some (ys,rd)=>bif IN s n&&(yO (rs++ys)&&zAP ((2*(rs.length+ys.length)+192)*by_) (2 ^ 48))then .ok (.aU false false n (rs++ys)) rd []else .stop
   |none=>.stop
  |[x,y]=>match yX x with
   |.an=>XD n by_ σ [] [] y
   |.cS=>match Xk n σ y with
    |some ([],rd)=>bif HQ x then .ok x rd []else .stop
    |_=>XD n by_ σ [] [] y
   |.sl b off len _=>match aj σ b with
    |.rows s rs=>bif IN s n then (bif IN rs.length (len+off)then XD n by_ σ (rs.drop off) [(b,.dead)] y else Gk n by_ σ b off len rs y)else .stop
    |.full s rs=>bif IN s n&&IN off 0 then AJ n by_ σ b len rs y else .stop
    |_=>.stop
   |x=>match Xk n σ y with
    |some ([],rd)=>bif HQ x then .ok x rd []else .stop
    |_=>.stop
  |_=>.stop
def X4(n:Nat)(z:List aa)(xs:List aa)(σ:List ab):aA:=match xs with
  |[.sl b off len _]=>match aj σ b with
   |.rows s rs=>bif IN s n&&zAP (off+len) rs.length then .ok .aQ [] [(b,.rows n (over off (zAd len z) rs))]else .stop
   |_=>.stop
  |[.an]=>.ok .aQ [] []
  |[.cS]=>.ok .aQ [] []
  |[.aU _ _ _ []]=>.ok .aQ [] []
  |_=>.stop
def YJ(xs:List aa)(σ:List ab):aA:=match xs with
  |[.sl _ _ len _,.int _ (.ofNat i),.int _ (.ofNat j),.int _ (.ofNat m)]=>bif zAP i j&&(zAP j m&&zAP m len)then .ok .aQ [] []else .stop
  |_=>.stop
def QG(sz:Nat)(xs:List aa)(σ:List ab):aA:=match xs with
  | [x,.int _ (.ofNat i),.int _ (.ofNat j)]=>bif IN i 0 && IN j 0 then (bif HQ x then .ok .cS [] []else .stop)else (match x with
   |.aU _ nn s rows=>bif IN s sz&&(IN i j&&zAP i rows.length)then .ok (.aU true nn s (cut 0 i rows)) [] []else .stop
   | _=>.stop)
  |_=>.stop
def Yy(str:Bool)(ok:Bool)(z:aa)(xs:List aa)(σ:List ab):aA:=match xs with
  | [m,q]=>bif yP str q then (match mapOf σ m with
   |some (es,rd)=>match jq q es with
    |some r=>.ok (la ok z r) rd []
    |none=>.stop
   | none=>.stop)else .stop
  |_=>.stop
def XG(str:Bool)(xs:List aa)(σ:List ab):aA:=match xs with
  | [.map b,q,x]=>bif yP str q then (match aj σ b with
   |.map es=>match nS q x es with
    |some tS=>.ok .aQ [] [(b,.map tS)]
    |none=>.stop
   | _=>.stop)else .stop
  |_=>.stop
def Iz(xs:List aa)(σ:List ab):aA:=match xs with
  |[.iter b]=>match aj σ b with
   |.fw s pos=>bif zAi pos s.length then .ok (.bp [.bool true,.int .i64 pos,.int .i32 (zBc ⟨s.toArray⟩ pos).1]) [] [(b,.fw s (pos+(zBc ⟨s.toArray⟩ pos).2))]
    else .ok (.bp [.bool false]) [b] []
   |_=>.stop
  |_=>.stop
def eW(k:MK)(xs:List aa)(σ:List ab):aA:=
 match k with
 |.pick=>Zo xs σ
 |.fI sz=>Qh sz xs σ
 |.ly=>YP xs σ
 |.load agg n=>Qe agg n xs σ
 |.store n=>Yj n xs σ
 |.cJ sz true false false=>Xy sz xs σ
 |.cJ sz false true false=>ZJ sz xs σ
 |.cJ sz true true false=>ZN sz xs σ
 |.cJ _ true true true=>YJ xs σ
 |.cJ sz false true true=>QG sz xs σ
 |.iI n z=>X4 n z xs σ
 |.ff true true=>YE xs σ
 |.ff true false=>QB xs σ
 |.ff false true=>ZC xs σ
 |.rO n by_ z=>P6 n by_ z xs σ
 |.append n by_ _=>Qf n by_ xs σ
 |.lookup str ok z=>Yy str ok z xs σ
 |.lz str=>XG str xs σ
 |.next=>Iz xs σ
 |k=>rQ k xs σ
theorem YbJ{α:Type}:∀ {l l':List α} {i:Nat} {c:α},QF i c l=some l'→l'=l.set i c
 |[],_,_,_,h=>by simp[QF]at h
 |x::l,l',0,c,h=>by simp[QF]at h;subst h;rfl
 |x::l,l',i+1,c,h=>by
  simp only[QF]at h;cases e:QF i c l with
  |none=>simp[e]at h
  |some r=>simp[e]at h;subst h;rw[YbJ e];rfl
theorem ZH{σ:List ab}{b sz:Nat}{rs:List (List aa)}(h:aj σ b=.rows sz rs):hp σ b=some (.rows sz rs):=Q6 h (by simp)
theorem Sg{P:Program}{GL:ar}{n by_:Nat}{z:List aa}{σ:List ab}{x:aa}{rs:List (List aa)}{kill:List (Nat×ab)}{y v:aa}{rd:List Nat}{up:List (Nat×ab)}(hx:mR (hp σ) n x rs kill)(h:XD n by_ σ rs kill y=.ok v rd up):aD P GL (.append n by_ z) [x,y] (hp σ) v rd up:=by
 unfold XD at h;split at h
 ·rename_i hy
  replace h:=Xh h;obtain⟨hs,h⟩:=h
  simp only[AI]at hs
  grind [ZbJ,yd,QR,QV,ik]
 ·cases h
theorem Xc4{P:Program}{GL:ar}{n by_:Nat}{z:List aa}{σ:List ab}{b off len:Nat}{ex:Bool}{rs:List (List aa)}{y v:aa}{rd:List Nat}{up:List (Nat×ab)}(hb:hp σ b=some (.rows n rs))(h:Gk n by_ σ b off len rs y=.ok v rd up):aD P GL (.append n by_ z) [.sl b off len ex,y] (hp σ) v rd up:=by
 unfold Gk at h;split at h
 ·rename_i hy
  replace h:=Xh h;obtain⟨hc,h⟩:=h
  replace h:=XP h
  rcases h with ⟨hs,h⟩|⟨_,h⟩
  ·grind [YaR,QR,QV,ik]
  ·replace h:=Xh h;obtain⟨hs,h⟩:=h
   simp only[AI,zAf]at hs
   grind [fV,Qbv,yd,ik,QR,QV]
 ·cases h
theorem YcM{P:Program}{GL:ar}{n by_:Nat}{z:List aa}{σ:List ab}{b len:Nat}{ex:Bool}{rs:List (List aa)}{y v:aa}{rd:List Nat}{up:List (Nat×ab)}(hb:hp σ b=some (.full n rs))(h:AJ n by_ σ b len rs y=.ok v rd up):aD P GL (.append n by_ z) [.sl b 0 len ex,y] (hp σ) v rd up:=by
 unfold AJ at h;split at h
 ·rename_i ys lf hy
  replace h:=Xh h;obtain⟨hc,h⟩:=h
  simp only[AI]at hc
  replace h:=XP h
  rcases h with ⟨hs,h⟩|⟨hs,h⟩
  ·cases h;exact Xbp n by_ z y b len ex rs ys _ _ hb (QR hy) (QV hc.1) (ik hs)
  ·replace h:=Xh h;obtain⟨hl,h⟩:=h
   cases h;have hq:¬len+ys.length<=rs.length:=λq=>by rw[sh q]at hs;cases hs
   exact Qbp n by_ z y b len ex rs ys _ _ _ (yd σ) hb (QR hy) (QV hc.1) (ik hl) (Nat.lt_of_not_le hq) (ik hc.2)
 ·cases h
theorem Ycj{P:Program}{GL:ar}{n by_:Nat}{z:List aa}{xs:List aa}{σ:List ab}{v:aa}{rd:List Nat}{up:List (Nat×ab)}(h:Qf n by_ xs σ=.ok v rd up):aD P GL (.append n by_ z) xs (hp σ) v rd up:=by
 unfold Qf at h;split at h
 ·split at h
  ·rename_i hy
   replace h:=Xh h;obtain⟨hs,h⟩:=h
   simp only[AI]at hs
   grind [fV,Zbw,QR,ik]
  ·cases h
 ·rename_i x y _;split at h
  ·rename_i hx;refine aD.dY (XW x) ?_;rw[hx];exact Sg .an h
  ·rename_i hx;split at h
   ·rename_i hy
    replace h:=Xh h;grind [Yav,Si,QR]
   ·refine aD.dY (XW x) ?_;rw[hx];exact Sg .cS h
  ·rename_i b off len ex hx;refine aD.dY (XW x) ?_;rw[hx];split at h
   ·rename_i s rs hg
    replace h:=Xh h;obtain⟨hs,h⟩:=h
    have:=fV hs;subst this
    replace h:=XP h
    rcases h with ⟨hq,h⟩|⟨_,h⟩
    ·exact Sg (.own _ _ _ _ _ (ZH hg) ((fV hq).trans (zDu _ _))) h
    ·exact Xc4 (ZH hg) h
   ·rename_i s rs hg
    replace h:=Xh h;obtain⟨hs,h⟩:=h
    simp only[AI]at hs;have h1:=fV hs.1;have h2:=fV hs.2;subst h1;subst h2;exact YcM (Q6 hg (by simp)) h
   ·cases h
  ·refine aD.dY (XW x) ?_;split at h
   ·rename_i hy
    replace h:=Xh h;grind [Yav,Si,QR]
   ·cases h
 ·cases h
theorem ZcN{P:Program}{GL:ar}{n:Nat}{z:List aa}{xs:List aa}{σ:List ab}{v:aa}{rd:List Nat}{up:List (Nat×ab)}(h:X4 n z xs σ=.ok v rd up):aD P GL (.iI n z) xs (hp σ) v rd up:=by
 unfold X4 at h;split at h
 ·split at h
  ·rename_i hg
   replace h:=Xh h;obtain⟨hs,h⟩:=h
   simp only[AI]at hs
   grind [fV,Xdt,ZH,ik]
  ·cases h
 ·cases h;exact Sj _ _ _ _ (.inl rfl)
 ·cases h;simp[Sj]
 ·cases h;simp[Sj]
 ·cases h
theorem QbZ{P:Program}{GL:ar}{n:Nat}{xs:List aa}{σ:List ab}{v:aa}{rd:List Nat}{up:List (Nat×ab)}(h:YJ xs σ=.ok v rd up):aD P GL (.cJ n true true true) xs (hp σ) v rd up:=by
 unfold YJ at h;split at h
 ·replace h:=Xh h;obtain⟨hs,h⟩:=h
  simp only[AI]at hs;cases h<;>simp_all [Xbq]
 ·cases h
theorem Zb0{P:Program}{GL:ar}{n:Nat}{xs:List aa}{σ:List ab}{v:aa}{rd:List Nat}{up:List (Nat×ab)}(h:QG n xs σ=.ok v rd up):aD P GL (.cJ n false true true) xs (hp σ) v rd up:=by
 unfold QG at h;split at h
 ·rename_i x k i k' j
  replace h:=XP h
  rcases h with ⟨hq,h⟩|⟨_,h⟩
  ·simp only[AI]at hq;have h1:=fV hq.1;have h2:=fV hq.2;subst h1;subst h2
   replace h:=Xh h;grind [Qbw,Si]
  ·split at h
   ·replace h:=Xh h;obtain⟨hs,h⟩:=h
    simp only[AI]at hs;have h1:=fV hs.1;have h2:=fV hs.2.1;subst h1;subst h2;cases h;exact Ybw _ _ _ _ _ _ (Int.ofNat i) (zAh _) (zBV.2 (ik hs.2.2)) _
   ·cases h
 ·cases h
theorem XJ{P:Program}{GL:ar}:Cj P GL eW:=by
 intro k xs σ v rd up h;unfold eW at h;simp only[Zo,Qh,YP,Qe,Yj,Xy,ZJ,ZN,YE,QB,ZC,P6,Yy,XG,Iz]at h;split at h
 ·split at h
  ·cases h;exact ZcW _ _ _
  ·cases h;exact YcW _ _ _
  ·cases h
 ·split at h
  ·replace h:=Xh h;obtain⟨hs,h⟩:=h
   have:=fV hs;subst this;split at h
   ·rename_i hn;cases h;rw[Y7]at hn;exact Qa3 _ _ _ _ _ _ _ (zAh _) hn _
   ·cases h
  ·replace h:=Xh h;obtain⟨b_,h⟩:=h
   split at h
   ·rename_i hg
    replace h:=Xh h;obtain⟨hs,h⟩:=h
    have:=fV hs;subst this;cases h;exact Xa3 _ _ _ _ _ _ _ _ (zAh _) (zDh.2 (ik b_)) _ (ZH hg)
   ·cases h
  ·cases h
 ·split at h
  ·split at h
   ·rename_i hn;cases h;rw[Y7]at hn;exact XcU _ _ _ _ (zAh _) hn _
   ·cases h
  ·cases h
 ·split at h
  ·split at h
   ·rename_i hg;split at h
    ·rename_i hn;split at h
     ·rename_i hv;cases h;rw[Y7]at hn;exact YbV _ _ _ _ _ _ _ _ _ _ (ZH hg) hn hv
     ·cases h
    ·cases h
   ·cases h
  ·exact Pj h
 ·split at h
  ·split at h
   ·rename_i hg;split at h
    ·rename_i hn;split at h
     ·rename_i hc
      replace h:=Xh h;obtain⟨hl,h⟩:=h
      split at h
      ·rename_i hs;split at h
       ·rename_i ir;cases h;rw[Y7]at hn;exact Zbx _ _ _ _ _ _ _ _ _ _ _ _ (ZH hg) hn hc (fV hl) hs (YbJ ir)
       ·cases h
      ·cases h
     ·cases h
    ·cases h
   ·cases h
  ·exact Pj h
 ·split at h
  ·replace h:=Xh h;obtain⟨hs,h⟩:=h
   simp only[AI]at hs;have:=fV hs.1;subst this;cases h;exact Zce _ _ _ _ _ _ (zAh _) (zBV.2 (ik hs.2)) _
  ·split at h
   ·rename_i hg
    replace h:=Xh h;obtain⟨hs,h⟩:=h
    have:=fV hs;subst this
    replace h:=XP h;rcases h with ⟨b_,h⟩|⟨_,h⟩
    ·cases h;exact Ya4 _ _ _ _ _ _ _ _ (zAh _) (zDh.2 (ik b_)) _ (ZH hg)
    ·replace h:=Xh h;obtain⟨he,h⟩:=h
     have:=fV he;subst this
     replace h:=XP h;rcases h with ⟨h3,h⟩|⟨_,h⟩
     ·cases h;have:=fV h3;exact QaR _ _ _ _ _ _ _ _ rfl (by omega) _ (ZH hg)
     ·cases h;exact ZaX _ _ _ _ _ _ _ rfl _
   ·cases h
  ·cases h;exact QaW _ _ _
  ·cases h
 ·split at h
  ·replace h:=Xh h;obtain⟨hs,h⟩:=h
   simp only[AI]at hs;have:=fV hs.1;subst this;cases h;exact Qcd _ _ _ _ _ _ (zAh _) (zBV.2 (ik hs.2)) _
  ·split at h
   ·rename_i hg
    replace h:=Xh h;obtain⟨hs,h⟩:=h
    simp only[AI]at hs;have:=fV hs.1;subst this;cases h;exact Za4 _ _ _ _ _ _ _ _ (zAh _) (zBV.2 (ik hs.2)) _ (ZH hg)
   ·cases h
  ·cases h;exact XaW _ _ _
  ·cases h
 ·split at h
  ·replace h:=Xh h;obtain⟨hs,h⟩:=h
   simp only[AI]at hs;have:=fV hs.1;subst this;cases h;exact Xbw _ _ _ _ _ _ _ _ (zAh _) (zBV.2 (ik hs.2.1)) (zBV.2 (ik hs.2.2)) _
  ·split at h
   ·rename_i hg
    replace h:=Xh h;obtain⟨hs,h⟩:=h
    simp only[AI,zBS]at hs;have:=fV hs.1;subst this;cases h;refine XaR _ _ _ _ _ _ _ _ _ _ (zAh _) ?_ ?_ _ (ZH hg)
    ·rcases hs.2.1 with q|q
     ·exact .inl (zDh.2 (ik q))
     ·have:=fV q;subst this;exact .inr ⟨rfl,zAh _⟩
    ·rcases hs.2.2 with q|q
     ·exact .inl (zBV.2 (ik q))
     ·simp only[AI,zAf]at q;exact .inr ⟨(λe0=>by rw[e0]at q;cases q.1),ik q.2⟩
   ·cases h
  ·cases h
 ·exact QbZ h
 ·exact Zb0 h
 ·exact ZcN h
 ·split at h
  ·replace h:=Xh h;obtain⟨hs,h⟩:=h
   simp only[AI]at hs;cases h;exact Xcd _ _ _ _ _ (zAh _) (zBV.2 (ik hs.1)) (zBV.2 (ik hs.2)) _
  ·cases h
 ·split at h
  ·replace h:=Xh h;obtain⟨hs,h⟩:=h
   cases h;exact Ybq _ _ _ (zAh _) (zBV.2 (ik hs)) _
  ·cases h
 ·split at h
  ·replace h:=Xh h;obtain⟨hs,h⟩:=h
   cases h;exact Zbq _ _ _ (zAh _) (zBV.2 (ik hs)) _
  ·cases h
 ·split at h
  ·replace h:=Xh h;obtain⟨hs,h⟩:=h
   simp only[AI]at hs;cases h;exact Ydu _ _ _ _ _ (ik hs.1) (ik hs.2) _ _ (yd σ)
  ·cases h
 ·exact Ycj h
 ·split at h
  ·replace h:=Xh h;obtain⟨hs,h⟩:=h
   split at h
   ·rename_i hm;split at h
    ·rename_i hl;cases h;exact YcV _ _ _ _ _ _ _ _ _ (QdO hm) (Wp hs) hl
    ·cases h
   ·cases h
  ·cases h
 ·split at h
  ·replace h:=Xh h;obtain⟨hs,h⟩:=h
   split at h
   ·rename_i hm;split at h
    ·rename_i hl;cases h;exact XcV _ _ _ _ _ _ _ (Ia hm) (Wp hs) hl
    ·cases h
   ·cases h
  ·cases h
 ·split at h
  ·split at h
   ·rename_i hg
    replace h:=XP h;rcases h with ⟨b_,h⟩|⟨b_,h⟩
    ·cases h;exact(WK _ _ _ _ (Q6 hg (by simp))).1 (ik b_)
    ·cases h;refine(WK _ _ _ _ (Q6 hg (by simp))).2 ?_;exact Nat.le_of_not_lt (λq=>by rw[show zAi _ _=true from sh q]at b_;cases b_)
   ·cases h
  ·cases h
 ·exact Pj h
def wR:List (Bool×Bool)→Bool
 |[]=>true
 |(true,true)::r=>wR r
 |(false,false)::r=>wR r
 |_=>false
def x_:Cons→Bool
 |[]=>true
 | (G,(x,y)) :: r=>(bif wR G then (match x,y with
  |true,true=>true
  |false,false=>true
  | _,_=>false)else gg G || false) && x_ r
where gg:List (Bool×Bool)→Bool
 |[]=>false
 |(true,false)::_=>true
 |(false,true)::_=>true
 |_::r=>gg r
theorem RB:∀ {c:List (Bool×Bool)},x_.gg c=true→¬eE c
 |[],h=>by simp[x_.gg]at h
 |(true,false)::r,h=>λq=>by have:=q _ (zBO ..);cases this
 |(false,true)::r,h=>λq=>by have:=q _ (zBO ..);cases this
 |(true,true)::r,h=>λq=>RB (c:=r) h (λp hp=>q p (zAn _ hp))
 |(false,false)::r,h=>λq=>RB (c:=r) h (λp hp=>q p (zAn _ hp))
theorem Yn{H:Prop}:∀(xs:List aa),lL (yT H) xs xs
 |[]=>trivial
 |x::xs=>⟨.inl rfl,Yn xs⟩
end Go.Ah
end
section
namespace Go.Ah
def Loc(P:Program)(GL:ar)(m:aM)(ρ:Frame)(h0:Hp)(v:aa)(rd:List Nat)(up:List (Nat×ab)):Prop:=
 ∀(n:Nat) (ops:Array Oper) (o:Oper),gf P GL n ops o m→∀(ρ':Frame) (h:Hp) (w0:World) (L:Ln) (g:Gm) (w:World) (a:Act),
  (∀t∈iQ m,bL ρ' t=bL ρ t)→(∀b∈rd,h b=h0 b)→(∀p∈up,h p.1=h0 p.1)→bx GL w0 L g h w→cR n g ρ' a →
  ∀(next:Act→World→Prop) (Q:Exit→Act→World→Prop),(∀g' w' u,g.Le g'→bx GL w0 L g' (cw h up) w'→cR n g' (cz m.dst v ρ') (a.put o.dst u)→next (a.put o.dst u) w') →
   if Region.wanted o (yielded ops a.tmps)then o.wp P a w next Q∨(o.asks P a w∧LetsOut Q)else next (a.put o.dst undef) w
section
variable {P:Program} {GL:ar}
theorem Rl{m:aM}{ρ ρ':Frame}(h:∀t∈iQ m,bL ρ' t=bL ρ t):m.xs.map (ev ρ')=m.xs.map (ev ρ):=by
 apply List.map_congr_left;intro x hx;cases x with
 |t n=>exact h n (zAI.2 (.inl (zCG.2 ⟨.t n,hx,rfl⟩)))
 |c v=>rfl
theorem HI{m:aM}{ρ ρ':Frame}(h:∀t∈iQ m,bL ρ' t=bL ρ t){cs:List (Bool×Bool)}(hg:dD ρ m.guard cs):dD ρ' m.guard cs:=by
 unfold iQ at h;generalize m.guard=gd at hg h;cases hg with
 |none=>exact .none
 |bool s w c e=>exact .bool s w c (by rw[h s (by simp)];exact e)
 |when s w c cs e=>exact .when s w c cs (by rw[h s (by simp)];exact e)
theorem Qco{m:aM}{ρ:Frame}{σ:List ab}{lg:Log}{K:Frame→List ab→Log→Prop}(s:eF true P GL m ρ σ lg K) :
  ∃v rd up σ',gp σ up=some σ'∧K (cz m.dst v ρ) σ' (lg++[(rd,up.map (·.1))])∧Loc P GL m ρ (hp σ) v rd up:=by
 cases s with
 |run cs ys v rd up σ' h1 h2 h3 h4 h5 h6=>
  refine⟨v,rd,up,σ',h5,h6,?_⟩;intro n ops o ok ρ' h w0 L g w a hu dc ei r d next Q hn;obtain⟨os,kV,uT⟩:=ok.op;have l_:=HH r d uT;rw[aJ ((Xt ok d (HI hu h1)).1 h2)];left;have c7:=Gt trivial h3 (by rw[←Rl hu];exact l_);have ho:=h4 o os kV w0 L g h w a r c7 dc ei;refine ho.upon (λg' u w' hle hr hu=>hn g' w' u hle hr ?_);rw[ok.dst];exact(d.mono hle).cz ok.lt hu
 |skip cs h1 h2 h3=>
  refine⟨.aQ,[],[],σ,rfl,h3,?_⟩;intro n ops o ok ρ' h w0 L g w a hu dc ei r d next Q hn;rw[aE (by grind [Xt,HI])];refine hn g w undef (Gm.Le.refl g) r ?_;rw[ok.dst];exact d.cz ok.lt (.aQ _ _)
 |lazy cs ys v rd h1 h2 h3 h4=>
  refine⟨.when cs v,rd,[],σ,rfl,h4,?_⟩;intro n ops o ok ρ' h w0 L g w a hu dc ei r d next Q hn;obtain⟨os,kV,uT⟩:=ok.op;have l_:=HH r d uT;by_cases hh:eE cs
  ·rw[aJ ((Xt ok d (HI hu h1)).1 hh)];left;have c7:=Gt hh h2 (by rw[←Rl hu];exact l_);have ho:=h3 hh o os kV w0 L g h w a r c7 dc ei;refine ho.upon (λg' u w' hle hr hu=>hn g' w' u hle hr ?_);rw[ok.dst];exact(d.mono hle).cz ok.lt (.when _ _ _ _ (λ_=>hu) (λh=>(h hh).elim))
  ·rw[aE (by grind [Xt,HI])];refine hn g w undef (Gm.Le.refl g) r ?_;rw[ok.dst];exact d.cz ok.lt (.when _ _ _ _ (λh=>(hh h).elim) (λ_=>rfl))
 |pick cs x y z c p q v h1 hk zY hx hy hz hv h8=>
  refine⟨v,[],[],σ,rfl,h8,?_⟩;intro n ops o ok ρ' h w0 L g w a hu dc ei r d next Q hn;obtain⟨os,kV,uT⟩:=ok.op;have l_:=HH r d uT;rw[Rl hu,zY]at l_;have uG:=HI hu h1;have lp:=kV;rw[hk]at lp;generalize hY:o.op=op at lp;cases lp with
  |pick oc oa ob=>
   obtain⟨d1,d2,d3,_⟩:=l_;by_cases hh:eE cs
   ·rw[aJ ((Xt ok d uG).1 hh)];left;have e1:=ZD (Ck hh hx d1);have nB:g.den (.bool (bif c then p else q)) (if c then a.eval oa else a.eval ob):=by
     cases c
     ·exact Ck ⟨hh,rfl⟩ hz d3
     ·exact Ck ⟨hh,rfl⟩ hy d2
    have ba:(execOp a.eval o).run P w=.ok (.value (if c then a.eval oa else a.eval ob)) w:=by
     simp_all [execOp,asBool]
    unfold Oper.wp;rw[ba];refine hn g _ _ (Gm.Le.refl g) r ?_;rw[ok.dst];rcases hv with rfl|⟨rfl,rfl⟩
    ·exact d.cz ok.lt (.when _ _ _ _ (λ_=>nB) (λh=>(h hh).elim))
    ·exact d.cz ok.lt nB
   ·rw[aE (by rw[(Xt ok d uG).2 hh];simp)];refine hn g _ _ (Gm.Le.refl g) r ?_;rw[ok.dst];rcases hv with rfl|⟨rfl,rfl⟩
    ·exact d.cz ok.lt (.when _ _ _ _ (λh=>(hh h).elim) (λ_=>rfl))
    ·exact(hh (by simp[eE])).elim
 |rel cs ys R h0=>cases h0
structure TS where
 v:aa
 rd:List Nat
 up:List (Nat×ab)
def Tr(P:Program)(GL:ar):List aM→List TS→Frame→List ab→Log→(Frame→List ab→Log→Prop)→Prop
 |[],[],ρ,σ,lg,Q=>Q ρ σ lg
 |m::ms,t::ts,ρ,σ,lg,Q=>Loc P GL m ρ (hp σ) t.v t.rd t.up∧∃σ',gp σ t.up=some σ'∧Tr P GL ms ts (cz m.dst t.v ρ) σ' (lg++[(t.rd,t.up.map (·.1))]) Q
 |_,_,_,_,_,_=>False
theorem PI:∀(ms:List aM) (ρ:Frame) (σ:List ab) (lg:Log) (Q:Frame→List ab→Log→Prop),iU true P GL ms ρ σ lg Q→∃ts,Tr P GL ms ts ρ σ lg Q
 |[],ρ,σ,lg,Q,h=>⟨[],h⟩
 |m::ms,ρ,σ,lg,Q,h=>by
  obtain⟨v,rd,up,σ',h1,h2,h3⟩:=Qco h;obtain⟨ts,ht⟩:=PI ms _ _ _ Q h2;exact⟨⟨v,rd,up⟩::ts,h3,σ',h1,ht⟩
def kM(S:Nat→Bool):Nat→List aM→List TS→Frame→Frame
 |i,m::ms,t::ts,ρ=>kM S (i+1) ms ts (if S i then cz m.dst t.v ρ else ρ)
 |_,_,_,ρ=>ρ
def jE(S:Nat→Bool):Nat→List TS→Hp→Hp
 |i,t::ts,h=>jE S (i+1) ts (if S i then cw h t.up else h)
 |_,_,h=>h
theorem QX{S S':Nat→Bool}{t:Nat}:∀(ms:List aM) (ts:List TS) (i:Nat) (ρ ρ':Frame),(∀(k:Nat) (m:aM),ms[k]?=some m→m.dst=some t→S (i+k)=S' (i+k))→bL ρ t=bL ρ' t→bL (kM S i ms ts ρ) t=bL (kM S' i ms ts ρ') t
 |[],_,_,_,_,_,h=>by simpa[kM]using h
 |_::_,[],_,_,_,_,h=>by simpa[kM]using h
 |m::ms,x::ts,i,ρ,ρ',hs,h=>by
  simp only[kM];refine QX ms ts (i+1) _ _ (λk m' e1 e2=>by have:=hs (k+1) m' (by simpa using e1) e2;grind) ?_;by_cases hd:m.dst=some t
  ·have:=hs 0 m rfl hd;rw[zBj]at this
   grind [X6]
  ·have e1:∀(b:Bool) (r:Frame),bL (if b then cz m.dst x.v r else r) t=bL r t:=by simp_all [X6]
   rw[e1,e1,h]
theorem Sq:∀(up:List (Nat×ab)) (h h':Hp) (b:Nat),b∈up.map (·.1)→cw h up b=cw h' up b
 |[],_,_,_,e=>by cases e
 |(a,x)::up,h,h',b,e=>by
  by_cases hb:b∈up.map (·.1)
  ·exact Sq up _ _ b hb
  ·have:b=a:=by simp_all
   subst this;have out:∀(up:List (Nat×ab)) (h:Hp),b∉up.map (·.1)→cw h up b=h b:=by
    intro up
    induction up<;>simp_all [cw,Xp]
   simp_all [cw,Qr]
theorem MN:∀(up:List (Nat×ab)) (h:Hp) (b:Nat),b∉up.map (·.1)→cw h up b=h b
 |[],_,_,_=>rfl
 |(a,x)::up,h,b,hn=>by
  simp only[zAN,zAR,not_or]at hn;show cw (ei h a x) up b=h b;rw[MN up _ b hn.2,Xp _ _ hn.1]
theorem ZY{S S':Nat→Bool}{b:Nat}:∀(ts:List TS) (i:Nat) (h h':Hp),(∀(k:Nat) (t:TS),ts[k]?=some t→b∈t.up.map (·.1)→S (i+k)=S' (i+k))→h b=h' b→jE S i ts h b=jE S' i ts h' b
 |[],_,_,_,_,h=>by simpa[jE]using h
 |x::ts,i,h,h',hs,e=>by
  simp only[jE];refine ZY ts (i+1) _ _ (λk t e1 e2=>by have:=hs (k+1) t (by simpa using e1) e2;grind) ?_;by_cases hd:b∈x.up.map (·.1)
  ·have:=hs 0 x rfl hd;rw[zBj]at this
   grind [Sq]
  ·have e1:∀(c:Bool) (r:Hp),(if c then cw r x.up else r) b=r b:=by simp_all [MN]
   rw[e1,e1,e]
theorem Sp{S:Nat→Bool}{t:Nat}:∀(ms:List aM) (ts:List TS) (i:Nat) (ρ:Frame) (j:Nat) (m:aM) (x:TS),ms[j]?=some m→ts[j]?=some x→m.dst=some t→S (i+j)=true →
  (∀(k:Nat) (m':aM),ms[k]?=some m'→m'.dst=some t→S (i+k)=true→k<=j)→bL (kM S i ms ts ρ) t=x.v
 |m::ms,x::ts,i,ρ,0,m0,x0,e1,e2,e3,e4,hl=>by
  simp at e1 e2;subst e1 e2;rw[zBj]at e4;simp only[kM,e4,if_true];have:=QX (S:=S) (S':=λ_=>false) (t:=t) ms ts (i + 1) (cz m.dst x.v ρ) (cz m.dst x.v ρ) (λk m' q1 q2=>by
   cases hS:S (i+1+k)with
   |false=>rfl
   | true=>have:=hl (k + 1) m' (by simpa using q1) q2 (by grind);omega) rfl
  rw[this];have gP:∀(ms:List aM) (ts:List TS) (i:Nat) (ρ:Frame),kM (λ_=>false) i ms ts ρ=ρ:=by
   intro ms
   induction ms with
   |nil=>intros;simp[kM]
   |cons m ms ih=>intro ts i ρ;cases ts<;>simp_all [kM]
  rw[gP,X6,aJ e3]
 |m::ms,x::ts,i,ρ,j+1,m0,x0,e1,e2,e3,e4,hl=>by
  simp only[kM];exact Sp ms ts (i + 1) _ j m0 x0 (by simpa using e1) (by simpa using e2) e3 (by rwa [show i + 1 + j=i + (j + 1) by omega]) (λk m' q1 q2 q3=>by
   have:=hl (k + 1) m' (by simpa using q1) q2 (by rwa [show i + (k + 1)=i + 1 + k by omega]);omega)
 |[],_,_,_,_,_,_,e1,_,_,_,_=>by simp at e1
 |_::_,[],_,_,_,_,_,_,e2,_,_,_=>by simp at e2
theorem Px{S:Nat→Bool}{b:Nat}:∀(ts:List TS) (i:Nat) (h:Hp) (j:Nat) (x:TS),ts[j]?=some x→b∈x.up.map (·.1)→S (i+j)=true →
  (∀(k:Nat) (x':TS),ts[k]?=some x'→b∈x'.up.map (·.1)→S (i+k)=true→k<=j)→∀h':Hp,jE S i ts h b=cw h' x.up b
 |x::ts,i,h,0,x0,e2,e3,e4,hl,h'=>by
  simp at e2;subst e2;rw[zBj]at e4;simp only[jE,e4,if_true];have:=ZY (S:=S) (S':=λ_=>false) (b:=b) ts (i + 1) (cw h x.up) (cw h' x.up) (λk m' q1 q2=>by
   cases hS:S (i+1+k)with
   |false=>rfl
   | true=>have:=hl (k + 1) m' (by simpa using q1) q2 (by grind);omega) (Sq _ _ _ _ e3)
  rw[this];have gP:∀(ts:List TS) (i:Nat) (h:Hp),jE (λ_=>false) i ts h=h:=by
   intro ts
   induction ts<;>grind [jE]
  rw[gP]
 |x::ts,i,h,j+1,x0,e2,e3,e4,hl,h'=>by
  simp only[jE];exact Px ts (i + 1) _ j x0 (by simpa using e2) e3 (by rwa [show i + 1 + j=i + (j + 1) by omega]) (λk m' q1 q2 q3=>by
   have:=hl (k + 1) m' (by simpa using q1) q2 (by rwa [show i + (k + 1)=i + 1 + k by omega]);omega) h'
 |[],_,_,_,_,e2,_,_,_,_=>by simp at e2
theorem HX:∀(ms:List aM) (ts:List TS) (i:Nat) (ρ:Frame) (σ:List ab) (lg:Log) (Q:Frame→List ab→Log→Prop),Tr P GL ms ts ρ σ lg Q →
  ts.length=ms.length ∧
  (∀(j:Nat) (m:aM) (x:TS),ms[j]?=some m→ts[j]?=some x→∃ρ',(∀t,bL ρ' t=bL (kM (λk=>decide (k<i+j)) i ms ts ρ) t)∧Loc P GL m ρ' (jE (λk=>decide (k<i+j)) i ts (hp σ)) x.v x.rd x.up) ∧
  ∃ρ' σ',(∀t,bL ρ' t=bL (kM (λ_=>true) i ms ts ρ) t)∧hp σ'=jE (λ_=>true) i ts (hp σ)∧Q ρ' σ' (lg++ts.map λx=>(x.rd,x.up.map (·.1)))
 |[],[],i,ρ,σ,lg,Q,h=>⟨rfl,by simp,ρ,σ,by simp[kM],by simp[jE],by simpa[Tr]using h⟩
 |[],_::_,_,_,_,_,_,h=>h.elim
 |_::_,[],_,_,_,_,_,h=>h.elim
 |m::ms,x::ts,i,ρ,σ,lg,Q,h=>by
  obtain⟨h1,σ',h2,h3⟩:=h;obtain⟨k1,k2,ρ2,σ2,k3,k4,k5⟩:=HX ms ts (i+1) _ _ _ _ h3;have hu:=Ht _ _ _ h2;refine⟨by simp[k1],λj m' x' e1 e2=>?_,ρ2,σ2,λt=>by rw[k3 t];simp[kM],by simp_all [jE],by simpa[zAa]using k5⟩;cases j with
  |zero=>
   simp at e1 e2;subst e1 e2;have hf:∀t,bL ρ t=bL (kM (λk=>decide (k<i+0)) i (m::ms) (x::ts) ρ) t:=by
    intro t;have:=QX (S:=λk=>decide (k<i+0)) (S':=λ_=>false) (t:=t) (m::ms) (x::ts) i ρ ρ (λk _ _ _=>by simp) rfl;rw[this];have gP:∀(ms:List aM) (ts:List TS) (i:Nat) (ρ:Frame),kM (λ_=>false) i ms ts ρ=ρ:=by
     intro ms
     induction ms with
     |nil=>intros;simp[kM]
     |cons m ms ih=>intro ts i ρ;cases ts<;>simp_all [kM]
    rw[gP]
   have hh:jE (λk=>decide (k<i+0)) i (x::ts) (hp σ)=hp σ:=by
    funext b
    have:=ZY (S:=λk=>decide (k<i+0)) (S':=λ_=>false) (b:=b) (x::ts) i (hp σ) (hp σ) (λk _ _ _=>by simp) rfl;rw[this];have gP:∀(ts:List TS) (i:Nat) (h:Hp),jE (λ_=>false) i ts h=h:=by
     intro ts
     induction ts<;>simp_all [jE]
    rw[gP]
   grind
  |succ j=>
   grind [kM,jE]
end
end Go.Ah
end
section
namespace Go.Ah
theorem GJ:∀ {a b:List Nat},dZ a b=true→∀x,x∈a→x∉b
 |[],_,_,x,h=>by cases h
 |y::a,b,hd,x,h=>by
  simp only[dZ,AI,zAf]at hd;rcases zAR.1 h with rfl|h
  ·intro hb;have:=zBZ.2 hb;rw[hd.1]at this;cases this
  ·exact GJ hd.2 x h
theorem RE{h:List Nat}{q:List Nat×List Nat}:∀ {lg:Log} {i:Nat},Xn h q i lg=true→∀(k:Nat) (p:List Nat×List Nat),lg[k]?=some p→(i+k)∈h∨cf p q=true
 |[],_,_,_,_,e=>by simp at e
 |p::lg,i,hh,0,p',e=>by
  simp_all [Xn]
 |p::lg,i,hh,k+1,p',e=>by
  simp only[Xn,AI]at hh;have:=RE hh.2 k p' (by simpa using e)
  grind
def pA(S:Nat→Bool):Nat→Nat
 |0=>0
 |n+1=>pA S n+(if S n then 0 else 1)
theorem NJ{S:Nat→Bool}:∀ {n:Nat},pA S n=0→∀k,k<n→S k=true
 |0,_,k,h=>by omega
 |n+1,e,k,h=>by
  simp only[pA]at e;by_cases hk:k=n
  ·simp_all
  ·exact NJ (S:=S) (n:=n) (by omega) k (by omega)
theorem Xcy{S S':Nat→Bool}:∀ {n:Nat},(∀k,k<n→S' k=S k)→pA S' n=pA S n
 |0,_=>rfl
 |n+1,h=>by simp only[pA];rw[Xcy (λk hk=>h k (by omega)),h n (by omega)]
theorem Ny{S S':Nat→Bool}{j:Nat}:∀ {n:Nat},j<n→S j=false→S' j=true→(∀k,k<n→k≠j→S' k=S k)→pA S' n+1=pA S n
 |0,h,_,_,_=>by omega
 |n+1,h,h1,h2,h3=>by
  simp only[pA];by_cases hj:j=n
  ·grind [Xcy]
  ·have:=Ny (n:=n) (by omega) h1 h2 (λk hk cO=>h3 k (by omega) cO)
   grind
structure pq (ops:List Oper) (ms:List aM) (hd:List (List Nat)):Prop where
 len:ops.length=ms.length
 back:∀j,j<ms.length→∀i∈waits (ops.getD j default),i<j
 ahd:∀j,j<ms.length→∀i∈Zn hd j,i<j∧(i∈waits (ops.getD j default)∨∃k∈waits (ops.getD j default),i∈Zn hd k)
 m7:∀j,j<ms.length→∀i,i<j→i∈Zn hd j∨((∀t∈eJ (ms.getD i default),t∉iQ (ms.getD j default))∧(∀t∈eJ (ms.getD i default),t∉eJ (ms.getD j default))∧∀t∈iQ (ms.getD i default),t∉eJ (ms.getD j default))
theorem Q9{ops:List Oper}{ms:List aM}{hd:List (List Nat)}(h:yM ops ms hd=true):pq ops ms hd:=by
 unfold yM at h;simp only[AI,zAj,zBR,zBS,List.any_eq_true]at h;obtain⟨⟨⟨⟨h1,h2⟩,h3⟩,h4⟩,h5⟩:=h;refine⟨fV h1,λj hj i hi=>ik (h3 j hj i hi),λj hj i hi=>?_,λj hj i hi=>?_⟩
 ·simp_all
 grind [GJ]
section
variable {P:Program} {GL:ar}
theorem Hr{ops:List Oper}{ms:List aM}{hd:List (List Nat)}(D:pq ops ms hd){S:Nat→Bool}(hS:∀j,S j=true→j<ms.length∧∀i∈waits (ops.getD j default),S i=true) :
  ∀(j:Nat),j<ms.length→(∀i∈waits (ops.getD j default),S i=true)→∀i∈Zn hd j,S i=true:=by
 intro j
 induction j using zBv with
 |_ j ih=>
  intro hj hw i hi;rcases (D.ahd j hj i hi).2 with q|⟨k,q,q'⟩
  ·exact hw i q
  ·have hk:=hw k q;exact ih k (D.back j hj k q) (hS k hk).1 (hS k hk).2 i q'
theorem Gd{o:Oper}{i:Nat}:i∈waits o↔∃e∈o.after,Region.binds .any e=true∧e.on=i:=by
 grind [waits]
theorem YV(ops:Array Oper)(j:Nat){o:Oper}(h:ops[j]?=some o):ops.toList.getD j default=o:=by
 simp_all
theorem XcP{n:Nat}{ops:Array Oper}{ms:List aM}{hd:List (List Nat)}(eL:ops.size=ms.length)(bQ:∀(j:Nat) (m:aM),ms[j]?=some m→∃o,ops[j]?=some o∧gf P GL n ops o m)(eK:yM ops.toList ms hd=true)
 {ρ:Frame}{σ:List ab}{ts:List TS}{K:Frame→List ab→Log→Prop}(zV:Tr P GL ms ts ρ σ [] K)(CX:Zj hd (ts.map λx=>(x.rd,x.up.map (·.1)))=true)
 {w0:World}{L:Ln}{g:Gm}(Q:Exit→Act→World→Prop)(hQ:∀g' ρ' σ' a w,g.Le g'→bx GL w0 L g' (hp σ') w→cR n g' ρ' a→K ρ' σ' (ts.map λx=>(x.rd,x.up.map (·.1)))→Q .normal a w) :
  ∀(fuel:Nat) (listed:Array Bool) (a:Act) (w:World),listed.size=ms.length→(∀j,listed.getD j false=true→j<ms.length∧∀i∈waits (ops.toList.getD j default),listed.getD i false=true) →
   pA (λk=>listed.getD k false) ms.length<=fuel→(∃g' ρ',g.Le g'∧bx GL w0 L g' (jE (λk=>listed.getD k false) 0 ts (hp σ)) w∧cR n g' ρ' a∧∀t,bL ρ' t=bL (kM (λk=>listed.getD k false) 0 ms ts ρ) t) →
   wpAny P .any ops Q fuel listed a w:=by
 have D:=Q9 eK;obtain⟨hlen,qz,ρf,σf,uO,T_,wC⟩:=HX ms ts 0 ρ σ [] K zV;rw[zAM]at wC;have hA:∀j,j<ms.length→∀i,i<j→i∈Zn hd j∨cf (Qv (ts.map λx=>(x.rd,x.up.map (·.1))) i) (Qv (ts.map λx=>(x.rd,x.up.map (·.1))) j)=true:=by
  intro j hj i hi;unfold Zj at CX;simp only[zAj,zBR,zAH]at CX;have:=RE (CX j (by omega)) i (Qv (ts.map λx=>(x.rd,x.up.map (·.1))) i) (by
   grind [Qv])
  rwa [No]at this
 have p_:∀j x,ts[j]?=some x→Qv (ts.map λx=>(x.rd,x.up.map (·.1))) j=(x.rd,x.up.map (·.1)):=by
  simp_all [Qv]
 have fin:∀(listed:Array Bool) (a:Act) (w:World),(∀k,k<ms.length→listed.getD k false=true)→(∃g' ρ',g.Le g'∧bx GL w0 L g' (jE (λk=>listed.getD k false) 0 ts (hp σ)) w∧cR n g' ρ' a∧∀t,bL ρ' t=bL (kM (λk=>listed.getD k false) 0 ms ts ρ) t)→Q .normal a w:=by
  rintro listed a w iK ⟨g',ρ',h1,h2,h3,h4⟩;refine hQ g' ρf σf a w h1 ?_ ?_ wC
  ·rw[T_];have:jE (λk=>listed.getD k false) 0 ts (hp σ)=jE (λ_=>true) 0 ts (hp σ):=by
    funext b
    simp_all [ZY,List.getElem?_eq_some_iff]
   rw[←this];exact h2
  ·refine h3.dY (λt=>.inl ?_);rw[uO t,h4 t];refine QX _ _ _ _ _ (λk m e _=>?_) rfl
   grind
 have rdy:∀(listed:Array Bool),listed.size=ms.length→zBk .any ops listed=[]→∀k,k<ms.length→listed.getD k false=true:=by
  intro listed hs hr k
  induction k using zBv with
  |_ k ih=>
   intro hk;cases hl:listed.getD k false with
   |true=>rfl
   |false=>
    exfalso;have Kp:ops[k]?=some ops[k]:=by simp
    have:k∈zBk .any ops listed:=by
     rw[mem_ready];refine⟨?_,ops[k],Kp,λe he hb=>?_⟩
     ·simp_all
     ·have hw:e.on∈waits (ops.toList.getD k default):=by rw[YV ops k Kp,Gd];exact⟨e,he,hb,rfl⟩
      have b_:=D.back k hk _ hw;exact ih e.on b_ (by omega)
    rw[hr]at this;cases this
 intro fuel
 induction fuel with
 |zero=>
  intro listed a w hs hS hc ir;have iK:=NJ (zDp.1 hc);refine⟨?_,fin listed a w iK ir⟩;cases hr:zBk .any ops listed with
  |nil=>rfl
  |cons k r=>
   exfalso;have:k∈zBk .any ops listed:=by rw[hr];simp
   grind [mem_ready]
 |succ fuel ih=>
  intro listed a w hs hS hc ir;refine⟨λhr=>fin listed a w (rdy listed hs hr) ir,λj hj=>?_⟩;obtain⟨h1,o,ho,wA⟩:=mem_ready.1 hj;have ru:j<ms.length:=by grind
  have zw:listed.getD j false=false:=by
   grind
  have Dw:∀i∈waits (ops.toList.getD j default),listed.getD i false=true:=by
   intro i hi;rw[YV ops j ho,Gd]at hi
   grind
  have hhd:=Hr D (S:=λk=>listed.getD k false) hS j ru Dw;have wN:ms[j]?=some ms[j]:=by simp
  have uY:ts[j]?=some (ts[j]'(by omega)):=by simp[show j<ts.length by omega]
  generalize hmd:ms[j]=m at wN;generalize hxd:(ts[j]'(by omega))=x at uY;have Uy:ms.getD j default=m:=by grind
  obtain⟨o',fO,Lm⟩:=bQ j m wN;rw[ho]at fO;cases fO;obtain⟨ρj,q1,q2⟩:=qz j m x wN uY;simp only[No]at q1 q2;obtain⟨g',ρ',s1,s2,s3,s4⟩:=ir;have key:∀k,k<ms.length→(k<j→k∈Zn hd j)→(j<k→j∈Zn hd k)→(k≠j)→(listed.getD k false=decide (k<j)):=by
   intro k hk ha hb cO;by_cases b_:k<j
   ·grind
   ·rw[gm b_];have sq:j<k:=by omega
    cases hl:listed.getD k false with
    |false=>rfl
    |true=>
     have:listed.getD j false=true:=Hr D (S:=λk=>listed.getD k false) hS k hk (hS k hl).2 j (hb sq);rw[zw]at this;cases this
  have kZ:∀t,(t∈iQ m)→∀k mk,ms[k]?=some mk→mk.dst=some t→k≠j→listed.getD k false=decide (k<j):=by
   intro t ht k mk hk C8 cO;have sY:k<ms.length:=(gK hk).1;have Kj:ms.getD k default=mk:=by grind
   have T4:t∈eJ mk:=by unfold eJ;rw[C8];simp
   refine key k sY (λb_=>?_) (λsq=>?_) cO
   ·rcases D.m7 j ru k b_ with q|⟨q,_,_⟩
    ·exact q
    grind
   ·rcases D.m7 k sY j sq with q|⟨_,_,q⟩
    ·exact q
    grind
  have iC:∀b,(b∈x.rd∨b∈x.up.map (·.1))→∀k xk,ts[k]?=some xk→b∈xk.up.map (·.1)→k≠j→listed.getD k false=decide (k<j):=by
   intro b hb k xk hk di cO;have sY:k<ms.length:=by grind
   refine key k sY (λb_=>?_) (λsq=>?_) cO
   ·rcases hA j ru k b_ with q|q
    ·exact q
    ·rw[p_ k xk hk,p_ j x uY]at q;simp only[cf,AI]at q
     grind [GJ]
   ·rcases hA k sY j sq with q|q
    ·exact q
    ·rw[p_ k xk hk,p_ j x uY]at q;simp only[cf,AI]at q
     grind [GJ]
  have sX:∀k,k=j→listed.getD k false=decide (k<j):=by rintro k rfl;rw[zw];simp
  have heq:∀b,(b∈x.rd∨b∈x.up.map (·.1))→jE (λk=>listed.getD k false) 0 ts (hp σ) b=jE (λk=>decide (k<j)) 0 ts (hp σ) b:=by
   intro b hb;refine ZY _ _ _ _ (λk xk e1 e2=>?_) rfl
   grind
  unfold wpOp;simp only[ho];refine q2 n ops o Lm ρ' _ w0 L g' w a (λt ht=>?_) (λb hb=>heq b (.inl hb)) (λp iq=>heq p.1 (.inr (zAt.2 ⟨p,iq,rfl⟩))) s2 s3 _ _ (λg2 w2 u hle hr sm=>?_)
  ·rw[s4 t,q1 t];refine QX _ _ _ _ _ (λk mk e1 e2=>?_) rfl
   grind
  ·have zT:∀k,k<ms.length→(listed.setIfInBounds j true).getD k false=if k=j then true else listed.getD k false:=by
    intro k hk;by_cases gQ:k=j
    ·subst gQ;simp[show k<listed.size by omega]
    ·rw[aE gQ];simp[zBb (Ne.symm gQ)]
   have dL:∀k,(listed.setIfInBounds j true).getD k false=if k=j then true else listed.getD k false:=by
    intro k;by_cases hk:k<ms.length
    ·exact zT k hk
    ·rw[aE (by omega)]
     grind
   refine ih _ _ _ (by simpa using hs) (λk hk=>?_) ?_ ⟨g2,cz m.dst x.v ρ',s1.trans hle,?_,sm,λt=>?_⟩
   ·rw[dL]at hk;by_cases gQ:k=j
    ·subst gQ;refine⟨ru,λi hi=>?_⟩;rw[dL];split
     ·rfl
     ·exact Dw i hi
    ·rw[aE gQ]at hk;refine⟨(hS k hk).1,λi hi=>?_⟩;rw[dL];split
     ·rfl
     ·exact(hS k hk).2 i hi
   ·have:=Ny (S:=λk=>listed.getD k false) (S':=λk=>(listed.setIfInBounds j true).getD k false) (j:=j) (n:=ms.length) ru zw (by simp only[dL];simp) (λk hk cO=>by simp only[dL];rw[aE cO]);omega
   ·have:jE (λk=>(listed.setIfInBounds j true).getD k false) 0 ts (hp σ)=cw (jE (λk=>listed.getD k false) 0 ts (hp σ)) x.up:=by
     funext b
     by_cases hb:b∈x.up.map (·.1)
     ·refine Px ts 0 (hp σ) j x uY hb (by rw[No,dL,aJ rfl]) (λk xk e1 e2 e3=>?_) _;rw[No,dL]at e3;by_cases gQ:k=j
      ·omega
      grind
     ·rw[MN _ _ _ hb];refine ZY _ _ _ _ (λk xk e1 e2=>?_) rfl;rw[No];simp only[dL];have gQ:k≠j:=by grind
      rw[aE gQ]
    rw[this];exact hr
   ·rw[X6];by_cases zF:m.dst=some t
    ·rw[aJ zF];refine(Sp ms ts 0 ρ j m x wN uY zF (by rw[No,dL,aJ rfl]) (λk mk e1 e2 e3=>?_)).symm;rw[No,dL]at e3;by_cases gQ:k=j
     ·omega
     ·rw[aE gQ]at e3;have sY:k<ms.length:=(gK e1).1;have Kj:ms.getD k default=mk:=by grind
      have wy:t∈eJ m:=by unfold eJ;rw[zF];simp
      have wx:t∈eJ mk:=by unfold eJ;rw[e2];simp
      have:=key k sY (λb_=>by
       rcases D.m7 j ru k b_ with q|⟨_,q,_⟩
       ·exact q
       grind) (λsq=>by
       rcases D.m7 k sY j sq with q|⟨_,q,_⟩
       ·exact q
       grind) gQ
      grind
    ·rw[aE zF,s4 t];refine QX _ _ _ _ _ (λk mk e1 e2=>?_) rfl;rw[No];simp only[dL];have gQ:k≠j:=by grind
     rw[aE gQ]
theorem Zcw(hP:P.follows .mixedOrders=true){n:Nat}{id:Nat}{ms:List aM}{hd:List (List Nat)}{ρ:Frame}{σ:List ab}{Q:eD}
 (h:iU true P GL ms ρ σ [] (λρ' σ' lg=>Zj hd lg=true∧Q .normal ρ' σ')):iR P GL n (.region id ms (some hd)) ρ σ Q:=by
 intro c hc w0 L g a w r d;cases hc with
 |draw _ ops _ _ eL bQ eK=>
  obtain⟨ts,zV⟩:=PI ms ρ σ [] _ h;obtain⟨hlen,_,ρf,σf,_,_,wC⟩:=HX ms ts 0 ρ σ [] _ zV;rw[zAM]at wC;refine wp_region_any hP ?_;refine XcP (w0:=w0) (L:=L) (g:=g) eL bQ eK zV wC.1 _ (λg' ρ' σ' a' w' k1 k2 k3 k4=>⟨g',ρ',σ',k1,k2,k3,k4.2⟩) ops.size _ a _ (by simp[eL]) (λj hj=>?_) ?_ ⟨g,ρ,Gm.Le.refl g,?_,d,λt=>?_⟩
  ·exfalso;rw[zBU,zBo]at hj;split at hj<;>simp at hj
  ·rw[eL];have:∀m,pA (λk=>(zBq ms.length false).getD k false) m<=m:=by
    intro m
    induction m<;>grind [pA]
   exact this _
  ·have hF:(λk=>(zBq ops.size false).getD k false)=λ_=>false:=by
    funext k;rw[zBU,zBo];split<;>rfl
   rw[hF];have gP:∀(ts:List TS) (i:Nat) (h:Hp),jE (λ_=>false) i ts h=h:=by
    intro ts
    induction ts<;>simp_all [jE]
   rw[gP];exact r.drew
  ·have hF:(λk=>(zBq ops.size false).getD k false)=λ_=>false:=by
    funext k;rw[zBU,zBo];split<;>rfl
   rw[hF];have gP:∀(ms:List aM) (ts:List TS) (i:Nat) (ρ:Frame),kM (λ_=>false) i ms ts ρ=ρ:=by
    intro ms
    induction ms with
    |nil=>intros;simp[kM]
    |cons m ms ih=>intro ts i ρ;cases ts<;>grind [kM]
   rw[gP]
end
end Go.Ah
end
section
namespace Go.Ah
theorem Steps.Ac{P:Program}{m m₁ t:Machine}(h:Steps P m t)(hs:step P m=.next m₁):t=m∨Steps P m₁ t:=by
 obtain⟨n,hn⟩:=h;cases n with
 |zero=>simp[runN]at hn;exact .inl hn.symm
 |succ n=>simp only[runN,hs]at hn;exact .inr ⟨n,hn⟩
theorem Wn:∀(k k':List Item) (id:Nat),exitTo id k=some k'→k'.length<=k.length
  |[],k',id,h=>by simp[exitTo]at h
  |x::k,k',id,h=>by
    have ih:=Wn k k' id;cases x<;>simp only[exitTo]at h<;>first
      |(have:=ih h;simp;omega)
      | (split at h
         · cases h;simp
         · have:=ih h;simp;omega)
theorem Wl{b:zDC}{a a':Act}{k k':List Item}{cs:List zDC}{w w':World}(h:lone (b.at a k) cs w=lone (b.at a' k') cs w'):k=k':=by
 simp_all [lone,Go.Frame.at]
theorem Xb7{b:zDC}{a a':Act}{k k':List Item}{cs:List zDC}{w w':World}{m:FrameMode}(hm:m≠.run)(h:lone { b.at a' k' with mode:=m } cs w'=lone (b.at a k) cs w):False:=by
 simp_all [lone,Go.Frame.at]
theorem Xdm{P:Program}{c:Code}{Q:Exit→Act→World→Prop}{a:Act}{w:World}(hQ:∀a w,¬Q .outgrown a w)(OI:∀l a w,¬Q (.goto l) a w)(h:(Code.loop c).wp P Q a w)(b:zDC)(k:List Item)(cs:List zDC) :
  ∃e a' w',Q e a' w'∧Arrives P (lone (b.at a (.code c::.inLoop c::k)) cs w) b k cs e a' w':=by
 obtain⟨e,a',w',hq,oq⟩:=h b k cs;refine⟨e,a',w',hq,?_⟩;cases e with
 |normal=>
  rcases Steps.Ac oq step_loop with e|e
  ·have:=Wl e;have:=congrArg zCo this;simp at this
  ·exact e
 |exit id=>
  intro k' hk;rcases Steps.Ac (oq k' hk) step_loop with e|e
  ·have:=Wl e;have:=congrArg zCo this;have:=Wn _ _ _ hk;simp at *;omega
  ·exact e
 |goto l=>exact(OI _ _ _ hq).elim
 |ret=>
  obtain⟨todo,hs⟩:=oq;rcases Steps.Ac hs step_loop with e|e
  ·exact(Xb7 (by simp) e).elim
  ·exact⟨todo,e⟩
 |panic ch=>
  obtain⟨todo,hs⟩:=oq;rcases Steps.Ac hs step_loop with e|e
  ·exact(Xb7 (by simp) e).elim
  ·exact⟨todo,e⟩
 |outgrown=>exact(hQ _ _ hq).elim
theorem Ybx{P:Program}{c:Code}{Q:Exit→Act→World→Prop}{a:Act}{w:World}(hQ:∀a w,¬Q .outgrown a w)(OI:∀l a w,¬Q (.goto l) a w)
 (h:c.wp P (Exit.then (λa w=>(Code.loop c).wp P Q a w) Q) a w):(Code.loop c).wp P Q a w:=by
 intro b k cs;obtain⟨e,a₁,w₁,hq,oq⟩:=h b (.inLoop c::k) cs;cases e with
 |normal=>
  obtain⟨e₂,a₂,w₂,KI,zx⟩:=Xdm hQ OI hq b k cs;exact⟨e₂,a₂,w₂,KI,.of_steps (.one step_loop) (.of_steps (Steps.trans oq (.one step_inLoop)) zx)⟩
 |exit id=>exact⟨_,a₁,w₁,hq,.of_steps (.one step_loop) (.pass (x:=.inLoop c) rfl (λ_ _=>.inl (by simp)) oq)⟩
 |goto l=>exact(OI _ _ _ hq).elim
 |ret=>exact⟨_,a₁,w₁,hq,.of_steps (.one step_loop) (.pass (x:=.inLoop c) rfl (λ_ _=>.inl (by simp)) oq)⟩
 |panic ch=>exact⟨_,a₁,w₁,hq,.of_steps (.one step_loop) (.pass (x:=.inLoop c) rfl (λ_ _=>.inl (by simp)) oq)⟩
 |outgrown=>exact(hQ _ _ hq).elim
theorem QcM{P:Program}{GL:ar}{n:Nat}{x:dd}{ρ:Frame}{σ:List ab}{Q:eD}(h:iR P GL n x ρ σ (eD.andThen (λρ σ=>iR P GL n (.loop x) ρ σ Q) Q)):iR P GL n (.loop x) ρ σ Q:=by
 intro c hc w0 L g a w r d;cases hc with
 |loop c1 _ h1=>
  refine Ybx (λa w h=>h) (λl a w h=>h) (wp_mono (h c1 h1 w0 L g a w r d) (λe a' w' hl=>?_));cases e with
  |normal=>
   obtain⟨g',ρ',σ',k1,k2,k3,k4⟩:=hl;exact wp_mono (k4 (.loop c1) (.loop _ _ h1) w0 L g' a' w' k2 k3) (nL.mono k1 (λ_ _ _ q=>q))
  |_=>exact hl
section
variable (VI:Bool→Nat→List aM→Frame→List ab→Log→Cons→Pf)
def Zt:MK→List aa→Option (Nat×List aa)
 |.call f,xs=>some (f,xs)
 |.jZ,.func (.func f) first captured::xs=>some (f,first++xs++captured)
 |.invoke _ o0,.iface t v::xs=>match HS t o0 with
  |some f=>some (f,v::xs)
  |none=>none
 |_,_=>none
end
section
variable {P:Program} {GL:ar}
theorem YbG{F:ve}{f:FuncId}{k:MK}{xs ys:List aa}(hc:Zt k xs=some (f,ys))(hp:Zh P f=true)(ok:mA P GL f F)(hn:ys.length=F.np){σ:List ab}{R:KT}
 (h:iR P GL F.n F.body (eO ys) σ (λe ρ σ'=>(e=.normal∨e=.ret)∧∃v,iE F.gE ρ σ'=some v∧R v σ')):nM P GL k xs σ R:=by
 have key:=Ps (P:=P) (GL:=GL) ok hn h;intro o os pY w0 L g w a r hx;unfold Zt at hc;split at hc
 ·cases hc;generalize ho:o.op=op at pY;cases pY with
  |call _ args ts _=>
   have ba:(execOp a.eval o).run P w=.ok (.enter f (args.map a.eval)) w:=by
    simp_all [execOp,resolve,Act.eval,zCl,invoke,QY]
   rw[ba];have:=key w0 L g w _ r hx
   rwa [←zBn,zCB]at this
 ·rename_i first captured AD
  cases hc;generalize ho:o.op=op at pY;cases pY with
  |jZ x args ts=>
   obtain⟨d,dr⟩:=hx;generalize hu:a.eval x=u0 at d;cases d with
   |func _ _ _ _ vs ws h1 h2 h3 h4=>
    have ba:(execOp a.eval o).run P w=.ok (.enter f (vs++args.map a.eval++ws)) w:=by
     simp_all [execOp,resolve,zCl,invoke,QY]
    rw[ba];have hl:=dr.length;simp at hl;have:=key w0 L g w (vs ++ args.map a.eval ++ ws).toList r (dM.lE (by simp[h1,h2,hl]) (λi y u e1 e2=>by
     simp only[Array.toList_append]at e2;by_cases hi:i<first.length
     ·rw[zAa,zAV hi]at e1;rw[zAa,zAV (by simpa[h1]using hi)]at e2;exact h3 i y u e1 (by simpa using e2)
     ·by_cases tZ:i<first.length+AD.length
      ·rw[zAa,zAQ (by omega),zAV (by omega)]at e1;rw[zAa,zAQ (by simp;omega),zAV (by simp;omega)]at e2;refine dr.get (i-first.length) y u e1 ?_;simpa[h1]using e2
      ·rw[zAQ (by simp;omega)]at e1;rw[zAQ (by simp;omega)]at e2;refine h4 (i - (first ++ AD).length) y u e1 ?_;simpa[h1,hl]using e2))
    rwa [zCB]at this
 ·rename_i name o0 ty v AD;split at hc
  ·rename_i f' hl;cases hc;generalize ho:o.op=op at pY;cases pY with
   |invoke y _ args ts _ bQ=>
    obtain⟨d,dr⟩:=hx;generalize hu:a.eval y=u0 at d;cases d with
    |iface _ _ _ vv KY=>
     obtain⟨k1,k2⟩:=bQ _ (Pl hl);have ba:(execOp a.eval o).run P w=.ok (.enter f (#[vv]++args.map a.eval)) w:=by
      simp only[execOp,ho,resolve,OF,hu,zAA,AS,invoke];have e0:(#[zBz ty vv]++args.map a.eval)[0]?=some (zBz ty vv):=by grind
      have e1:(#[zBz ty vv]++args.map a.eval).extract 1 (#[zBz ty vv]++args.map a.eval).size=args.map a.eval:=by
       simp
      grind [ZbF]
     rw[ba];have:=key w0 L g w (vv::(args.map a.eval).toList) r ⟨KY,by rwa [zBn]⟩;have e2:(vv::(args.map a.eval).toList).toArray = #[vv]++args.map a.eval:=by apply Array.ext';simp
     rw[e2]at this;exact this
  ·cases hc
 ·cases hc
end
end Go.Ah
end
section
namespace Go.Ah
def xj:eV→Value→Bool
 |.ptr,.pointer none=>true
 |.slice,.slice none 0 0=>true
 |.iface,.nilIface=>true
 |.func,.nilFunc=>true
 |.map,.map none=>true
 |_,_=>false
theorem ZdP{c:eV}{v:Value}(h:xj c v=true):v=ke c:=by
 unfold xj at h;split at h<;>first|rfl|cases h
def bO{α β:Type}(o:Option α)(f:α→Option β):Option β:=match o with
 |some a=>f a
 |none=>none
theorem Xd{α β:Type}{o:Option α}{f:α→Option β}{b:β}(h:bO o f=some b):∃a,o=some a∧f a=some b:=by
 cases o with
 |none=>cases h
 |some a=>exact⟨a,rfl,h⟩
def Y1{β:Type}(c:Bool)(x:Option β):Option β:=match c with
 |true=>x
 |false=>none
theorem Yu{β:Type}{c:Bool}{x:Option β}{b:β}(h:Y1 c x=some b):c=true∧x=some b:=by
 cases c with
 |true=>exact⟨rfl,h⟩
 |false=>cases h
def mapM'{α β:Type}(f:α→Option β):List α→Option (List β)
 |[]=>some []
 |a::l=>bO (f a) λb=>bO (mapM' f l) λr=>some (b::r)
theorem YcF{α β:Type}(f:α→Option β):∀(l:List α),l.mapM f=mapM' f l
 |[]=>rfl
 |a::l=>by
  rw[List.mapM_cons,YcF f l,mapM'];cases f a with
  |none=>rfl
  |some b=>cases mapM' f l<;>rfl
def zeroCells(P:Program)(t:TypeId):Option (List aa):=bO (eu P t) λv=>ZM v.cells.toList
def Im(P:Program)(t:TypeId):Bool:=match P.underlying t with
 |some .bool=>true
 |_=>false
theorem Po{P:Program}{t:TypeId}(h:Im P t=true):P.underlying t=some .bool:=by
 grind [Im]
def R_(P:Program)(t:TypeId):Bool:=match P.underlying t with
 |some .string=>true
 |_=>false
theorem Xdl{P:Program}{t:TypeId}(h:R_ P t=true):P.underlying t=some .string:=by
 grind [R_]
def wZ(P:Program)(t:TypeId):Option IntKind:=match P.underlying t with
 |some (.int k)=>some k
 |_=>none
theorem Yeb{P:Program}{t:TypeId}{k:IntKind}(h:wZ P t=some k):P.underlying t=some (.int k):=by
 grind [wZ]
theorem XcB{P:Program}{t e:TypeId}(h:eY P t=some e):P.underlying t=some (.slice e):=by
 grind [eY]
def rJ(P:Program)(k:TypeId):Option Bool:=match P.underlying k with
 |some .string=>some true
 |some (.int _)=>some false
 |_=>none
theorem Rm{P:Program}{k:TypeId}{s:Bool}(h:rJ P k=some s):uA P k s:=by
 unfold rJ at h;split at h
 ·rename_i e;cases h;exact e
 ·rename_i q e;cases h;exact⟨q,e⟩
 ·cases h
def N5(c:eV):Operand→Bool
 |.const v=>xj c v
 |_=>false
theorem Wm{c:eV}{x:Operand}(h:N5 c x=true):x=.const (ke c):=by
 cases x<;>simp only[N5]at h<;>first|cases h|rw[ZdP h]
def CN:BinOp→Option Bool
 |.eql=>some false
 |.neq=>some true
 |_=>none
theorem Qd9{op:BinOp}{b:Bool}(h:CN op=some b):op=if b then .neq else .eql:=by
 grind [CN]
def PL(P:Program)(op:BinOp)(t:TypeId)(x y:Operand):Option (MK×List Operand):=
 match CN op with
 |none=>some (.bin op (Im P t),[x,y])
 |some neq=>match uE P t with
  |some c=>match N5 c y with
   |true=>some (.oe c neq false,[x,y])
   |false=>match N5 c x with
    |true=>some (.oe c neq true,[x,y])
    |false=>some (.bin op (Im P t),[x,y])
  |none=>match qj P t with
   |some ls=>Y1 (!P.stoodInHeld t && !P.eqGuardType P.depth t) (some (.Bs neq ls,[x,y]))
   |none=>some (.bin op (Im P t),[x,y])
def Pu(P:Program)(c:Call):Option (MK×List Operand):=
 match c.callee with
 |.value (.func f)=>Y1 (Zh P f) (some (.call f,c.args.toList))
 |.value x=>some (.jZ,x::c.args.toList)
 |.invoke x name=>some (.invoke name (Zdo P name),x::c.args.toList)
 |.builtin .len=>match c.args.toList,c.argTypes.toList with
  |[x],[t]=>match P.underlying t with
   |some (.slice _)=>some (.rN,[x])
   |some .string=>some (.j9,[x])
   |some (.array n _)=>some (.rM n,[x])
   |some (.map _ _)=>some (.mK,[x])
   |_=>none
  |_,_=>none
 |.builtin .clear=>match c.args.toList,c.argTypes.toList with
  |[x],[t]=>bO (eY P t) λe=>bO (size? P e) λn=>bO (eu P e) λv=>bO (ZM v.cells.toList) λz=>
   Y1 (IN v.cells.size n && !(IN n 0)) (some (.iI n z,[x]))
  |_,_=>none
 |.builtin .min=>match c.args.toList with
  |[x,y]=>some (.min2,[x,y])
  |_=>none
 |.builtin .max=>match c.args.toList with
  |[x,y]=>some (.max2,[x,y])
  |_=>none
 |.builtin .append=>match c.args.toList,c.argTypes.toList with
  |[x,y],[t,t']=>bO (eY P t) λe=>bO (eY P t') λ_=>bO (size? P e) λn=>bO (eu P e) λv=>bO (ZM v.cells.toList) λz=>
   Y1 (IN v.cells.size n&&(!(IN (P.bytesOf e) 0) && !(IN n 0))) (some (.append n (P.bytesOf e) z,[x,y]))
  |_,_=>none
 |_=>none
def R6:Operand→Operand→Bool
 |.tmp a,.tmp b=>IN a b
 |_,_=>false
theorem ZcU{x y:Operand}(h:R6 x y=true):x=y:=by
 cases x<;>cases y<;>simp only[R6]at h<;>first|cases h|rw[fV h]
def BO(P:Program)(ms:Array (String×TypeId))(t:TypeId):Bool:=match P.info? t with
 |some i=>match i.methods.size with
  |0=>false
  |_=>ms.toList.all λp=>i.methods.any λm=>m.name==p.1&&m.sig==p.2
 |none=>false
def Zdl(P:Program)(ms:Array (String×TypeId)):List TypeId:=(zAC P.types.size).filter (BO P ms)
theorem YcR{P:Program}{ms:Array (String×TypeId)}{q:TypeId}(h:q∈Zdl P ms):∃i,P.info? q=some i∧zDm ms i.methods=none:=by
 have h:=(List.mem_filter.1 h).2;unfold BO at h;split at h
 ·rename_i i hi;refine⟨i,hi,?_⟩;split at h
  ·cases h
  ·have e:(ms.toList.filter λ(x:String×TypeId)=>!i.methods.any λm=>m.name==x.1&&m.sig==x.2)=[]:=by
    grind [List.filter_eq_nil_iff]
   unfold zDm;simp only;rw[show (List.filter (λx=>match x with|(name,sig)=>!i.methods.any λm=>m.name==name&&m.sig==sig) ms.toList)=[] from e];rfl
 ·cases h
def R8(P:Program):Op→Option (MK×List Operand)
 |.move x=>some (.mv,[x])
 |.assign x=>some (.mv,[x])
 |.pick c a b=>some (.pick,[c,a,b])
 |.alloc t=>bO (zeroCells P t) λz=>some (.alloc z,[])
 |.box _ x=>some (.box,[x])
 |.build t parts=>match P.underlying t with
  |some (.struct fs)=>bO (zeroCells P t) λz=>bO (mapM' (λf=>(P.info? f.type).map λi=>(f.offset,i.size)) fs.toList) λplaces=>
   bO (mapM' (λ(p:Nat×Operand)=>places[p.1]?) parts.toList) λps=>some (.build z ps,parts.toList.map (·.2))
  |some (.array _ e)=>bO (zeroCells P t) λz=>bO (size? P e) λsz=>some (.build z (parts.toList.map (λp=>(p.1*sz,sz))),parts.toList.map (·.2))
  |_=>none
 |.buildSlice t 0 parts=>bO (eY P t) λe=>bO (size? P e) λsz=>match parts.toList with
  |[]=>some (.lP sz,[])
  |_=>none
 |.makeSlice t l c=>bO (eY P t) λe=>bO (size? P e) λn=>bO ((P.info? e).map (·.bytes)) λby_=>bO (eu P e) λv=>bO (ZM v.cells.toList) λz=>
  Y1 (!(IN n 0) && IN v.cells.size n) (match R6 l c with
   |true=>some (.rO n by_ z,[l])
   | false=>none)
 |.buildSlice t n parts=>bO (eY P t) λe=>bO (size? P e) λsz=>bO (eu P e) λv=>bO (ZM v.cells.toList) λz0=>
  Y1 (zAP (n*sz) (2 ^ 24)&&(!(IN (n*sz) 0)&&IN v.cells.size sz)) (some (.mF sz n (zAd n z0).flatten (parts.toList.map (λp=>(p.1*sz,sz))),parts.toList.map (·.2)))
 |.load t x=>bO (fS P t) λagg=>bO (size? P t) λn=>some (.load agg n,[x])
 |.store t x y=>bO (size? P t) λn=>some (.store n,[x,y])
 |.nilCheck x=>some (.nilCheck,[x])
 |.binOp op t x y _=>PL P op t x y
 |.unOp op _ x=>some (.un op,[x])
 |.convert s d x=>Y1 (P.underlying s).isSome (bO (wZ P d) λk=>some (.conv k,[x]))
 |.makeInterface t x=>Y1 (P.concrete t) (some (.jc t,[x]))
 |.makeFunc fn xs ys=>some (.j_ fn xs.size,xs.toList++ys.toList)
 |.makeMap _ none=>some (.makeMap,[])
 |.fieldAddr t x f=>match P.underlying t with
  |some (.struct fs)=>bO fs[f]? λfd=>bO (size? P fd.type) λn=>Y1 (!(IN n 0)) (some (.fieldAddr fd.offset,[x]))
  |_=>none
 |.field t x f=>match P.underlying t with
  |some (.struct fs)=>bO fs[f]? λfd=>bO (size? P fd.type) λn=>bO (fS P fd.type) λagg=>some (.field agg fd.offset n,[x])
  |_=>none
 |.indexAddr t x i=>match P.underlying t with
  |some (.array len e)=>bO (size? P e) λn=>some (.gR len n,[x,i])
  |some (.slice e)=>bO (size? P e) λn=>some (.fI n,[x,i])
  |_=>none
 |.index t x i=>match P.underlying t with
  |some (.array len e)=>bO (size? P e) λn=>bO (fS P e) λagg=>some (.rI agg len n,[x,i])
  |some .string=>some (.ly,[x,i])
  |_=>none
 |.extract x i=>some (.extract i,[x])
 |.slice t x lo hi mx=>match P.underlying t with
  |some (.slice e)=>bO (size? P e) λn=>some (.cJ n lo.isSome hi.isSome mx.isSome,[x]++lo.toList++hi.toList++mx.toList)
  |some .string=>match mx with
   |none=>some (.ff lo.isSome hi.isSome,[x]++lo.toList++hi.toList)
   |some _=>none
  |_=>none
 |.call c=>Pu P c
 |.lookup t x i ok=>match P.underlying t with
  |some (.map k e)=>bO (rJ P k) λstr=>bO (eu P e) λv=>bO (pP v) λz=>some (.lookup str ok z,[x,i])
  |_=>none
 |.mapUpdate t x i y=>match P.underlying t with
  |some (.map k _)=>bO (rJ P k) λstr=>some (.lz str,[x,i,y])
  |_=>none
 |.insert t x i y=>match P.underlying t with
  |some (.map k _)=>bO (rJ P k) λstr=>some (.lz str,[x,i,y])
  |_=>none
 |.range t x=>Y1 (R_ P t) (some (.range,[x]))
 |.next x true=>some (.next,[x])
 |.typeAssert x _ u ok=>match P.underlying u with
  |some (.interface ms)=>match ok,eu P u with
   |true,some .nilIface=>some (.gJ (Zdl P ms),[x])
   |_,_=>none
  |_=>Y1 (P.concrete u&&(P.underlying u).isSome) (bO (eu P u) λv=>bO (pP v) λz=>some (.fN u ok z,[x]))
 |_=>none
section
variable {P:Program} {GL:ar}
theorem ZcO{op:BinOp}{t t':TypeId}{x y:Operand}{k:MK}{os:List Operand}(h:PL P op t x y=some (k,os)):cp P GL (.binOp op t x y t') k os:=by
 unfold PL at h;split at h
 ·cases h;exact .bin _ _ _ _ _ _ Po
 ·rename_i neq heq;have hY:=Qd9 heq;split at h
  ·rename_i c hc;split at h
   ·rename_i hn;cases h;rw[hY,Wm hn];exact .v_ _ _ _ _ _ hc
   ·split at h
    ·rename_i hn;cases h;rw[hY,Wm hn];exact .vZ _ _ _ _ _ hc
    ·cases h;exact .bin _ _ _ _ _ _ Po
  ·split at h
   ·rename_i ls hl;obtain⟨hg,h⟩:=Yu h;cases h;simp only[AI,zAf]at hg;rw[hY];exact .Bs _ _ _ _ _ _ hl hg.1 hg.2
   ·cases h;exact .bin _ _ _ _ _ _ Po
theorem NP{α:Type}{a:Array α}{x:α}(h:a.toList=[x]):a = #[x]:=by
 cases a;simp at h;subst h;rfl
theorem Nq{α:Type}{a:Array α}{x y:α}(h:a.toList=[x,y]):a = #[x,y]:=by
 cases a;simp at h;subst h;rfl
theorem Zcl{c:Call}{k:MK}{os:List Operand}(h:Pu P c=some (k,os)):cp P GL (.call c) k os:=by
 unfold Pu at h;obtain⟨callee,args,ts⟩:=c;simp only at h;split at h
 ·obtain⟨hg,h⟩:=Yu h;cases h;exact .call _ _ _ hg
 ·cases h;exact .jZ _ _ _
 ·cases h;refine .invoke _ _ _ _ _ (λp hp=>?_)
  grind [Zdo]
 ·split at h
  ·rename_i ha ht;have:=NP ha;subst this;have:=NP ht;subst this;split at h
   ·rename_i hu;cases h;exact .rN _ _ _ hu
   ·rename_i hu;cases h;exact .j9 _ _ hu
   ·rename_i hu;cases h;exact .rM _ _ _ _ hu
   ·rename_i hu;cases h;exact .mK _ _ _ _ hu
   ·cases h
  ·cases h
 ·split at h
  ·rename_i ha ht;have:=NP ha;subst this;have:=NP ht;subst this;obtain⟨e,he,h⟩:=Xd h;obtain⟨n,hn,h⟩:=Xd h;obtain⟨v,hv,h⟩:=Xd h;obtain⟨z,hz,h⟩:=Xd h;obtain⟨hg,h⟩:=Yu h;simp only[AI,zAf]at hg;cases h;exact .iI _ e _ _ v _ he hn (λe0=>by rw[e0]at hg;cases hg.2) hv (fV hg.1) hz
  ·cases h
 ·split at h
  ·rename_i ha;have:=Nq ha;subst this;cases h;exact .min2 _ _ _
  ·cases h
 ·split at h
  ·rename_i ha;have:=Nq ha;subst this;cases h;exact .max2 _ _ _
  ·cases h
 ·split at h
  ·rename_i ha ht;have:=Nq ha;subst this;have:=Nq ht;subst this;obtain⟨e,he,h⟩:=Xd h;obtain⟨e',OL,h⟩:=Xd h;obtain⟨n,hn,h⟩:=Xd h;obtain⟨v,hv,h⟩:=Xd h;obtain⟨z,hz,h⟩:=Xd h;obtain⟨hg,h⟩:=Yu h;simp only[AI,zAf]at hg;cases h;exact .append _ _ e _ _ _ _ v _ (XcB he) ⟨_,XcB OL,by simp⟩ hn rfl hv (fV hg.1) hz (λe0=>by rw[e0]at hg;cases hg.2.1) (λe0=>by rw[e0]at hg;cases hg.2.2)
  ·cases h
 ·cases h
theorem Zb8{α β:Type}{f:α→Option β}:∀ {l:List α} {r:List β},mapM' f l=some r→l.map f=r.map some
 |[],r,h=>by simp[mapM']at h;subst h;rfl
 |a::l,r,h=>by
  obtain⟨b,hb,h⟩:=Xd h;obtain⟨r',hr,h⟩:=Xd h;cases h;simp[hb,Zb8 hr]
theorem Xdc{op:Op}{k:MK}{os:List Operand}(h:R8 P op=some (k,os)):cp P GL op k os:=by
 unfold R8 at h;split at h
 ·cases h;exact .move _
 ·cases h;exact .assign _
 ·cases h;exact .pick _ _ _
 ·obtain⟨z,hz,h⟩:=Xd h;obtain⟨v,hv,hz⟩:=Xd hz;cases h;exact .alloc _ v _ hv hz
 ·cases h;exact .box _ _
 ·split at h
  ·rename_i fs hu;obtain⟨z,hz,h⟩:=Xd h;obtain⟨v,hv,hz⟩:=Xd hz;obtain⟨places,hp,h⟩:=Xd h;obtain⟨ps,uU,h⟩:=Xd h;cases h;exact .buildStruct _ fs v _ _ places _ hu hv hz (by rw[YcF];exact hp) (Zb8 uU)
  ·rename_i n e hu;obtain⟨z,hz,h⟩:=Xd h;obtain⟨v,hv,hz⟩:=Xd hz;obtain⟨sz,hs,h⟩:=Xd h;cases h;exact .nT _ n e v _ _ _ sz hu hv hz hs rfl
  ·cases h
 ·obtain⟨e,he,h⟩:=Xd h;obtain⟨sz,hs,h⟩:=Xd h;split at h
  ·rename_i hp;cases h;exact .mS _ e _ _ he hs hp
  ·cases h
 ·obtain⟨e,he,h1⟩:=Xd h;obtain⟨n,hn,h2⟩:=Xd h1;obtain⟨b,hb,h3⟩:=Xd h2;obtain⟨v,hv,h4⟩:=Xd h3;obtain⟨z,hz,h5⟩:=Xd h4;obtain⟨hg,h6⟩:=Yu h5;clear h h1 h2 h3 h4 h5;simp only[AI,zAf]at hg;split at h6
  ·rename_i hs;have:=ZcU hs;subst this;cases h6;exact .makeSlice _ _ e v _ _ _ he hn hb (λe0=>by rw[e0]at hg;cases hg.1) hv (fV hg.2) hz
  ·cases h6
 ·obtain⟨e,he,h⟩:=Xd h;obtain⟨sz,hs,h⟩:=Xd h;obtain⟨v,hv,h⟩:=Xd h;obtain⟨z0,hz,h⟩:=Xd h;obtain⟨hg,h⟩:=Yu h;simp only[AI,zAf]at hg;cases h;exact .buildSlice _ _ e v z0 _ _ _ _ he hs (ik hg.1) (λe0=>by rw[e0]at hg;cases hg.2.1) hv (fV hg.2.2) hz rfl rfl
 ·obtain⟨agg,ha,h⟩:=Xd h;obtain⟨n,hn,h⟩:=Xd h;cases h;exact .load _ _ _ _ ha hn
 ·obtain⟨n,hn,h⟩:=Xd h;cases h;exact .store _ _ _ _ hn
 ·cases h;exact .nilCheck _
 ·exact ZcO h
 ·cases h;exact .un _ _ _
 ·obtain⟨hg,h⟩:=Yu h;obtain⟨q,hq,h⟩:=Xd h;cases h;exact .conv _ _ _ _ hg (Yeb hq)
 ·obtain⟨hg,h⟩:=Yu h;cases h;exact .jc _ _ hg
 ·cases h;exact .j_ _ _ _
 ·cases h;exact .makeMap _
 ·split at h
  ·rename_i fs hu;obtain⟨fd,hf,h⟩:=Xd h;obtain⟨n,hn,h⟩:=Xd h;obtain⟨hg,h⟩:=Yu h;cases h;exact .fieldAddr _ _ _ fs fd n hu hf hn (λe0=>by rw[e0]at hg;cases hg)
  ·cases h
 ·split at h
  ·rename_i fs hu;obtain⟨fd,hf,h⟩:=Xd h;obtain⟨n,hn,h⟩:=Xd h;obtain⟨agg,ha,h⟩:=Xd h;cases h;exact .field _ _ _ fs fd _ _ hu hf hn ha
  ·cases h
 ·split at h
  ·rename_i len e hu;obtain⟨n,hn,h⟩:=Xd h;cases h;exact .gR _ _ _ _ e _ hu hn
  ·rename_i e hu;obtain⟨n,hn,h⟩:=Xd h;cases h;exact .fI _ _ _ e _ hu hn
  ·cases h
 ·split at h
  ·rename_i len e hu;obtain⟨n,hn,h⟩:=Xd h;obtain⟨agg,ha,h⟩:=Xd h;cases h;exact .rI _ _ _ _ e _ _ hu hn ha
  ·rename_i hu;cases h;exact .ly _ _ _ hu
  ·cases h
 ·cases h;exact .extract _ _
 ·split at h
  ·rename_i e hu;obtain⟨n,hn,h⟩:=Xd h;cases h;exact .cJ _ _ _ _ _ e _ hu hn
  ·rename_i hu;split at h
   ·cases h;exact .ff _ _ _ _ hu
   ·cases h
  ·cases h
 ·exact Zcl h
 ·split at h
  ·rename_i k e hu;obtain⟨s,hs,h⟩:=Xd h;obtain⟨v,hv,h⟩:=Xd h;obtain⟨z,hz,h⟩:=Xd h;cases h;exact .lookup _ k e _ _ _ _ v _ hu (Rm hs) hv hz
  ·cases h
 ·split at h
  ·rename_i k e hu;obtain⟨s,hs,h⟩:=Xd h;cases h;exact .mapUpdate _ k e _ _ _ _ hu (Rm hs)
  ·cases h
 ·split at h
  ·rename_i k e hu;obtain⟨s,hs,h⟩:=Xd h;cases h;exact .mapInsert _ k e _ _ _ _ hu (Rm hs)
  ·cases h
 ·obtain⟨hg,h⟩:=Yu h;cases h;exact .range _ _ (Xdl hg)
 ·cases h;exact .next _
 ·split at h
  ·rename_i hu;split at h
   ·rename_i hz;cases h;exact .gJ _ _ _ _ _ hu hz (λq hq=>YcR hq)
   ·cases h
  ·obtain⟨hg,h⟩:=Yu h;simp only[AI]at hg;obtain⟨v,hv,h⟩:=Xd h;obtain⟨z,hz,h⟩:=Xd h;cases h;exact .fN _ _ _ _ v _ hg.1 hg.2 hv hz
 ·cases h
end
end Go.Ah
end
section
namespace Go.Ah
def NF(g:Nat):ar→Option (List aa)
 |[]=>none
 |(q,row)::r=>match IN g q with
  |true=>some row
  |false=>NF g r
theorem Xb5{g:Nat}{row:List aa}:∀ {GL:ar},NF g GL=some row→(g,row)∈GL
 |[],h=>by cases h
 |(q,r)::GL,h=>by
  simp only[NF]at h;split at h
  ·rename_i e;cases h;rw[fV e];simp
  ·exact zAn _ (Xb5 h)
def R3(GL:ar):Operand→Option se
 |.tmp t=>some (.t t)
 |.const v=>bO (pP v) λx=>some (.c x)
 |.global g=>bO (NF g GL) λrow=>some (.c (.aq row 0))
 |.func f=>some (.c (.func (.func f) [] []))
theorem Ybz{GL:ar}{x:Operand}{y:se}(h:R3 GL x=some y):kR GL x y:=by
 cases x with
 |tmp t=>cases h;exact .tmp _
 |const v=>obtain⟨z,hz,h⟩:=Xd h;cases h;exact .const _ _ hz
 |global g=>obtain⟨z,hz,h⟩:=Xd h;cases h;exact .JH _ _ (Xb5 hz)
 |func f=>cases h;exact .func _
theorem NY{α β:Type}{f:α→Option β}{R:α→β→Prop}(hR:∀ {a b},f a=some b→R a b):∀ {l:List α} {r:List β},mapM' f l=some r→lL R l r
 |[],r,h=>by simp[mapM']at h;subst h;trivial
 |a::l,r,h=>by
  obtain⟨b,hb,h⟩:=Xd h;obtain⟨r',hr,h⟩:=Xd h;cases h;exact⟨hR hb,NY hR hr⟩
def Jt(n:Nat):Option Nat→Bool
 |none=>true
 |some d=>zAi d n
def Zdc(ops:List Oper):Option (Nat×Bool)→Option (Option (Nat×Bool))
 |none=>some none
 |some (j,w)=>bO (nth ops j) λo=>bO o.dst λs=>some (some (s,w))
def WQ(P:Program)(GL:ar)(o:Op):Option (MK×List se):=bO (R8 P o) λ(k,os)=>bO (mapM' (R3 GL) os) λxs=>some (k,xs)
def HG(P:Program)(GL:ar)(n:Nat)(ops:List Oper)(o:Oper):Option aM:=
 Y1 (Jt n o.dst) (bO (Zdc ops o.guard) λg=>match WQ P GL o.op with
  |some (k,xs)=>some ⟨o.dst,k,xs,g⟩
  | none=>some ⟨o.dst,.bad,[],g⟩)
theorem Ry{P:Program}{GL:ar}{n:Nat}{ops:Array Oper}{o:Oper}{m:aM}(h:HG P GL n ops.toList o=some m):gf P GL n ops o m:=by
 unfold HG at h;obtain⟨hd,h⟩:=Yu h;obtain⟨g,hg,h⟩:=Xd h;have hk:∃k xs,m=⟨o.dst,k,xs,g⟩∧∃os,cp P GL o.op k os∧lL (kR GL) os xs:=by
  split at h
  ·rename_i k xs hk;cases h;unfold WQ at hk;obtain⟨⟨k,os⟩,hc,hk⟩:=Xd hk;obtain⟨xs,hx,hk⟩:=Xd hk;cases hk;exact⟨_,_,rfl,os,Xdc hc,NY Ybz hx⟩
  ·cases h;exact⟨_,_,rfl,[],.bad _,trivial⟩
 obtain⟨k,xs,rfl,uT⟩:=hk;refine⟨rfl,λd e=>?_,uT,?_⟩
 ·simp only at e;rw[e]at hd;exact ik hd
 ·cases hog:o.guard with
  |none=>rw[hog]at hg;cases hg;trivial
  |some jw=>
   obtain⟨j,w⟩:=jw;rw[hog]at hg;obtain⟨o',fO,hg⟩:=Xd hg;obtain⟨s,hs,hg⟩:=Xd hg;cases hg<;>simp_all [Y7]
theorem Ix{l:List Nat}{n:Nat}:kP l n=true↔n∈l:=by
 induction l with
 |nil=>simp[kP]
 |cons x l ih=>
  simp only[kP,zBS,ih,zAR]
  grind [fV,zBf]
def IQ{β:Type}:List Nat→List Nat→(List Nat→β)→β
 |[],l,k=>k l
 |x::xs,l,k=>match kP l x with
  |true=>IQ xs l k
  |false=>IQ xs (x::l) k
def jV:List (List Nat)→Nat→List Nat
 |[],_=>[]
 |x::_,0=>x
 |_::l,n+1=>jV l n
def qV{β:Type}(acc:List (List Nat)):List Nat→List Nat→(List Nat→β)→β
 |[],s,k=>k s
 |i::r,s,k=>IQ (i::jV acc i) s λs=>qV acc r s k
def pM{β:Type}(s:List Nat):Nat→List Nat→(List Nat→β)→β
 |0,l,k=>k l
 |i+1,l,k=>match kP s i with
  |true=>pM s i (i::l) k
  |false=>pM s i l k
def Gq{β:Type}:List (List Nat)→Nat→List (List Nat)→(List (List Nat)→β)→β
 |[],_,acc,k=>k acc
 |w::r,j,acc,k=>qV acc w [] λs=>pM s j [] λl=>vB (acc++[l]) λacc=>Gq r (j+1) acc k
def sK(p:Nat→Bool):Nat→Bool
 |0=>true
 |i+1=>p i&&sK p i
def sL(p:Nat→Bool):List Nat→Bool
 |[]=>true
 |x::l=>p x&&sL p l
def pC:List Nat→List Nat→Bool
 |[],_=>true
 |x::a,b=>!(kP b x)&&pC a b
def tR(n:Nat)(ws hd ds us:List (List Nat)):Bool:=
 sK (λj=>vB (jV ws j) λwj=>vB (jV hd j) λhj=>vB (jV ds j) λdj=>vB (jV us j) λuj=>
  sL (λi=>zAi i j) wj && (sL (λi=>zAi i j && (kP wj i || !(sL (λk=>!(kP (jV hd k) i)) wj))) hj &&
  sK (λi=>kP hj i || (pC (jV ds i) uj && (pC (jV ds i) dj && pC (jV us i) dj))) j)) n
def pE{α β:Type}(f:α→List Nat):List α→(List (List Nat)→β)→β
 |[],k=>k []
 |x::r,k=>vB (f x) λl=>pE f r λr=>k (l::r)
theorem WD{α β:Type}(f:α→List Nat):∀(l:List α) (k:List (List Nat)→β),pE f l k=k (l.map f)
 |[],_=>rfl
 |x::r,k=>by simp only[pE,IE,WD f r,zAN]
theorem Ga:∀(l:List (List Nat)) (n:Nat),jV l n=(l[n]?).getD []
 |[],_=>rfl
 |x::_,0=>rfl
 |_::l,n+1=>by simp[jV,Ga l n]
theorem Iv{p:Nat→Bool}:∀ {n:Nat},sK p n=true→∀i,i<n→p i=true
 |0,_,i,h=>by omega
 |n+1,h,i,hi=>by
  simp only[sK,AI]at h;by_cases e:i=n
  ·rw[e];exact h.1
  ·exact Iv h.2 i (by omega)
theorem Sl{p:Nat→Bool}:∀ {l:List Nat},sL p l=true↔∀i∈l,p i=true
 |[]=>by simp[sL]
 |x::l=>by simp only[sL,AI,Sl (l:=l),zAR,forall_eq_or_imp]
theorem Xcz:∀ {a b:List Nat},pC a b=true→dZ a b=true
 |[],_,_=>rfl
 |x::a,b,h=>by
  simp only[pC,dZ,AI,zAf]at h ⊢;refine⟨?_,Xcz h.2⟩;cases e:b.contains x with
  |false=>rfl
  |true=>rw[Ix.2 (zBZ.1 e)]at h;cases h.1
theorem ZdL{ops:List Oper}{ms:List aM}{hd:List (List Nat)}(h1:IN ops.length ms.length=true)(h2:IN hd.length ms.length=true)(h:tR ms.length (ops.map waits) hd (ms.map eJ) (ms.map iQ)=true):yM ops ms hd=true:=by
 have e1:=fV h1;unfold tR at h;simp only[IE]at h;unfold yM;simp only[AI,zAj,zBR,zBS,List.any_eq_true];have key:=λj hj=>Iv h j hj;simp only[AI,Sl]at key;have hw:∀j,j<ms.length→jV (ops.map waits) j=waits (ops.getD j default):=by
  simp_all [Ga]
 have pj:∀j,jV hd j=Zn hd j:=λj=>Ga _ _;have C7:∀j,j<ms.length→jV (ms.map eJ) j=eJ (ms.getD j default):=by
  simp_all [Ga]
 have UZ:∀j,j<ms.length→jV (ms.map iQ) j=iQ (ms.getD j default):=by
  simp_all [Ga]
 refine⟨⟨⟨⟨h1,h2⟩,λj hj i hi=>?_⟩,λj hj i hi=>?_⟩,λj hj i hi=>?_⟩
 ·simp_all
 ·have:=(key j hj).2.1 i (by rw[pj];exact hi);rw[hw j hj]at this;refine⟨this.1,?_⟩;have q:=this.2;simp only[zBS,Ix,zAf]at q
  grind [Sl,Ix]
 ·have:=Iv (key j hj).2.2 i hi;rw[pj,C7 j hj,UZ j hj,C7 i (by omega),UZ i (by omega)]at this;simp only[zBS,AI,Ix]at this
  grind [Xcz]
theorem Wi{β:Type}:∀(ws:List (List Nat)) (j:Nat) (acc:List (List Nat)) (k:List (List Nat)→β),∃hd,Gq ws j acc k=k hd
 |[],_,acc,_=>⟨acc,rfl⟩
 |w::r,j,acc,k=>by
  have hu:∀ {γ:Type} (xs l:List Nat) (k:List Nat→γ),∃s,IQ xs l k=k s:=by
   intro γ xs
   induction xs with
   |nil=>intro l k;exact⟨l,rfl⟩
   |cons x xs ih=>
    intro l k;unfold IQ;cases kP l x<;>simp_all
  have hc:∀ {γ:Type} (w s:List Nat) (k:List Nat→γ),∃s',qV acc w s k=k s':=by
   intro γ w
   induction w with
   |nil=>intro s k;exact⟨s,rfl⟩
   |cons i w ih=>
    intro s k;unfold qV;obtain⟨s1,h1⟩:=hu (i::jV acc i) s (λs=>qV acc w s k);rw[h1];exact ih s1 k
  have hs:∀ {γ:Type} (s:List Nat) (j:Nat) (l:List Nat) (k:List Nat→γ),∃l',pM s j l k=k l':=by
   intro γ s j
   induction j with
   |zero=>intro l k;exact⟨l,rfl⟩
   |succ j ih=>
    intro l k;unfold pM;cases kP s j<;>simp_all
  unfold Gq;obtain⟨s,h1⟩:=hc w [] (λs=>pM s j [] λl=>vB (acc++[l]) λacc=>Gq r (j+1) acc k);rw[h1];obtain⟨l,h2⟩:=hs s j [] (λl=>vB (acc++[l]) λacc=>Gq r (j+1) acc k);simp_all [IE,Wi]
def Qy(P:Program)(GL:ar)(n:Nat):Code→Option dd
 |.skip=>some .skip
 |.region id ops dr=>bO (mapM' (HG P GL n ops.toList) ops.toList) λms=>match dr with
  |false=>some (.region id ms none)
  |true=>pE waits ops.toList λws=>Gq ws 0 [] λhd=>pE eJ ms λds=>pE iQ ms λus=>
   Y1 (IN ops.toList.length ms.length&&(IN hd.length ms.length&&tR ms.length ws hd ds us)) (some (.region id ms (some hd)))
 |.seq a b=>bO (Qy P GL n a) λx=>bO (Qy P GL n b) λy=>some (.seq x y)
 |.cond c a b=>bO (R3 GL c) λd=>bO (Qy P GL n a) λx=>bO (Qy P GL n b) λy=>some (.cond d x y)
 |.block id a=>bO (Qy P GL n a) λx=>some (.block id x)
 |.loop a=>bO (Qy P GL n a) λx=>some (.loop x)
 |.scope a=>bO (Qy P GL n a) λx=>some (.scope x)
 |.exit id=>some (.exit id)
 |.label l=>some (.label l)
 |.ret=>some .ret
 |_=>none
theorem Nr{α β:Type}{f:α→Option β}:∀ {l:List α} {r:List β},mapM' f l=some r→l.length=r.length∧∀(j:Nat) (b:β),r[j]?=some b→∃a,l[j]?=some a∧f a=some b
 |[],r,h=>by simp[mapM']at h;subst h;simp
 |a::l,r,h=>by
  obtain⟨b,hb,h⟩:=Xd h;obtain⟨r',hr,h⟩:=Xd h;cases h;obtain⟨h1,h2⟩:=Nr hr
  grind
theorem Xbc{P:Program}{GL:ar}{n:Nat}:∀ {c:Code} {m:dd},Qy P GL n c=some m→cD P GL n c m:=by
 intro c
 induction c with
 |skip=>intro m h;cases h;exact .skip
 |region id ops dr=>
  intro m h;simp only[Qy]at h;obtain⟨ms,hm,h⟩:=Xd h;obtain⟨h1,h2⟩:=Nr hm;have bQ:∀(j:Nat) (x:aM),ms[j]?=some x→∃o,ops[j]?=some o∧gf P GL n ops o x:=λj x e=>by
   grind [Ry]
  cases dr with
  |false=>cases h;exact .region _ _ _ (by simpa using h1) bQ
  |true=>
   simp only[WD]at h;obtain⟨hd,hh⟩:=Wi (ops.toList.map waits) 0 [] (λhd=>Y1 (IN ops.toList.length ms.length&&(IN hd.length ms.length&&tR ms.length (ops.toList.map waits) hd (ms.map eJ) (ms.map iQ))) (some (dd.region id ms (some hd))));rw[hh]at h;obtain⟨hg,h⟩:=Yu h;simp only[AI]at hg;cases h;exact .draw _ _ _ _ (by simpa using h1) bQ (ZdL hg.1 hg.2.1 hg.2.2)
 |seq a b U6 U7=>
  intro m h;simp only[Qy]at h;obtain⟨x,hx,h⟩:=Xd h;obtain⟨y,hy,h⟩:=Xd h;cases h;exact .seq _ _ _ _ (U6 hx) (U7 hy)
 |cond c a b U6 U7=>
  intro m h;simp only[Qy]at h;obtain⟨d,hd,h⟩:=Xd h;obtain⟨x,hx,h⟩:=Xd h;obtain⟨y,hy,h⟩:=Xd h;cases h;exact .cond _ _ _ _ _ _ (Ybz hd) (U6 hx) (U7 hy)
 |block id a ih=>
  intro m h;simp only[Qy]at h;obtain⟨x,hx,h⟩:=Xd h;cases h;exact .block _ _ _ (ih hx)
 |loop a ih=>
  intro m h;simp only[Qy]at h;obtain⟨x,hx,h⟩:=Xd h;cases h;exact .loop _ _ (ih hx)
 |scope a ih=>
  intro m h;simp only[Qy]at h;obtain⟨x,hx,h⟩:=Xd h;cases h;exact .scope _ _ (ih hx)
 |exit id=>intro m h;cases h;exact .exit _
 |label l=>intro m h;cases h;exact .label _
 |ret=>intro m h;cases h;exact .ret
 |_=>intro m h;simp[Qy]at h
def Rk(P:Program):ResultVar→Option RV
 |.tmp t=>some (.t t)
 |.cell s t=>bO (fS P t) λagg=>bO (size? P t) λn=>some (.c s agg n)
theorem Xbz{P:Program}{r:ResultVar}{v:RV}(h:Rk P r=some v):sF P r v:=by
 cases r with
 |tmp t=>cases h;exact .tmp _
 |cell s t=>
  obtain⟨agg,ha,h⟩:=Xd h;obtain⟨n,hn,h⟩:=Xd h;cases h;exact .cell _ _ _ _ ha hn
def Rp(P:Program)(GL:ar)(np:Nat)(f:FuncId):Option ve:=
 bO P.funcs[f]? λfn=>bO fn.body λc=>Y1 (zAP np fn.ntmps) (bO (Qy P GL fn.ntmps c) λm=>bO (mapM' (Rk P) fn.results.toList) λrs=>some ⟨np,fn.ntmps,m,rs⟩)
theorem Qdb{P:Program}{GL:ar}{np:Nat}{f:FuncId}{F:ve}(h:Rp P GL np f=some F):mA P GL f F:=by
 unfold Rp at h;obtain⟨fn,h1,h⟩:=Xd h;obtain⟨c,h2,h⟩:=Xd h;obtain⟨h3,h⟩:=Yu h;obtain⟨m,h4,h⟩:=Xd h;obtain⟨rs,h5,h⟩:=Xd h;cases h;exact⟨⟨fn,c,h1,h2,rfl,Xbc h4,NY Xbz h5⟩,ik h3⟩
theorem aB.ptr{h0:Hp}{rd:List Nat}{b i j sz:Nat}{rs:List (List aa)}{row row':List aa}(hb:h0 b=some (.rows sz rs))(di:b∈rd)(hi:rs[i]?=some row)(hr:bu h0 rd row row'):aB h0 rd (.ptr b i j) (.aq row' j):=by
 intro GL w0 L g h w M2 r hM dc v d;have cj:h b=some (.rows sz rs):=by rw[dc b di];exact hb
 cases d with
 |ptr _ _ _ _ cb ec=>
 cases bW:cb.cK with
 |true=>
  have:=(r.gV cj ec bW).2;subst this;simp at hi
 |false=>
 obtain⟨e1,arr,T,fO,hs,hle,dN,c7⟩:=r.fR cj ec bW;have hw:M2 cb.blk=some (.cells arr T (0,0)):=hM.2 b _ cb _ cj rfl ec bW fO;have b_:i<rs.length:=(gK hi).1;have s_:=dN _ _ hi;have nz:∀k,k<sz→cb.base+i*sz+k<arr.size:=by
  intro k hk;have:(i+1)*sz<=rs.length*sz:=zAE sz b_;rw[zBP]at this;omega
 obtain⟨k1,k2⟩:=hr.get r hM dc (vs:=(arr.extract (cb.base + i * sz) (cb.base + i * sz + sz)).toList) (by
  simp[s_];by_cases h0:sz=0
  ·subst h0;simp
  ·have:=nz (sz-1) (by omega);omega) (λk x v q3 q4=>by
  have hk:k<sz:=by rw[←s_];exact(gK q3).1
  have dU:=nz k hk;rw[zBM]at q4;obtain⟨_,q4⟩:=Array.getElem?_eq_some_iff.1 q4;rw[zBx]at q4;exact c7 _ row k x v hi q3 (by rw[zBD dU,q4]))
 have hlen:row'.length=sz:=by
  rw[k1];simp;by_cases h0:sz=0
  ·subst h0;simp
  ·have:=nz (sz-1) (by omega);omega
 rw[e1];refine .aq _ _ _ _ _ (λk=>(arr[cb.base+i*sz+k]?).getD undef) (λk hk=>?_) (λk x e=>?_)
 ·have wH:=nz k (by omega);simp[iL,hw,wH]
 ·have hk:k<sz:=by rw[←hlen];exact(gK e).1
  have dU:=nz k hk;simp only[zBD dU,zAo];refine k2 k x _ e ?_;rw[zBM,zBD (by simp;omega),zBx]
def HR(f:List aa→Option (List aa×List Nat)):List (List aa)→Option (List (List aa)×List Nat)
 |[]=>some ([],[])
 |r::rs=>match f r,HR f rs with
  |some (r',rd),some (rs',lf)=>some (r'::rs',rd++lf)
  |_,_=>none
def u_:List (aa×aa)→Bool
 |[]=>true
 |(k,v)::r=>k.ro&&(v.ro&&u_ r)
def Zy(σ:List ab):Nat→List aa→Option (List aa×List Nat)
 |_,[]=>some ([],[])
 |0,_::_=>none
 |fuel+1,x::xs=>match Zy σ fuel xs with
  |none=>none
  |some (ys,rd)=>match x with
   |.ak b j=>match aj σ b with
    |.box row=>match Zy σ fuel row with
     |some (row',lf)=>some (.aq row' j::ys,b::lf++rd)
     |none=>none
    |_=>none
   |.ptr b i j=>match aj σ b with
    |.rows _ rs=>match nth rs i with
     |some row=>match Zy σ fuel row with
      |some (row',lf)=>some (.aq row' j::ys,b::lf++rd)
      |none=>none
     |none=>none
    |_=>none
   |.sl b off len ex=>match aj σ b with
    | .rows sz rs=>bif zAP (off + len) rs.length then (match HR (Zy σ fuel) (cut off (off + len) rs)with
     |some (rs',lf)=>some (.aU ex false sz rs'::ys,b::lf++rd)
     | none=>none)else none
    |_=>none
   |.map b=>match aj σ b with
    |.map es=>bif u_ es then some (.fL es::ys,b::rd)else none
    |_=>none
   |.iface t v=>match Zy σ fuel [v]with
    |some ([v'],lf)=>some (.iface t v'::ys,lf++rd)
    |_=>none
   |.agg cs=>match Zy σ fuel cs with
    |some (Bm,lf)=>some (.agg Bm::ys,lf++rd)
    |_=>none
   |.func fn a b=>match Zy σ fuel a,Zy σ fuel b with
    |some (a',lf),some (b',VE)=>some (.func fn a' b'::ys,lf++VE++rd)
    |_,_=>none
   |x=>bif x.ro then some (x::ys,rd)else none
theorem PO:∀ {es:List (aa×aa)},u_ es=true→∀p∈es,p.1.ro=true∧p.2.ro=true
 |[],_,_,h=>by cases h
 |(k,v)::r,h,p,hp=>by
  simp only[u_,AI]at h;rcases zAR.1 hp with rfl|hp
  ·exact⟨h.1,h.2.1⟩
  ·exact PO h.2.2 p hp
theorem ZbE{f:List aa→Option (List aa×List Nat)}:∀ {rs rs':List (List aa)} {rd:List Nat},HR f rs=some (rs',rd)→rs'.length=rs.length∧∀(i:Nat) (r r':List aa),rs[i]?=some r→rs'[i]?=some r'→∃lf,f r=some (r',lf)∧∀b∈lf,b∈rd
 |[],rs',rd,h=>by simp only[HR]at h;cases h;simp
 |r::rs,rs',rd,h=>by
  simp only[HR]at h;split at h
  ·rename_i r1 xo rs1 rW e1 e2;cases h;obtain⟨h1,h2⟩:=ZbE e2;refine⟨by simp[h1],λi x x' q1 q2=>?_⟩;cases i with
   |zero=>simp at q1 q2;subst q1 q2;exact⟨xo,e1,λb hb=>zAI.2 (.inl hb)⟩
   |succ i=>
    simp at q1 q2;obtain⟨lf,k1,k2⟩:=h2 i x x' q1 q2;exact⟨lf,k1,λb hb=>zAI.2 (.inr (k2 b hb))⟩
  ·cases h
theorem Q2{σ:List ab}:∀(fuel:Nat) (xs ys:List aa) (rd:List Nat),Zy σ fuel xs=some (ys,rd)→∀lf,(∀b∈rd,b∈lf)→bu (hp σ) lf xs ys:=by
 intro fuel
 induction fuel with
 |zero=>
  intro xs ys rd h lf hs;cases xs<;>simp_all [Zy,bu.nil]
 |succ fuel ih=>
  intro xs ys rd h lf hs;cases xs with
  |nil=>simp_all [Zy]
  |cons x xs=>
   simp only[Zy]at h;cases h0:Zy σ fuel xs with
   |none=>simp[h0]at h
   |some p=>
    obtain⟨ys0,rd0⟩:=p;simp only[h0]at h;split at h
    ·rename_i b j;split at h<;>grind [bu.cons,aB.box,ZQ]
    ·rename_i b i j;split at h
     ·rename_i sz rs hg;split at h<;>grind [Y7,bu.cons,aB.ptr,ZH]
     ·cases h
    ·rename_i b off len ex;split at h
     ·rename_i sz rs hg
      replace h:=QE h
      obtain⟨hle,h⟩:=h;split at h
      ·rename_i rs' xo hr;cases h;obtain⟨m1,m2⟩:=ZbE hr;have Kt:=ik hle;refine bu.cons (aB.sl (ZH hg) (hs _ (by simp)) Kt (by rw[m1,Hu Kt];omega) (λi r r' q1 q2=>?_)) (ih _ _ _ h0 lf (λq hq=>hs q (by simp[hq])));have hi:i<len:=by
        grind [Hu]
       have hc:(cut off (off+len) rs)[i]?=some r:=by
        grind [cut]
       grind
      ·cases h
     ·cases h
    ·rename_i b;split at h
     ·rename_i es hg
      replace h:=QE h
      obtain⟨kY,h⟩:=h;cases h;exact bu.cons (aB.map (Ia hg) (hs _ (by simp)) (PO kY)) (ih _ _ _ h0 lf (λq hq=>hs q (by simp[hq])))
     ·cases h
    ·split at h
     ·rename_i v' xo hr;cases h;have:=ih _ _ _ hr lf (λq hq=>hs q (by simp[hq]));refine bu.cons (aB.iface (λGL w0 L g h w M2 r hM dc v d=>?_)) (ih _ _ _ h0 lf (λq hq=>hs q (by simp[hq])));exact(this GL w0 L g h w M2 r hM dc [v] ⟨d,trivial⟩).1
     ·cases h
    ·grind [bu.cons,aB.agg]
    ·grind [bu.cons,aB.func]
    ·replace h:=QE h
     grind [bu.cons,aB.ro]
end Go.Ah
end
section
namespace Go.Ah
mutual
def aa.ct (m:Nat→Option Nat):aa→aa
 |.ak b j=>match m b with
  |some b'=>.ak b' j
  |none=>.aQ
 |.ptr b i j=>match m b with
  |some b'=>.ptr b' i j
  |none=>.aQ
 |.sl b off len ex=>match m b with
  |some b'=>.sl b' off len ex
  |none=>.aQ
 |.map b=>match m b with
  |some b'=>.map b'
  |none=>.aQ
 |.iter b=>match m b with
  |some b'=>.iter b'
  |none=>.aQ
 |.func fn xs ys=>.func fn (ic m xs) (ic m ys)
 |.iface t v=>.iface t (v.ct m)
 |.agg cs=>.agg (ic m cs)
 |.bp cs=>.bp (ic m cs)
 |.when cs x=>.when cs (x.ct m)
 |.aQ=>.aQ
 |.bool b=>.bool b
 |.int k n=>.int k n
 |.str s=>.str s
 |.fj=>.fj
 |.aq row j=>.aq row j
 |.an=>.an
 |.cS=>.cS
 |.aU a b c d=>.aU a b c d
 |.fL es=>.fL es
 |.cQ=>.cQ
 |.bH=>.bH
 |.dp=>.dp
def ic (m:Nat→Option Nat):List aa→List aa
 |[]=>[]
 |x::xs=>x.ct m::ic m xs
end
theorem Ss(m:Nat→Option Nat):∀xs:List aa,ic m xs=xs.map (aa.ct m)
 |[]=>rfl
 |x::xs=>by simp[ic,Ss m xs]
theorem Gg{m:Nat→Option Nat}{xs:List aa}{i:Nat}{y:aa}(h:(ic m xs)[i]?=some y):∃x,xs[i]?=some x∧y=x.ct m:=by
 rw[Ss,zAX]at h
 grind
theorem YA(m:Nat→Option Nat)(xs:List aa):(ic m xs).length=xs.length:=by rw[Ss];simp
theorem Den.ct{M:Nat→Option Obj}{m:Nat→Option Nat}{c':Own}{c:Own}{x:aa}{v:Value}(h:Den M c x v):(∀b b' cb,m b=some b'→c b=some cb→c' b'=some cb)→Den M c' (x.ct m) v:=by
 induction h with
 |aQ=>intro _;exact .aQ _ _
 |bool=>intro _;exact .bool _ _
 |int=>intro _;exact .int _ _ _
 |str=>intro _;exact .str _ _
 |fj=>intro _;exact .fj _
 |ak c b j cb e=>
  intro hm;simp only[aa.ct];cases hb:m b with
  |none=>exact .aQ _ _
  |some b'=>exact .ak _ _ _ _ (hm _ _ _ hb e)
 |ptr c b i j cb e=>
  intro hm;simp only[aa.ct];cases hb:m b with
  |none=>exact .aQ _ _
  |some b'=>exact .ptr _ _ _ _ _ (hm _ _ _ hb e)
 |aq c row j blk off f h1 h2 ih=>intro _;exact .aq _ _ _ _ _ f h1 h2
 |an=>intro _;exact .an _
 |cS=>intro _;exact .cS _ _
 |sl c b off len ex cb cap e h1 h2 h3 h4=>
  intro hm;simp only[aa.ct];cases hb:m b with
  |none=>exact .aQ _ _
  |some b'=>exact .sl _ _ _ _ _ _ _ (hm _ _ _ hb e) h1 h2 h3 h4
 |oV c b ex cb a e h1=>
  intro hm;simp only[aa.ct];cases hb:m b with
  |none=>exact .aQ _ _
  |some b'=>exact .oV _ _ _ _ _ (hm _ _ _ hb e) h1
 |sle c b off ex cb a e h1 h2 h3=>
  intro hm;simp only[aa.ct];cases hb:m b with
  |none=>exact .aQ _ _
  |some b'=>exact .sle _ _ _ _ _ _ (hm _ _ _ hb e) h1 h2 h3
 |aU c ex nn sz rows a cap blk off f h1 h2 h3 uH h4 h5 h6 h7 ih=>intro _;exact .aU _ _ _ _ _ _ _ blk off f h1 h2 h3 uH h4 h5 h6 h7
 |map c b cb e=>
  intro hm;simp only[aa.ct];cases hb:m b with
  |none=>exact .aQ _ _
  |some b'=>exact .map _ _ _ (hm _ _ _ hb e)
 |fL c es blk arr clock e h1 h2 h3 u6 u7=>intro _;exact .fL _ _ _ _ _ e h1 h2 h3
 |cQ=>intro _;exact .cQ _
 |func c fn first captured vs ws h1 h2 h3 h4 u6 u7=>
  intro hm;simp only[aa.ct];exact .func _ _ _ _ _ _ (by rw[YA];exact h1) (by rw[YA];exact h2)
   (λi y u e1 e2=>by obtain⟨x,q1,rfl⟩:=Gg e1;exact u6 i x u q1 e2 hm) (λi y u e1 e2=>by obtain⟨x,q1,rfl⟩:=Gg e1;exact u7 i x u q1 e2 hm)
 |bH=>intro _;exact .bH _
 |iface c t x v h ih=>intro hm;exact .iface _ _ _ _ (ih hm)
 |dp=>intro _;exact .dp _
 |agg c cs vs h1 h2 ih=>intro hm;simp only[aa.ct];exact .agg _ _ _ (by rw[YA];exact h1) (λi y u e1 e2=>by obtain⟨x,q1,rfl⟩:=Gg e1;exact ih i x u q1 e2 hm)
 |bp c cs vs h1 h2 ih=>intro hm;simp only[aa.ct];exact .bp _ _ _ (by rw[YA];exact h1) (λi y u e1 e2=>by obtain⟨x,q1,rfl⟩:=Gg e1;exact ih i x u q1 e2 hm)
 |when c cs x v h h2 ih=>intro hm;exact .when _ _ _ _ (λhp=>ih hp hm) h2
 |iter c b cb e=>
  intro hm;simp only[aa.ct];cases hb:m b with
  |none=>exact .aQ _ _
  |some b'=>exact .iter _ _ _ (hm _ _ _ hb e)
mutual
def aa.dq:aa→Bool
 |.aq _ _=>false
 |.aU _ _ _ (_::_)=>false
 |.fL _=>false
 |.func _ xs ys=>iw xs&&iw ys
 |.iface _ v=>v.dq
 |.agg cs=>iw cs
 |.bp cs=>iw cs
 |.when _ x=>x.dq
 |_=>true
def iw:List aa→Bool
 |[]=>true
 |x::xs=>x.dq&&iw xs
end
theorem IC:∀ {xs:List aa} {i:Nat} {x:aa},iw xs=true→xs[i]?=some x→x.dq=true
 |[],i,x,_,e=>by simp at e
 |y::xs,0,x,h,e=>by simp_all [iw]
 |y::xs,i+1,x,h,e=>by simp[iw]at h;simp at e;exact IC h.2 e
mutual
theorem aa.kg (m:Nat→Option Nat):∀(x:aa),x.dq=true→(x.ct m).dq=true
 |.ak b j,_=>by simp only[aa.ct];split<;>rfl
 |.ptr b i j,_=>by simp only[aa.ct];split<;>rfl
 |.sl b off len ex,_=>by simp only[aa.ct];split<;>rfl
 |.map b,_=>by simp only[aa.ct];split<;>rfl
 |.iter b,_=>by simp only[aa.ct];split<;>rfl
 |.func fn xs ys,h=>by
  simp only[aa.dq,AI]at h
  simp only[aa.ct,aa.dq,AI]
  exact⟨Ii m xs h.1,Ii m ys h.2⟩
 |.iface t v,h=>by simp only[aa.dq]at h;simp only[aa.ct,aa.dq];exact aa.kg m v h
 |.agg cs,h=>by simp only[aa.dq]at h;simp only[aa.ct,aa.dq];exact Ii m cs h
 |.bp cs,h=>by simp only[aa.dq]at h;simp only[aa.ct,aa.dq];exact Ii m cs h
 |.when cs x,h=>by simp only[aa.dq]at h;simp only[aa.ct,aa.dq];exact aa.kg m x h
 |.aQ,_=>rfl
 |.bool b,_=>rfl
 |.int k n,_=>rfl
 |.str s,_=>rfl
 |.fj,_=>rfl
 |.aq row j,h=>h
 |.an,_=>rfl
 |.cS,_=>rfl
 |.aU a b c d,h=>h
 |.fL es,h=>h
 |.cQ,_=>rfl
 |.bH,_=>rfl
 |.dp,_=>rfl
theorem Ii (m:Nat→Option Nat):∀(xs:List aa),iw xs=true→iw (ic m xs)=true
 |[],_=>rfl
 |x::xs,h=>by
  simp only[iw,AI]at h
  simp only[ic,iw,AI]
  exact⟨aa.kg m x h.1,Ii m xs h.2⟩
end
def ab.dC(f:aa→aa):ab→ab
 |.dead=>.dead
 |.box row=>.box (row.map f)
 |.rows sz rs=>.rows sz (rs.map λr=>r.map f)
 |.map es=>.map (es.map λp=>(f p.1,f p.2))
 |.fw s p=>.fw s p
 |.full sz rs=>.full sz (rs.map λr=>r.map f)
def ab.sx(p:aa→Prop):ab→Prop
 |.dead=>True
 |.box row=>∀x∈row,p x
 |.rows _ rs=>∀r∈rs,∀x∈r,p x
 |.map es=>∀e∈es,p e.1∧p e.2
 |.fw _ _=>True
 |.full _ rs=>∀r∈rs,∀x∈r,p x
def Z2:List (List aa)→Bool
 |[]=>true
 |r::rs=>iw r&&Z2 rs
def M6:List (aa×aa)→Bool
 |[]=>true
 |(k,v)::r=>k.dq&&(v.dq&&M6 r)
def ab.dq:ab→Bool
 |.dead=>true
 |.box row=>iw row
 |.rows _ rs=>Z2 rs
 |.map es=>M6 es
 |.fw _ _=>true
 |.full _ rs=>Z2 rs
def ya:List ab→Bool
 |[]=>true
 |b::bs=>b.dq&&ya bs
theorem Re:∀ {xs:List aa},iw xs=true→∀x∈xs,x.dq=true
 |y::xs,h,x,hx=>by
  simp only[iw,AI]at h;rcases zAR.1 hx with rfl|hx
  ·exact h.1
  ·exact Re h.2 x hx
theorem P9:∀ {rs:List (List aa)},Z2 rs=true→∀r∈rs,∀x∈r,x.dq=true
 |y::rs,h,r,hr=>by
  simp only[Z2,AI]at h;rcases zAR.1 hr with rfl|hr
  ·exact Re h.1
  ·exact P9 h.2 r hr
theorem ZbG:∀ {es:List (aa×aa)},M6 es=true→∀e∈es,e.1.dq=true∧e.2.dq=true
 |(k,v)::r,h,e,he=>by
  simp only[M6,AI]at h;rcases zAR.1 he with rfl|he
  ·exact⟨h.1,h.2.1⟩
  ·exact ZbG h.2.2 e he
theorem ab.xm{b:ab}(h:b.dq=true):b.sx (λx=>x.dq=true):=by
 cases b with
 |dead=>trivial
 |box row=>exact Re h
 |rows sz rs=>exact P9 h
 |map es=>exact ZbG h
 |fw s q=>trivial
 |full sz rs=>exact P9 h
theorem Wr:∀ {bs:List ab},ya bs=true→∀b∈bs,b.sx (λx=>x.dq=true)
 |y::bs,h,b,hb=>by
  simp only[ya,AI]at h;rcases zAR.1 hb with rfl|hb
  ·exact ab.xm h.1
  ·exact Wr h.2 b hb
theorem ab.all_true(b:ab):b.sx (λ_=>True):=by
 cases b<;>simp[ab.sx]
theorem Den.dq{M:Nat→Option Obj}{c:Own}{x:aa}{v:Value}(h:Den M c x v):x.dq=true→∀M',Den M' c x v:=by
 induction h with
 |aQ=>intro _ _;exact .aQ _ _
 |bool=>intro _ _;exact .bool _ _
 |int=>intro _ _;exact .int _ _ _
 |str=>intro _ _;exact .str _ _
 |fj=>intro _ _;exact .fj _
 |ak c b j cb e=>intro _ _;exact .ak _ _ _ _ e
 |ptr c b i j cb e=>intro _ _;exact .ptr _ _ _ _ _ e
 |aq=>intro h;simp[aa.dq]at h
 |an=>intro _ _;exact .an _
 |cS=>intro _ _;exact .cS _ _
 |sl c b off len ex cb cap e h1 h2 h3 h4=>intro _ _;exact .sl _ _ _ _ _ _ _ e h1 h2 h3 h4
 |oV c b ex cb a e h1=>intro _ _;exact .oV _ _ _ _ _ e h1
 |sle c b off ex cb a e h1 h2 h3=>intro _ _;exact .sle _ _ _ _ _ _ e h1 h2 h3
 |aU c ex nn sz rows a cap blk off f h1 h2 h3 uH h4 h5 h6 h7 ih=>
  intro h M';cases rows with
  |nil=>exact .aU _ _ _ _ [] _ _ blk off f h1 h2 h3 uH h4 h5 (by simp) (by simp)
  |cons r rs=>simp[aa.dq]at h
 |map c b cb e=>intro _ _;exact .map _ _ _ e
 |fL=>intro h;simp[aa.dq]at h
 |cQ=>intro _ _;exact .cQ _
 |func c fn first captured vs ws h1 h2 h3 h4 u6 u7=>
  intro h M';simp[aa.dq]at h;exact .func _ _ _ _ _ _ h1 h2 (λi x v e1 e2=>u6 i x v e1 e2 (IC h.1 e1) M') (λi x v e1 e2=>u7 i x v e1 e2 (IC h.2 e1) M')
 |bH=>intro _ _;exact .bH _
 |iface c t x v h ih=>intro hr M';exact .iface _ _ _ _ (ih (by simpa[aa.dq]using hr) M')
 |dp=>intro _ _;exact .dp _
 |agg c cs vs h1 h2 ih=>intro h M';exact .agg _ _ _ h1 (λi x v e1 e2=>ih i x v e1 e2 (IC (by simpa[aa.dq]using h) e1) M')
 |bp c cs vs h1 h2 ih=>intro h M';exact .bp _ _ _ h1 (λi x v e1 e2=>ih i x v e1 e2 (IC (by simpa[aa.dq]using h) e1) M')
 |when c cs x v h h2 ih=>intro hr M';exact .when _ _ _ _ (λhp=>ih hp (by simpa[aa.dq]using hr) M') h2
 |iter c b cb e=>intro _ _;exact .iter _ _ _ e
theorem ab.bR(f:aa→aa)(b:ab):(b.dC f).live=b.live:=by cases b<;>rfl
theorem iG.dC{M M':Nat→Option Obj}{c c':Own}{f:aa→aa}{p:aa→Prop}(hf:∀x v,p x→Den M c x v→Den M' c' (f x) v){cb:CB}{o:Obj}{b:ab}(h:iG M c cb o b)(hp:b.sx p):iG M' c' cb o (b.dC f):=by
 cases b with
 |dead=>trivial
 |box row=>
  obtain⟨arr,T,h1,h2,h3⟩:=h;refine⟨arr,T,h1,by simpa using h2,λj x v e1 e2=>?_⟩;rw[zAX]at e1;cases hx:row[j]? with
  |none=>simp[hx]at e1
  |some y=>simp[hx]at e1;subst e1;exact hf y v (hp y (zAK hx)) (h3 j y v hx e2)
 |rows sz rows=>
  obtain⟨h0,arr,T,h1,h2,h3,h4,h5⟩:=h;refine⟨h0,arr,T,h1,h2,by simpa using h3,λi row e=>?_,λi row j x v e1 e2 e3=>?_⟩
  ·grind
  ·rw[zAX]at e1;cases hx:rows[i]? with
   |none=>simp[hx]at e1
   |some y=>
    simp[hx]at e1;subst e1;rw[zAX]at e2;cases hy:y[j]? with
    |none=>simp[hy]at e2
    |some z=>simp[hy]at e2;subst e2;exact hf z v (hp y (zAK hx) z (zAK hy)) (h5 i y j z v hx hy e3)
 |map es=>
  obtain⟨arr,clock,h1,h2,h3⟩:=h;refine⟨arr,clock,h1,by simpa using h2,λi k x e e1 e2=>?_⟩;rw[zAX]at e1;cases hx:es[i]? with
  |none=>simp[hx]at e1
  |some y=>
   simp[hx]at e1;obtain⟨rfl,rfl⟩:=e1;have:=h3 i y.1 y.2 e hx e2;have hpy:=hp y (zAK hx);simp_all
 |fw s q=>exact h
 |full sz rows=>
  obtain⟨hq,h0,arr,T,h1,h2,h3,h4,h5⟩:=h;refine⟨by simpa using hq,h0,arr,T,h1,h2,by simpa using h3,λi row e=>?_,λi row j x v e1 e2 e3=>?_⟩
  ·grind
  ·rw[zAX]at e1;cases hx:rows[i]? with
   |none=>simp[hx]at e1
   |some y=>
    simp[hx]at e1;subst e1;rw[zAX]at e2;cases hy:y[j]? with
    |none=>simp[hy]at e2
    |some z=>simp[hy]at e2;subst e2;exact hf z v (hp y (zAK hx) z (zAK hy)) (h5 i y j z v hx hy e3)
def XC(N:Nat):Nat→Option Nat:=λb=>some (b+N)
def YB(N:Nat):List ab→List (Nat×ab)
 |[]=>[]
 |b::bs=>(N,b)::YB (N+1) bs
theorem X':∀(bs:List ab) (N:Nat) (h:Hp) (b:Nat),cw h (YB N bs) b=if N<=b∧b<N+bs.length then bs[b-N]? else h b
 |[],N,h,b=>by simp[YB,cw];intro h1 h2;omega
 |x::bs,N,h,b=>by
  simp only[YB,cw];rw[X' bs (N+1)];by_cases h1:b=N
  ·subst h1;rw[aE (by omega),aJ (by simp),Qr];simp
  ·by_cases h2:N+1<=b∧b<N+1+bs.length
   ·grind
   ·rw[aE h2,aE (by simp;omega),Xp _ _ h1]
section
variable {P:Program} {GL:ar}
def de(P:Program)(GL:ar)(f:FuncId)(xs:List aa)(v:aa)(bs:List ab):Prop:=
 ∀(w:World) (M:Nat→Option Obj) (vs:List Value),(∀b o,M b=some o→w.heap[b]?=some o)→(∀p∈GL,Den M bA (.aq p.2 0) (.pointer (some ⟨p.1,0,none⟩)))→dM ⟨M,bA⟩ xs vs →
  Calls P f vs.toArray w λe w'=>∃u,e=.returned u∧∃g',i9 M g'.M∧bx GL w ⟨[],M⟩ g' (hp bs) w'∧g'.den v u
theorem Za1{f:FuncId}{F:ve}(ok:mA P GL f F){xs:List aa}(hn:xs.length=F.np){v:aa}{bs:List ab}
 (h:iR P GL F.n F.body (eO xs) [] (λe ρ σ=>(e=.normal∨e=.ret)∧iE F.gE ρ σ=some v∧σ=bs)):de P GL f xs v bs:=by
 intro w M vs hM hg hx;obtain⟨fn,c,h1,h2,h3,h4,h5⟩:=ok.ok;have r0:=bx.start (GL:=GL) w M hM hg;have hh:hp []=oQ:=by funext b;simp[hp,oQ]
 rw[←hh]at r0;have d0:=X3 hx (n:=F.n) (by rw[hn];exact ok.np);refine calls_of_wp h1 h2 ?_;rw[h3];refine wp_mono (h c h4 w ⟨[],M⟩ _ _ w r0 d0) (λe a' w' hl=>?_);have fin:∀g' ρ σ,(⟨M,bA⟩:Gm).Le g'→bx GL w ⟨[],M⟩ g' (hp σ) w'→cR F.n g' ρ a'→(iE F.gE ρ σ=some v∧σ=bs)→∃u,(results fn a'.tmps).run P w'=.ok u w'∧(∃u',zCV u=.returned u'∧∃g',i9 M g'.M∧bx GL w ⟨[],M⟩ g' (hp bs) w'∧g'.den v u'):=by
  rintro g' ρ σ hle hr hd ⟨oH,rfl⟩;obtain⟨u,k1,k2⟩:=GN hr hd h5 oH;exact⟨u,k1,u,rfl,g',hle.m,hr,k2⟩
 cases e with
 |normal=>obtain⟨g',ρ,σ,k1,k2,k3,k4⟩:=hl;exact⟨k3.defers,fin g' ρ σ k1 k2 k3 k4.2⟩
 |ret=>obtain⟨g',ρ,σ,k1,k2,k3,k4⟩:=hl;exact⟨k3.defers,fin g' ρ σ k1 k2 k3 k4.2⟩
 |exit id=>obtain⟨g',ρ,σ,k1,k2,k3,k4⟩:=hl;rcases k4.1 with q|q<;>cases q
 |_=>exact hl.elim
theorem bx.BP{w0:World}{L:Ln}{g:Gm}{h:Hp}{w w':World}(r:bx GL w0 L g h w){M:Nat→Option Obj}{g':Gm}{h':Hp}{bs:List ab}(r':bx GL w ⟨[],M⟩ g' h' w')(s:Nat)(hs:∀i,i<bs.length→h' (s+i)=bs[i]?)(m:Nat→Option Nat)(M2:Nat→Option Obj)(p:aa→Prop)
 (hM:i9 g.M M2)(ir:∀b o,M2 b=some o→w'.heap[b]?=some o)(kO:∀b o,M2 b=some o→g.M b=some o∨w.heap.size<=b)(sW:∀b,w.heap.size<=b→g'.M b=none→M2 b=none)
 (c7:∀c x v,p x→Den g'.M c x v→Den M2 c x v)(iq:∀b∈bs,b.sx p)(uW:∀x m,p x→p (aa.ct m x)){N:Nat}(hN:∀i,i<bs.length→h (N+i)=none)
 (hm:∀b b' cb,m b=some b'→g'.c b=some cb→(∃i,i<bs.length∧b=s+i∧b'=N+i)∨(g.c b'=some cb)) :
  ∃c2,gH g.c c2∧(∀b b' cb,m b=some b'→g'.c b=some cb→c2 b'=some cb)∧bx GL w0 L ⟨M2,c2⟩ (cw h (YB N (bs.map (ab.dC (aa.ct m))))) w':=by
 let c2:Own:=λb=>if N<=b∧b<N+bs.length then g'.c (b-N+s)else g.c b
 have hc:gH g.c c2:=by
  intro b cb e;by_cases hb:N<=b∧b<N+bs.length
  ·have:=r.d_ b (by have:=hN (b-N) (by omega);simp_all);rw[this]at e;cases e
  ·simp only[c2,aE hb];exact e
 have kN:∀b b' cb,m b=some b'→g'.c b=some cb→c2 b'=some cb:=by
  intro b b' cb e1 e2;rcases hm b b' cb e1 e2 with ⟨i,q1,q2,q3⟩|q
  ·grind
  ·exact hc _ _ q
 have hH:∀b,cw h (YB N (bs.map (ab.dC (aa.ct m)))) b=if N<=b∧b<N+bs.length then (bs[b-N]?).map (ab.dC (aa.ct m))else h b:=by
  intro b;rw[X'];simp
 have jx:∀b blk,cw h (YB N (bs.map (ab.dC (aa.ct m)))) b=some blk→(h b=some blk∧c2 b=g.c b)∨∃i blk0,i<bs.length∧b=i+N∧h' (s+i)=some blk0∧blk=blk0.dC (aa.ct m)∧c2 b=g'.c (s+i)∧blk0∈bs:=by
  grind
 have KQ:=r.keeps.size;refine⟨c2,hc,kN,?_⟩;refine { keeps:=r.keeps.trans' r'.keeps.os r'.keeps.tape r'.keeps.output r'.keeps.size (λb hb _=>r'.keeps.block b (by omega) (by simp)),aX:=ir,src:=λb o e=>?_,cr:=λq hq=>(r.cr q hq).mono hM (gH.refl _),d_:=λb e=>?_,jn:=λb blk e=>?_,own:=λb blk cb e hl ec hv=>?_,bc:=λb blk cb e hl ec hv=>?_,inj:=λb b' blk blk' cb eN e e' hl lX ec gN hv ss hq=>?_ }
 ·rcases kO b o e with q|q
  ·exact r.src b o q
  ·exact .inr (.inl (by omega))
 ·rw[hH]at e;show c2 b=none;by_cases hb:N<=b∧b<N+bs.length
  ·grind
  ·rw[aE hb]at e;simp only[c2];rw[aE hb];exact r.d_ b e
 ·rcases jx b blk e with ⟨q1,q2⟩|⟨i,blk0,q1,q2,q3,q4,q5,q6⟩
  ·obtain⟨cb,k⟩:=r.jn b blk q1;simp_all
  ·obtain⟨cb,k⟩:=r'.jn (s+i) blk0 q3;simp_all
 ·replace ec:c2 b=some cb:=ec
  rcases jx b blk e with ⟨q1,q2⟩|⟨i,blk0,q1,q2,q3,q4,q5,q6⟩
  ·rw[q2]at ec;obtain⟨k1,k2,o,ho,bQ⟩:=r.own b blk cb q1 hl ec hv;have b_:=r.dW q1 hl ec hv;refine⟨?_,k2,o,by rw[r'.keeps.block _ b_ (by simp)];exact ho,bQ.mono hM hc⟩;show M2 cb.blk=none;cases qF:M2 cb.blk<;>grind
  ·rw[q5]at ec;obtain⟨k1,k2,o,ho,bQ⟩:=r'.own (s+i) blk0 cb q3 (by rw[q4,ab.bR]at hl;exact hl) ec hv;have vn:w.heap.size<=cb.blk:=by simp_all
   refine⟨sW _ vn k1,.inr (by omega),o,ho,?_⟩;rw[q4];refine bQ.dC (p:=p) (λx v hx hd=>?_) (iq _ q6);exact c7 _ _ _ (uW _ _ hx) (hd.ct kN)
 ·replace ec:c2 b=some cb:=ec
  rcases jx b blk e with ⟨q1,q2⟩|⟨i,blk0,q1,q2,q3,q4,q5,q6⟩
  ·rw[q2]at ec;exact r.bc b blk cb q1 hl ec hv
  ·rw[q5]at ec;have:=r'.bc (s+i) blk0 cb q3 (by rw[q4,ab.bR]at hl;exact hl) ec hv;rw[q4,this];rfl
 ·replace ec:c2 b=some cb:=ec
  replace gN:c2 b'=some eN:=gN
  rcases jx b blk e with ⟨q1,q2⟩|⟨i,blk0,q1,q2,q3,q4,q5,q6⟩<;>rcases jx b' blk' e' with ⟨p1,p2⟩|⟨i',AW,p1,p2,p3,p4,p5,p6⟩
  ·rw[q2]at ec;rw[p2]at gN;exact r.inj b b' blk blk' cb eN q1 p1 hl lX ec gN hv ss hq
  ·rw[q2]at ec;rw[p5]at gN;have h1:=r.dW q1 hl ec hv;obtain⟨_,k2,_⟩:=r'.own (s+i') AW eN p3 (by simp_all [ab.bR]) gN ss
   grind
  ·rw[q5]at ec;rw[p2]at gN;have h1:=r.dW p1 lX gN ss;obtain⟨_,k2,_⟩:=r'.own (s+i) blk0 cb q3 (by rw[q4,ab.bR]at hl;exact hl) ec hv
   grind
  ·rw[q5]at ec;rw[p5]at gN;have:=r'.inj (s+i) (s+i') blk0 AW cb eN q3 p3 (by rw[q4,ab.bR]at hl;exact hl) (by simp_all [ab.bR]) ec gN hv ss hq;omega
theorem bx.join{w0:World}{L:Ln}{g:Gm}{h:Hp}{w w':World}(r:bx GL w0 L g h w){M:Nat→Option Obj}{g':Gm}{bs:List ab}(r':bx GL w ⟨[],M⟩ g' (hp bs) w')(M2:Nat→Option Obj)(p:aa→Prop)
 (hM:i9 g.M M2)(ir:∀b o,M2 b=some o→w'.heap[b]?=some o)(kO:∀b o,M2 b=some o→g.M b=some o∨w.heap.size<=b)(sW:∀b,w.heap.size<=b→g'.M b=none→M2 b=none)
 (c7:∀c x v,p x→Den g'.M c x v→Den M2 c x v)(iq:∀b∈bs,b.sx p)(uW:∀x m,p x→p (aa.ct m x)){N:Nat}(hN:∀i,i<bs.length→h (N+i)=none) :
  ∃c2,gH g.c c2∧(∀b cb,b<bs.length→g'.c b=some cb→c2 (b+N)=some cb)∧bx GL w0 L ⟨M2,c2⟩ (cw h (YB N (bs.map (ab.dC (aa.ct (XC N)))))) w':=by
 obtain⟨c2,k1,k2,k3⟩:=r.BP r' 0 (λi hi=>by simp[hp]) (XC N) M2 p hM ir kO sW c7 iq uW hN (λb b' cb e1 e2=>by
  simp only[XC,zBl]at e1;subst e1;by_cases hb:b<bs.length
  ·exact .inl ⟨b,hb,by omega,by omega⟩
  ·have:=r'.d_ b (by simp[hp];omega);rw[this]at e2;cases e2)
 exact⟨c2,k1,λb cb _ e=>k2 b (b+N) cb rfl e,k3⟩
def Xv(N:Nat)(bs:List ab):List ab:=bs.map (ab.dC (aa.ct (XC N)))
theorem NV:∀(bs:List ab) (N:Nat) (i:Nat),i<bs.length→∃b,(N+i,b)∈YB N bs
 |b::bs,N,0,_=>⟨b,by simp[YB]⟩
 |b::bs,N,i+1,h=>by
  obtain⟨x,hx⟩:=NV bs (N+1) i (by simpa using h);exact⟨x,by rw[show N+(i+1)=N+1+i by omega];exact zAn _ hx⟩
theorem de.here{f:FuncId}{xs:List aa}{v:aa}{bs:List ab}(hc:de P GL f xs v bs)(zY:ga xs=true){h0:Hp}{N:Nat}(hN:∀i,i<bs.length→h0 (N+i)=none):jo P GL f xs h0 (v.ct (XC N)) [] (YB N (Xv N bs)):=by
 intro w0 L g h w vs r hx _ ei;refine(hc w g.M vs r.aX r.cr (RP zY hx bA)).mono ?_;rintro e w' ⟨u,he,g',hle,r',hd⟩;obtain⟨c2,k1,k2,k3⟩:=r.join r' g'.M (λ_=>True) hle r'.aX (λb o e=>by
  rcases r'.src b o e with q|q|q<;>simp_all) (λ_ _ e=>e) (λ_ _ _ _ d=>d) (λb _=>ab.all_true b) (λ_ _ _=>trivial) (N:=N) (λi hi=>by
   obtain⟨b,hb⟩:=NV (Xv N bs) N i (by simpa[Xv]using hi);rw[ei _ hb];exact hN i hi)
 refine⟨u,he,⟨g'.M,c2⟩,⟨hle,k1⟩,k3,hd.ct (λb b' cb e1 e2=>?_)⟩;simp only[XC,zBl]at e1;subst e1;refine k2 b cb ?_ e2;by_cases hb:b<bs.length
 ·exact hb
 ·have:=r'.d_ b (by simp[hp];omega);rw[this]at e2;cases e2
theorem de.qk{f:FuncId}{xs ys:List aa}{v:aa}{bs:List ab}{rd:List Nat}{h0:Hp}(hc:de P GL f ys v bs)(hb:bu h0 rd xs ys)(hv:v.dq=true)(C3:ya bs=true){N:Nat}(hN:∀i,i<bs.length→h0 (N+i)=none):jo P GL f xs h0 (v.ct (XC N)) rd (YB N (Xv N bs)):=by
 intro w0 L g h w vs r hx dc ei;refine(hc w (World.all w) vs (λ_ _ e=>e) (λp hp=>(r.cr p hp).mono r.te (gH.refl _)) (hb GL w0 L g h w _ r r.tQ dc vs hx)).mono ?_;rintro e w' ⟨u,he,g',hle,r',hd⟩;obtain⟨c2,k1,k2,k3⟩:=r.join r' g.M (λx=>x.dq=true) (i9.refl _) (λb o e=>by rw[r'.keeps.block b (r.gG e) (by simp)];exact r.aX b o e) (λb o e=>.inl e) (λb vn e=>by
   cases hm:g.M b with
   |none=>rfl
   |some z=>have:=r.gG hm;omega) (λ_ _ _ hn d=>d.dq hn _) (Wr C3) (λx m hn=>aa.kg m x hn) (N:=N) (λi hi=>by
   obtain⟨b,hb⟩:=NV (Xv N bs) N i (by simpa[Xv]using hi);rw[ei _ hb];exact hN i hi)
 refine⟨u,he,⟨g.M,c2⟩,⟨i9.refl _,k1⟩,k3,?_⟩;refine(hd.ct (c':=c2) (m:=XC N) (λb b' cb e1 e2=>?_)).dq (aa.kg _ _ hv) _;simp only[XC,zBl]at e1;subst e1;refine k2 b cb ?_ e2;by_cases hb:b<bs.length
 ·exact hb
 ·have:=r'.d_ b (by simp[hp];omega);rw[this]at e2;cases e2
def YM:List ab→List ab
 |[]=>[]
 |_::l=>.dead::YM l
theorem QU:∀(l:List ab) (i:Nat),(YM l)[i]?=if i<l.length then some .dead else none
 |[],i=>by simp[YM]
 |x::l,0=>by simp[YM]
 |x::l,i+1=>by simp[YM,QU l i]
theorem Zbv(l:List ab):(YM l).length=l.length:=by induction l<;>simp_all [YM]
def oN(n:Nat):Nat→Option Nat:=λb=>bif zAi b n then some b else none
def fq(ids:List Nat)(n k:Nat):Nat→Option Nat:=λb=>bif ids.contains b||(zAP n b&&zAi b (n+k))then some b else none
theorem Y'{f:FuncId}{F:ve}(ok:mA P GL f F){xs:List aa}(hn:xs.length=F.np)(σ:List ab)(ids:List Nat)(pk:∀i∈ids,i<σ.length){v:aa}{news bs:List ab}(C3:bs=news∨bs=[])
 (h:iR P GL F.n F.body (eO (ic (oN σ.length) xs)) (YM σ) (λe ρ σ'=>(e=.normal∨e=.ret)∧iE F.gE ρ σ'=some v∧σ'=YM σ++news)) :
  jo P GL f xs (hp σ) (v.ct (fq ids σ.length bs.length)) ids (YB σ.length (bs.map (ab.dC (aa.ct (fq ids σ.length bs.length))))):=by
 intro w0 L g hq w vs r hx dc ei
 let dm:CB:=⟨0,0,0,true,0⟩
 let c':Own:=λb=>if b<σ.length then some ((g.c b).getD dm)else none
 have r0:bx GL w ⟨[],g.M⟩ ⟨g.M,c'⟩ (hp (YM σ)) w:={
  keeps:=i7.refl _ _,aX:=r.aX,src:=λb o e=>.inl e,cr:=r.cr
  d_:=λb e=>by
   show c' b=none;simp only[hp,QU]at e
   grind
  jn:=λb blk e=>by
   simp only[hp,QU]at e;split at e
   ·rename_i hb;exact⟨_,by show c' b=_;simp only[c'];rw[aJ hb]⟩
   ·cases e
  own:=λb blk cb e hl _ _=>by
   simp only[hp,QU]at e;split at e
   ·cases e;cases hl
   ·cases e
  bc:=λb blk cb e hl _ _=>by
   simp only[hp,QU]at e;split at e
   ·cases e;cases hl
   ·cases e
  inj:=λb b' blk blk' cb eN e _ hl _ _ _ _ _ _=>by
   simp only[hp,QU]at e;split at e
   ·cases e;cases hl
   ·cases e }
 have K0:dM ⟨g.M,c'⟩ (ic (oN σ.length) xs) vs:=by
  refine dM.lE (by rw[YA];exact hx.length) (λi y u e1 e2=>?_);obtain⟨x,q1,rfl⟩:=Gg e1;refine(hx.get i x u q1 e2).ct (λb b' cb k1 k2=>?_);unfold oN at k1;obtain⟨k0,k1⟩:=QE k1;cases k1;have b_:b<σ.length:=ik k0
  grind
 obtain⟨fn,c,h1,h2,h3,h4,h5⟩:=ok.ok;have d0:=X3 K0 (n:=F.n) (by rw[YA,hn];exact ok.np);refine calls_of_wp h1 h2 ?_;rw[h3];refine wp_mono (h c h4 w ⟨[],g.M⟩ _ _ w r0 d0) (λe a' w' hl=>?_);have fin:∀g' ρ σ',(⟨g.M,c'⟩:Gm).Le g'→bx GL w ⟨[],g.M⟩ g' (hp σ') w'→cR F.n g' ρ a'→(iE F.gE ρ σ'=some v∧σ'=YM σ++news)→∃u,(results fn a'.tmps).run P w'=.ok u w'∧(∃u',zCV u=.returned u'∧∃g2,g.Le g2∧bx GL w0 L g2 (cw hq (YB σ.length (bs.map (ab.dC (aa.ct (fq ids σ.length bs.length)))))) w'∧g2.den (v.ct (fq ids σ.length bs.length)) u'):=by
  rintro g' ρ σ' hle hr hd ⟨oH,rfl⟩;obtain⟨u,k1,k2⟩:=GN hr hd h5 oH;obtain⟨c2,j1,j2,j3⟩:=r.BP hr σ.length (bs:=bs) (λi hi=>by
    rcases C3 with rfl|rfl<;>simp_all [hp,Zbv]) (fq ids σ.length bs.length) g'.M (λ_=>True) hle.m hr.aX (λb o e=>by
    rcases hr.src b o e with q|q|q<;>simp_all) (λ_ _ e=>e) (λ_ _ _ _ d=>d) (λb _=>ab.all_true b) (λ_ _ _=>trivial) (N:=σ.length) (λi hi=>by
    obtain⟨b,hb⟩:=NV (bs.map (ab.dC (aa.ct (fq ids σ.length bs.length)))) σ.length i (by simpa using hi);rw[ei _ hb];simp[hp]) (λb b' cb e1 e2=>by
    unfold fq at e1;obtain⟨e0,e1⟩:=QE e1;cases e1;by_cases di:b∈ids∧b<σ.length
    ·right;obtain⟨di,hb⟩:=di;have cj:hq b=some (σ[b]):=by rw[dc b di];simp[hp,hb]
     obtain⟨yi,uJ⟩:=r.jn b _ cj;have:c' b=some yi:=by grind
     have:=hle.c b yi this;rw[e2]at this;cases this;exact uJ
    ·left;simp only[zBS,AI]at e0;rcases e0 with q|⟨q1,q2⟩
     ·simp_all
     ·have:=ik q1;have:b < σ.length + bs.length:=ik q2;exact⟨b - σ.length,by omega,by omega,by omega⟩)
  exact⟨u,k1,u,rfl,⟨g'.M,c2⟩,⟨hle.m,j1⟩,j3,k2.ct j2⟩
 cases e with
 |normal=>obtain⟨g',ρ,σ,k1,k2,k3,k4⟩:=hl;exact⟨k3.defers,fin g' ρ σ k1 k2 k3 k4.2⟩
 |ret=>obtain⟨g',ρ,σ,k1,k2,k3,k4⟩:=hl;exact⟨k3.defers,fin g' ρ σ k1 k2 k3 k4.2⟩
 |exit id=>obtain⟨g',ρ,σ,k1,k2,k3,k4⟩:=hl;rcases k4.1 with q|q<;>cases q
 |_=>exact hl.elim
end
end Go.Ah
end
section
namespace Go.Ah
mutual
def aa.ids:aa→List Nat
 |.ak b _=>[b]
 |.ptr b _ _=>[b]
 |.sl b _ _ _=>[b]
 |.map b=>[b]
 |.iter b=>[b]
 |.func _ xs ys=>iW xs++iW ys
 |.iface _ v=>v.ids
 |.agg cs=>iW cs
 |.bp cs=>iW cs
 |.when _ x=>x.ids
 |_=>[]
def iW:List aa→List Nat
 |[]=>[]
 |x::xs=>x.ids++iW xs
end
def X8:Nat→List ab→Option (List ab)
 |0,l=>some l
 |n+1,.dead::l=>X8 n l
 |_+1,_=>none
theorem Ya2:∀(σ l news:List ab),X8 σ.length l=some news→l=YM σ++news
 |[],l,news,h=>by simp_all [X8,YM]
 |x::σ,l,news,h=>by
  cases l with
  |nil=>simp[X8]at h
  |cons y l=>
   cases y with
   |dead=>simp only[List.length_cons,X8]at h;rw[Ya2 σ l news h];rfl
   |_=>simp[X8]at h
def Qx(n:Nat):List Nat→Bool
 |[]=>true
 |x::xs=>zAi x n&&Qx n xs
theorem MS{n:Nat}:∀ {l:List Nat},Qx n l=true→∀i∈l,i<n
 |x::xs,h,i,hi=>by
  simp only[Qx,AI]at h;rcases zAR.1 hi with rfl|hi
  ·exact ik h.1
  ·exact MS h.2 i hi
def much:Nat:=1000000000
end Go.Ah
end
section
namespace Go.Ah
def zj(n:Nat)(hd:List (List Nat))(c:Nat):Bool:=sK (λj=>zAi j c||vB (jV hd j) λh=>sK (λi=>kP h i) c) n
theorem WB{n:Nat}{hd:List (List Nat)}{c:Nat}(h:zj n hd c=true):∀j,j<n→c<=j→∀i,i<c→i∈Zn hd j:=by
 intro j hj hc i hi;have:=Iv h j hj;simp only[IE,zBS]at this;rcases this with q|q
 ·have:j<c:=ik q;omega
 ·have:=Ix.1 (Iv q i hi)
  rwa [Ga]at this
def oA(hd:List (List Nat))(lo n:Nat):List (List Nat):=(zAC n).map λj=>(Zn hd (lo+j)).filterMap λi=>match zAP lo i with
 |true=>some (i-lo)
 |false=>none
theorem QdN{hd:List (List Nat)}{lo n j i:Nat}(h:i∈Zn (oA hd lo n) j):lo+i∈Zn hd (lo+j):=by
 unfold oA Zn at h;rw[zAX]at h;cases e:(zAC n)[j]? with
 |none=>rw[e]at h;simp at h
 |some k=>
  rw[e]at h;have hk:k=j:=by
   grind
  subst hk;simp only[zCS,zAo,zCG]at h;obtain⟨x,hx,h⟩:=h;split at h
  ·rename_i hb;have:=ik hb;cases h
   rwa [show lo+(x-lo)=x by omega]
  ·cases h
section
variable {P:Program} {GL:ar}
theorem XdL{n:Nat}{ops:Array Oper}{ms:List aM}{hd:List (List Nat)}(eL:ops.size=ms.length)(bQ:∀(j:Nat) (m:aM),ms[j]?=some m→∃o,ops[j]?=some o∧gf P GL n ops o m)(eK:yM ops.toList ms hd=true)
 {lo hi:Nat}{ft:List aM}(hlh:lo+ft.length=hi)(hhi:hi<=ms.length)(wX:∀j m,ft[j]?=some m→ms[lo+j]?=some m)(bhi:∀j,j<ms.length→hi<=j→∀i,i<hi→i∈Zn hd j)
 {ρ:Frame}{σ:List ab}{ts:List TS}{K:Frame→List ab→Log→Prop}(zV:Tr P GL ft ts ρ σ [] K)(CX:Zj (oA hd lo ft.length) (ts.map λx=>(x.rd,x.up.map (·.1)))=true)
 {w0:World}{L:Ln}{g:Gm}(Q:Exit→Act→World→Prop)
 (hQ:∀ g' ρ' σ' a w fuel (listed:Array Bool),g.Le g'→bx GL w0 L g' (hp σ') w→cR n g' ρ' a→K ρ' σ' (ts.map λx=>(x.rd,x.up.map (·.1)))→listed.size=ms.length→(∀ k,k < hi→listed.getD k false=true)→(∀ k,hi<=k→listed.getD k false=false) →
   pA (λk=>listed.getD k false) ms.length<=fuel→wpAny P .any ops Q fuel listed a w) :
  ∀(fuel:Nat) (listed:Array Bool) (a:Act) (w:World),listed.size=ms.length→(∀j,listed.getD j false=true→j<ms.length∧∀i∈waits (ops.toList.getD j default),listed.getD i false=true) →
   (∀k,k<lo→listed.getD k false=true)→(∀k,hi<=k→listed.getD k false=false) →
   pA (λk=>listed.getD k false) ms.length<=fuel→(∃g' ρ',g.Le g'∧bx GL w0 L g' (jE (λk=>listed.getD k false) lo ts (hp σ)) w∧cR n g' ρ' a∧∀t,bL ρ' t=bL (kM (λk=>listed.getD k false) lo ft ts ρ) t) →
   wpAny P .any ops Q fuel listed a w:=by
 have D:=Q9 eK;obtain⟨hlen,qz,ρf,σf,uO,T_,wC⟩:=HX ft ts lo ρ σ [] K zV;rw[zAM]at wC;have hA:∀j,j<ft.length→∀i,i<j→lo+i∈Zn hd (lo+j)∨cf (Qv (ts.map λx=>(x.rd,x.up.map (·.1))) i) (Qv (ts.map λx=>(x.rd,x.up.map (·.1))) j)=true:=by
  intro j hj i hi;unfold Zj at CX;simp only[zAj,zBR,zAH]at CX;have:=RE (CX j (by omega)) i (Qv (ts.map λx=>(x.rd,x.up.map (·.1))) i) (by
   grind [Qv])
  rw[No]at this;exact this.imp QdN id
 have p_:∀j x,ts[j]?=some x→Qv (ts.map λx=>(x.rd,x.up.map (·.1))) j=(x.rd,x.up.map (·.1)):=by
  simp_all [Qv]
 have fin:∀(fuel:Nat) (listed:Array Bool) (a:Act) (w:World),listed.size=ms.length→(∀k,k<hi→listed.getD k false=true)→(∀k,hi<=k→listed.getD k false=false)→pA (λk=>listed.getD k false) ms.length<=fuel →
   (∃g' ρ',g.Le g'∧bx GL w0 L g' (jE (λk=>listed.getD k false) lo ts (hp σ)) w∧cR n g' ρ' a∧∀t,bL ρ' t=bL (kM (λk=>listed.getD k false) lo ft ts ρ) t)→wpAny P .any ops Q fuel listed a w:=by
  rintro fuel listed a w hs iK lZ hc ⟨g',ρ',h1,h2,h3,h4⟩;refine hQ g' ρf σf a w fuel listed h1 ?_ ?_ wC hs iK lZ hc
  ·rw[T_];have:jE (λk=>listed.getD k false) lo ts (hp σ)=jE (λ_=>true) lo ts (hp σ):=by
    funext b
    refine ZY _ _ _ _ (λk t e _=>?_) rfl
    grind
   rw[←this];exact h2
  ·refine h3.dY (λt=>.inl ?_);rw[uO t,h4 t];refine QX _ _ _ _ _ (λk m e _=>?_) rfl
   grind
 intro fuel
 induction fuel with
 |zero=>
  intro listed a w hs hS wK lZ hc ir;exact fin 0 listed a w hs (λk hk=>NJ (zDp.1 hc) k (by omega)) lZ hc ir
 |succ fuel ih=>
  intro listed a w hs hS wK lZ hc ir;by_cases iK:∀k,k<hi→listed.getD k false=true
  ·grind
  refine⟨λhr=>?_,λj hj=>?_⟩
  ·exfalso;refine iK λk=>?_
   induction k using zBv with
   |_ k ihk=>
    intro hk;cases hl:listed.getD k false with
    |true=>rfl
    |false=>
     exfalso;have Kp:ops[k]?=some (ops[k]'(by omega)):=by simp[show k<ops.size by omega]
     have:k∈zBk .any ops listed:=by
      rw[mem_ready];refine⟨?_,_,Kp,λe he hb=>?_⟩
      ·grind
      ·have hw:e.on∈waits (ops.toList.getD k default):=by rw[YV ops k Kp,Gd];exact⟨e,he,hb,rfl⟩
       have b_:=D.back k (by omega) _ hw;exact ihk e.on b_ (by omega)
     rw[hr]at this;cases this
  obtain⟨h1,o,ho,wA⟩:=mem_ready.1 hj;have ru:j<ms.length:=by grind
  have zw:listed.getD j false=false:=by
   grind
  have Dw:∀i∈waits (ops.toList.getD j default),listed.getD i false=true:=by
   intro i hi;rw[YV ops j ho,Gd]at hi;obtain⟨e,he,hb,rfl⟩:=hi;exact wA e he hb
  have hhd:=Hr D (S:=λk=>listed.getD k false) hS j ru Dw;have aay:lo<=j:=by
   grind
  have aax:j<hi:=by
   grind
  obtain⟨j,rfl⟩:∃q,j=lo+q:=⟨j-lo,by omega⟩;have hjs:j<ft.length:=by omega
  have wN:ft[j]?=some ft[j]:=by simp
  have uY:ts[j]?=some (ts[j]'(by omega)):=by simp[show j<ts.length by omega]
  generalize hmd:ft[j]=m at wN;generalize hxd:(ts[j]'(by omega))=x at uY;have hmJ:=wX j m wN;have Uy:ms.getD (lo+j) default=m:=by grind
  obtain⟨o',fO,Lm⟩:=bQ (lo+j) m hmJ;rw[ho]at fO;cases fO;obtain⟨ρj,q1,q2⟩:=qz j m x wN uY;obtain⟨g',ρ',s1,s2,s3,s4⟩:=ir;have key:∀k,k<ft.length→(k<j→lo+k∈Zn hd (lo+j))→(j<k→lo+j∈Zn hd (lo+k))→(k≠j)→(listed.getD (lo+k) false=decide (lo+k<lo+j)):=by
   intro k hk ha hb cO;by_cases b_:k<j
   ·grind
   ·rw[gm (by omega)];have sq:j<k:=by omega
    cases hl:listed.getD (lo+k) false with
    |false=>rfl
    |true=>
     have:listed.getD (lo+j) false=true:=Hr D (S:=λk=>listed.getD k false) hS (lo+k) (by omega) (hS (lo+k) hl).2 (lo+j) (hb sq);rw[zw]at this;cases this
  have kZ:∀t,(t∈iQ m)→∀k mk,ft[k]?=some mk→mk.dst=some t→k≠j→listed.getD (lo+k) false=decide (lo+k<lo+j):=by
   intro t ht k mk hk C8 cO;have sY:k<ft.length:=(gK hk).1;have Kj:ms.getD (lo+k) default=mk:=by rw[zDM,wX k mk hk];rfl
   have T4:t∈eJ mk:=by unfold eJ;rw[C8];simp
   refine key k sY (λb_=>?_) (λsq=>?_) cO
   ·rcases D.m7 (lo+j) ru (lo+k) (by omega)with q|⟨q,_,_⟩
    ·exact q
    grind
   ·rcases D.m7 (lo+k) (by omega) (lo+j) (by omega)with q|⟨_,_,q⟩
    ·exact q
    grind
  have iC:∀b,(b∈x.rd∨b∈x.up.map (·.1))→∀k xk,ts[k]?=some xk→b∈xk.up.map (·.1)→k≠j→listed.getD (lo+k) false=decide (lo+k<lo+j):=by
   intro b hb k xk hk di cO;have sY:k<ft.length:=by grind
   refine key k sY (λb_=>?_) (λsq=>?_) cO
   ·rcases hA j hjs k b_ with q|q
    ·exact q
    ·rw[p_ k xk hk,p_ j x uY]at q;simp only[cf,AI]at q
     grind [GJ]
   ·rcases hA k sY j sq with q|q
    ·exact q
    ·rw[p_ k xk hk,p_ j x uY]at q;simp only[cf,AI]at q
     grind [GJ]
  have sX:∀k,k=j→listed.getD (lo+k) false=decide (lo+k<lo+j):=by rintro k rfl;rw[zw];simp
  have heq:∀b,(b∈x.rd∨b∈x.up.map (·.1))→jE (λk=>listed.getD k false) lo ts (hp σ) b=jE (λk=>decide (k<lo+j)) lo ts (hp σ) b:=by
   intro b hb;refine ZY _ _ _ _ (λk xk e1 e2=>?_) rfl;by_cases gQ:k=j
   ·exact sX k gQ
   ·exact iC b hb k xk e1 e2 gQ
  unfold wpOp;simp only[ho];refine q2 n ops o Lm ρ' _ w0 L g' w a (λt ht=>?_) (λb hb=>heq b (.inl hb)) (λp iq=>heq p.1 (.inr (zAt.2 ⟨p,iq,rfl⟩))) s2 s3 _ _ (λg2 w2 u hle hr sm=>?_)
  ·rw[s4 t,q1 t];refine QX _ _ _ _ _ (λk mk e1 e2=>?_) rfl;by_cases gQ:k=j
   ·exact sX k gQ
   ·exact kZ t ht k mk e1 e2 gQ
  ·have dL:∀k,(listed.setIfInBounds (lo+j) true).getD k false=if k=lo+j then true else listed.getD k false:=by
    intro k;by_cases hk:k<ms.length
    ·by_cases gQ:k=lo+j
     ·subst gQ;simp[show lo+j<listed.size by omega]
     ·rw[aE gQ];simp[zBb (Ne.symm gQ)]
    ·rw[aE (by omega)]
     grind
   refine ih _ _ _ (by simpa using hs) (λk hk=>?_) (λk hk=>?_) (λk hk=>?_) ?_ ⟨g2,cz m.dst x.v ρ',s1.trans hle,?_,sm,λt=>?_⟩
   ·rw[dL]at hk;by_cases gQ:k=lo+j
    ·subst gQ;refine⟨ru,λi hi=>?_⟩;rw[dL];split
     ·rfl
     ·exact Dw i hi
    ·rw[aE gQ]at hk;refine⟨(hS k hk).1,λi hi=>?_⟩;rw[dL];split
     ·rfl
     ·exact(hS k hk).2 i hi
   ·rw[dL];split
    ·rfl
    ·exact wK k hk
   ·rw[dL,aE (by omega)];exact lZ k hk
   ·have:=Ny (S:=λk=>listed.getD k false) (S':=λk=>(listed.setIfInBounds (lo+j) true).getD k false) (j:=lo+j) (n:=ms.length) ru zw (by simp only[dL];simp) (λk hk cO=>by simp only[dL];rw[aE cO]);omega
   ·have:jE (λk=>(listed.setIfInBounds (lo+j) true).getD k false) lo ts (hp σ)=cw (jE (λk=>listed.getD k false) lo ts (hp σ)) x.up:=by
     funext b
     by_cases hb:b∈x.up.map (·.1)
     ·refine Px ts lo (hp σ) j x uY hb (by rw[dL,aJ rfl]) (λk xk e1 e2 e3=>?_) _;rw[dL]at e3;by_cases gQ:k=j
      ·omega
      ·rw[aE (by omega)]at e3;rw[iC b (.inr hb) k xk e1 e2 gQ]at e3;have:=of_decide_eq_true e3;omega
     ·rw[MN _ _ _ hb];refine ZY _ _ _ _ (λk xk e1 e2=>?_) rfl;simp only[dL];have gQ:k≠j:=by grind
      rw[aE (by omega)]
    rw[this];exact hr
   ·rw[X6];by_cases zF:m.dst=some t
    ·rw[aJ zF];refine(Sp ft ts lo ρ j m x wN uY zF (by rw[dL,aJ rfl]) (λk mk e1 e2 e3=>?_)).symm;rw[dL]at e3;by_cases gQ:k=j
     ·omega
     ·rw[aE (by omega)]at e3;have sY:k<ft.length:=(gK e1).1;have Kj:ms.getD (lo+k) default=mk:=by rw[zDM,wX k mk e1];rfl
      have wy:t∈eJ m:=by unfold eJ;rw[zF];simp
      have wx:t∈eJ mk:=by unfold eJ;rw[e2];simp
      have:=key k sY (λb_=>by
       rcases D.m7 (lo+j) ru (lo+k) (by omega)with q|⟨_,q,_⟩
       ·exact q
       ·rw[Kj,Uy]at q;exact(q t wx wy).elim) (λsq=>by
       rcases D.m7 (lo+k) (by omega) (lo+j) (by omega)with q|⟨_,q,_⟩
       ·exact q
       ·rw[Kj,Uy]at q;exact(q t wy wx).elim) gQ
      grind
    ·rw[aE zF,s4 t];refine QX _ _ _ _ _ (λk mk e1 e2=>?_) rfl;simp only[dL];have gQ:k≠j:=by grind
     rw[aE (by omega)]
theorem YdL{n:Nat}{ops:Array Oper}{ms:List aM}{hd:List (List Nat)}(eL:ops.size=ms.length)(bQ:∀(j:Nat) (m:aM),ms[j]?=some m→∃o,ops[j]?=some o∧gf P GL n ops o m)(eK:yM ops.toList ms hd=true)
 {lo:Nat}{m:aM}(hm:ms[lo]?=some m)(bhi:∀j,j<ms.length→lo+1<=j→∀i,i<lo+1→i∈Zn hd j)
 {ρ:Frame}{σ:List ab}{K:Frame→List ab→Log→Prop}(ir:eF false P GL m ρ σ [] K)
 {w0:World}{L:Ln}{g:Gm}(Q:Exit→Act→World→Prop)
 (hQ:∀ g' ρ' σ' lg a w fuel (listed:Array Bool),g.Le g'→bx GL w0 L g' (hp σ') w→cR n g' ρ' a→K ρ' σ' lg→listed.size=ms.length→(∀ k,k < lo + 1→listed.getD k false=true)→(∀ k,lo + 1<=k→listed.getD k false=false) →
   pA (λk=>listed.getD k false) ms.length<=fuel→wpAny P .any ops Q fuel listed a w)
 (fuel:Nat)(listed:Array Bool)(a:Act)(w:World)(hs:listed.size=ms.length)(wK:∀k,k<lo→listed.getD k false=true)(lZ:∀k,lo<=k→listed.getD k false=false)
 (hc:pA (λk=>listed.getD k false) ms.length<=fuel)(r:bx GL w0 L g (hp σ) w)(d:cR n g ρ a):wpAny P .any ops Q fuel listed a w:=by
 have D:=Q9 eK;have ji:lo<ms.length:=(gK hm).1;have hS:∀j,listed.getD j false=true→j<ms.length∧∀i∈waits (ops.toList.getD j default),listed.getD i false=true:=by
  intro j hj;have t_:j<lo:=by
   grind
  exact⟨by omega,λi hi=>wK i (by have:=D.back j (by omega) i hi;omega)⟩
 obtain⟨o,ho,Lm⟩:=bQ lo m hm;cases fuel with
 |zero=>have:=NJ (zDp.1 hc) lo ji;grind
 |succ fuel=>
  refine⟨λhr=>?_,λj hj=>?_⟩
  ·exfalso;have:lo∈zBk .any ops listed:=by
    rw[mem_ready];refine⟨?_,o,ho,λe he hb=>?_⟩
    ·grind
    ·have hw:e.on∈waits (ops.toList.getD lo default):=by rw[YV ops lo ho,Gd];exact⟨e,he,hb,rfl⟩
     exact wK _ (D.back lo ji _ hw)
   rw[hr]at this;cases this
  ·obtain⟨h1,o',fO,wA⟩:=mem_ready.1 hj;have ru:j<ms.length:=by grind
   have zw:listed.getD j false=false:=by
    grind
   have Dw:∀i∈waits (ops.toList.getD j default),listed.getD i false=true:=by
    intro i hi;rw[YV ops j fO,Gd]at hi
    grind
   have hhd:=Hr D (S:=λk=>listed.getD k false) hS j ru Dw;have t_:j=lo:=by
    grind
   subst t_;rw[ho]at fO;cases fO;unfold wpOp;simp only[ho];refine Wv Lm ir r d _ Q (λa' w' ⟨g',ρ',σ',jF,hle,hr,pj,hk⟩=>?_);have dL:∀k,(listed.setIfInBounds j true).getD k false=if k=j then true else listed.getD k false:=by
    intro k;by_cases hk:k<ms.length
    ·by_cases gQ:k=j
     ·subst gQ;simp[show k<listed.size by omega]
     ·rw[aE gQ];simp[zBb (Ne.symm gQ)]
    grind
   refine hQ g' ρ' σ' jF a' w' fuel _ hle hr pj hk (by simpa using hs) (λk hk=>?_) (λk hk=>?_) ?_
   ·grind
   ·grind
   ·have:=Ny (S:=λk=>listed.getD k false) (S':=λk=>(listed.setIfInBounds j true).getD k false) (j:=j) (n:=ms.length) ru zw (by simp only[dL];simp) (λk hk cO=>by simp only[dL];rw[aE cO]);omega
abbrev vz:=List (List aM×Bool)
def YH:vz→List aM
 |[]=>[]
 |p::r=>p.1++YH r
def pK(n:Nat)(hd:List (List Nat)):Nat→vz→Bool
 |_,[]=>true
 |lo,(ft,s)::r=>(!s||IN ft.length 1)&&(zj n hd (lo+ft.length)&&pK n hd (lo+ft.length) r)
def sy(P:Program)(GL:ar)(hd:List (List Nat)):Nat→vz→Frame→List ab→(Frame→List ab→Prop)→Prop
 |_,[],ρ,σ,K=>K ρ σ
 |lo,(ft,true)::r,ρ,σ,K=>iU false P GL ft ρ σ [] λρ σ _=>sy P GL hd (lo+ft.length) r ρ σ K
 |lo,(ft,false)::r,ρ,σ,K=>iU true P GL ft ρ σ [] λρ σ lg=>Zj (oA hd lo ft.length) lg=true∧sy P GL hd (lo+ft.length) r ρ σ K
theorem SE{n:Nat}{ops:Array Oper}{ms:List aM}{hd:List (List Nat)}(eL:ops.size=ms.length)(bQ:∀(j:Nat) (m:aM),ms[j]?=some m→∃o,ops[j]?=some o∧gf P GL n ops o m)(eK:yM ops.toList ms hd=true)
 {w0:World}{L:Ln}{Q:Exit→Act→World→Prop}{K:Frame→List ab→Prop}:∀(ps:vz) (lo:Nat) (ρ:Frame) (σ:List ab) (g:Gm),pK ms.length hd lo ps=true→lo+(YH ps).length=ms.length→(∀j m,(YH ps)[j]?=some m→ms[lo+j]?=some m) →
  sy P GL hd lo ps ρ σ K→(∀g' ρ' σ' a w,g.Le g'→bx GL w0 L g' (hp σ') w→cR n g' ρ' a→K ρ' σ'→Q .normal a w) →
  ∀(fuel:Nat) (listed:Array Bool) (a:Act) (w:World),listed.size=ms.length→(∀k,k<lo→listed.getD k false=true)→(∀k,lo<=k→listed.getD k false=false)→pA (λk=>listed.getD k false) ms.length<=fuel→bx GL w0 L g (hp σ) w→cR n g ρ a→wpAny P .any ops Q fuel listed a w
 |[],lo,ρ,σ,g,_,hl,_,h,hQ,fuel,listed,a,w,hs,wK,lZ,hc,r,d=>by
  have ji:lo=ms.length:=by simpa[YH]using hl
  have hq:Q .normal a w:=hQ g ρ σ a w (Gm.Le.refl g) r d h;have hr:zBk .any ops listed=[]:=by
   simp_all [zBk]
  cases fuel with
  |zero=>exact⟨hr,hq⟩
  |succ fuel=>exact⟨λ_=>hq,λi hi=>by rw[hr]at hi;cases hi⟩
 |(ft,true)::ps,lo,ρ,σ,g,iq,hl,zN,h,hQ,fuel,listed,a,w,hs,wK,lZ,hc,r,d=>by
  simp only[pK,AI,Bool.not_true,Bool.false_or]at iq;have h1:=fV iq.1;obtain⟨m,rfl⟩:=List.length_eq_one_iff.1 h1;simp only[YH,By,zBa]at hl;have hm:ms[lo]?=some m:=by have:=zN 0 m (by simp[YH]);simpa using this
  have ir:eF false P GL m ρ σ [] (λρ' σ' _=>sy P GL hd (lo + 1) ps ρ' σ' K):=h;refine YdL eL bQ eK hm (λj hj hc i hi=>WB iq.2.1 j hj hc i hi) ir Q (λg' ρ' σ' lg a' w' wg ql k1 k2 k3 k4 k5 k6 k7 k8=>?_) fuel listed a w hs wK lZ hc r d;exact SE eL bQ eK ps (lo + 1) ρ' σ' g' iq.2.2 (by omega) (λj m' e=>by
   have:=zN (j+1) m' (by simpa[YH]using e)
   grind) k4 (λg2 ρ2 σ2 a2 w2 q=>hQ g2 ρ2 σ2 a2 w2 (k1.trans q)) wg ql a' w' k5 k6 k7 k8 k2 k3
 |(ft,false)::ps,lo,ρ,σ,g,iq,hl,zN,h,hQ,fuel,listed,a,w,hs,wK,lZ,hc,r,d=>by
  simp only[pK,AI,Bool.not_false,Bool.true_or,true_and]at iq;simp only[YH,By]at hl;have wX:∀ j m,ft[j]?=some m→ms[lo + j]?=some m:=λj m e=>zN j m (by
   grind [YH])
  have hw:iU true P GL ft ρ σ [] (λρ' σ' lg=>Zj (oA hd lo ft.length) lg=true∧sy P GL hd (lo+ft.length) ps ρ' σ' K):=h;obtain⟨ts,zV⟩:=PI ft ρ σ [] _ hw;obtain⟨hlen,_,ρf,σf,_,_,wC⟩:=HX ft ts lo ρ σ [] _ zV;rw[zAM]at wC;have D:=Q9 eK;refine XdL (w0:=w0) (L:=L) (g:=g) eL bQ eK rfl (by omega) wX (λj hj hc i hi=>WB iq.1 j hj hc i hi) zV wC.1 Q (λg' ρ' σ' a' w' wg ql k1 k2 k3 k4 k5 k6 k7 k8=>?_) fuel listed a w hs (λj hj=>?_) wK (λk hk=>lZ k (by omega)) hc ⟨g,ρ,Gm.Le.refl g,?_,d,λt=>?_⟩
  ·exact SE eL bQ eK ps (lo + ft.length) ρ' σ' g' iq.2 (by omega) (λj m' e=>by
    have:=zN (ft.length+j) m' (by simp_all [YH,zAQ])
    grind) k4.2 (λg2 ρ2 σ2 a2 w2 q=>hQ g2 ρ2 σ2 a2 w2 (k1.trans q)) wg ql a' w' k5 k6 k7 k8 k2 k3
  ·have t_:j<lo:=by
    grind
   exact⟨by omega,λi hi=>wK i (by have:=D.back j (by omega) i hi;omega)⟩
  ·have:jE (λk=>listed.getD k false) lo ts (hp σ)=jE (λ_=>false) lo ts (hp σ):=by
    funext b
    refine ZY _ _ _ _ (λk t e _=>lZ _ (by omega)) rfl
   rw[this];have gP:∀(ts:List TS) (i:Nat) (h:Hp),jE (λ_=>false) i ts h=h:=by
    intro ts
    induction ts<;>simp_all [jE]
   rw[gP];exact r
  ·have gP:∀(ms:List aM) (ts:List TS) (i:Nat) (ρ:Frame),kM (λ_=>false) i ms ts ρ=ρ:=by
    intro ms
    induction ms with
    |nil=>intros;simp[kM]
    |cons m ms ih=>intro ts i ρ;cases ts<;>simp_all [kM]
   have:bL (kM (λk=>listed.getD k false) lo ft ts ρ) t=bL (kM (λ_=>false) lo ft ts ρ) t:=QX _ _ _ _ _ (λk m e _=>lZ _ (by omega)) rfl;rw[this,gP]
theorem Yd4(hP:P.follows .mixedOrders=true){n:Nat}{id:Nat}{ps:vz}{hd:List (List Nat)}{ρ:Frame}{σ:List ab}{Q:eD}(uU:pK (YH ps).length hd 0 ps=true)
 (h:sy P GL hd 0 ps ρ σ (λρ' σ'=>Q .normal ρ' σ')):iR P GL n (.region id (YH ps) (some hd)) ρ σ Q:=by
 intro c hc w0 L g a w r d;cases hc with
 |draw _ ops _ _ eL bQ eK=>
  refine wp_region_any hP ?_;have hF:∀k,(zBq ops.size false).getD k false=false:=by
   intro k;rw[zBU,zBo];split<;>rfl
  refine SE (w0:=w0) (L:=L) eL bQ eK ps 0 ρ σ g uU (by simp) (λj m e=>by simpa using e) h (λg' ρ' σ' a' w' k1 k2 k3 k4=>⟨g',ρ',σ',k1,k2,k3,k4⟩) ops.size _ a _ (by simp[eL]) (λk hk=>by omega) (λk _=>hF k) ?_ r.drew d;rw[eL];have:∀m,pA (λk=>(zBq (YH ps).length false).getD k false) m<=m:=by
   intro m
   induction m<;>simp_all [pA]
  exact this _
end
end Go.Ah
end
section
namespace Go.Ah
structure aF (α:Type) where
 stop:α
 call:MK→List aa→List ab→(aa→List ab→α)→α
 eS:MK→List aa→List ab→(aa→List Nat×List Nat→List ab→α)→α
 test:aa→α→α→α
 loop:((List aa→List ab→α)→List aa→List ab→α)→List aa→List ab→α
section
variable {α:Type}
def aF.rd(A:aF α)(r:aA)(K:aa→α):α:=match r with
 |.ok v _ []=>K v
 |_=>A.stop
def aF.pu(A:aF α)(r:aA)(K:aa→α):α:=match r with
 |.ok v [] []=>K v
 |_=>A.stop
def aF.wr(A:aF α)(r:aA)(σ:List ab)(K:aa→List ab→α):α:=match r with
 |.ok v _ up=>match gp σ up with
  |some σ'=>K v σ'
  |none=>A.stop
 |.stop=>A.stop
def aF.dr(A:aF α)(r:aA)(σ:List ab)(K:aa→List Nat×List Nat→List ab→α):α:=match r with
 |.ok v rd up=>match gp σ up with
  |some σ'=>K v (rd,up.map (·.1)) σ'
  |none=>A.stop
 |.stop=>A.stop
def aF.opt{β:Type}(A:aF α)(o:Option β)(K:β→α):α:=match o with
 |some v=>K v
 |none=>A.stop
def aF.gd(A:aF α)(b:Bool)(k:α):α:=match b with
 |true=>k
 |false=>A.stop
@[reducible] def tE(cs:List (Bool×Bool)):aa:=.when cs (.bool false)
def aF.gx(A:aF α)(c:aa)(w:Bool)(r:α)(s:List (Bool×Bool)→α):α:=match c with
 |.when cs (.bool q)=>match x_.gg cs with
  |true=>s (cs++[(q,w)])
  |false=>A.stop
 |c=>A.test c (bif w then r else s [(true,w)]) (bif w then s [(false,w)]else r)
def aF.gr(A:aF α)(c:aa)(w:Bool)(r:(aa→α)→α)(K:aa→α):α:=A.gx c w (r K) (λcs=>K (tE cs))
def aF.gw(A:aF α)(c:aa)(w:Bool)(r:(aa→List ab→α)→α)(σ:List ab)(K:aa→List ab→α):α:=A.gx c w (r K) (λcs=>K (tE cs) σ)
def aF.gl(A:aF α)(c:aa)(w:Bool)(r:(aa→List Nat×List Nat→List ab→α)→α)(σ:List ab)(K:aa→List Nat×List Nat→List ab→α):α:=
 A.gx c w (r K) (λcs=>K (tE cs) ([],[]) σ)
def cI(f:(List aa→List ab→α)→α)(k:List aa→List ab→α):α:=f k
inductive Wa where
 |mv|pu|rd|wr|call
def fo:MK→Wa
 |.mv=>.mv
 |.call _ | .jZ | .invoke _ _=>.call
 |.alloc _ | .box | .mF _ _ _ _ | .store _ | .makeMap | .append _ _ _ | .lz _ | .range | .next | .rO _ _ _ | .iI _ _=>.wr
 |.load _ _ | .lookup _ _ _ | .mK | .cJ _ _ _ _ | .fI _=>.rd
 |_=>.pu
def vX(A:aF α)(o:aM)(ρ:Frame)(σ:List ab)(K:Frame→List ab→α):α:=
 match o.guard with
 |none=>match fo o.k with
  |.mv=>match o.xs with
   |[x]=>K (cz o.dst (ev ρ x) ρ) σ
   |_=>A.stop
  |.pu | .rd=>A.rd (eW o.k (o.xs.map (ev ρ)) σ) λv=>K (cz o.dst v ρ) σ
  |.wr=>A.wr (eW o.k (o.xs.map (ev ρ)) σ) σ λv σ=>K (cz o.dst v ρ) σ
  |.call=>A.call o.k (o.xs.map (ev ρ)) σ λv σ=>K (cz o.dst v ρ) σ
 |some (s,w)=>match fo o.k with
  |.mv | .pu | .rd=>A.gr (bL ρ s) w (λk=>A.rd (eW o.k (o.xs.map (ev ρ)) σ) k) λv=>K (cz o.dst v ρ) σ
  |.wr=>A.gw (bL ρ s) w (λk=>A.wr (eW o.k (o.xs.map (ev ρ)) σ) σ k) σ λv σ=>K (cz o.dst v ρ) σ
  |.call=>A.gw (bL ρ s) w (λk=>A.call o.k (o.xs.map (ev ρ)) σ k) σ λv σ=>K (cz o.dst v ρ) σ
def js(A:aF α):List aM→Frame→List ab→(Frame→List ab→α)→α
 |[],ρ,σ,K=>K ρ σ
 |o::r,ρ,σ,K=>vX A o ρ σ λρ σ=>js A r ρ σ K
def qZ(A:aF α)(o:aM)(ρ:Frame)(σ:List ab)(lg:Log)(K:Frame→List ab→Log→α):α:=
 match o.guard with
 |none=>match fo o.k with
  |.mv=>match o.xs with
   |[x]=>K (cz o.dst (ev ρ x) ρ) σ (lg++[([],[])])
   |_=>A.stop
  |.pu=>A.pu (eW o.k (o.xs.map (ev ρ)) σ) λv=>K (cz o.dst v ρ) σ (lg++[([],[])])
  |.rd | .wr=>A.dr (eW o.k (o.xs.map (ev ρ)) σ) σ λv l σ=>K (cz o.dst v ρ) σ (lg++[l])
  |.call=>A.eS o.k (o.xs.map (ev ρ)) σ λv l σ=>K (cz o.dst v ρ) σ (lg++[l])
 |some (s,w)=>match fo o.k with
  |.mv | .pu=>A.gr (bL ρ s) w (λk=>A.pu (eW o.k (o.xs.map (ev ρ)) σ) k) λv=>K (cz o.dst v ρ) σ (lg++[([],[])])
  |.rd | .wr=>A.gl (bL ρ s) w (λk=>A.dr (eW o.k (o.xs.map (ev ρ)) σ) σ k) σ λv l σ=>K (cz o.dst v ρ) σ (lg++[l])
  |.call=>A.gl (bL ρ s) w (λk=>A.eS o.k (o.xs.map (ev ρ)) σ k) σ λv l σ=>K (cz o.dst v ρ) σ (lg++[l])
def Ct(A:aF α):List aM→Frame→List ab→Log→(Frame→List ab→Log→α)→α
 |[],ρ,σ,lg,K=>K ρ σ lg
 |o::r,ρ,σ,lg,K=>qZ A o ρ σ lg λρ σ lg=>Ct A r ρ σ lg K
def mI:Wa→Bool
 |.wr=>true
 |.call=>true
 |_=>false
def lD:List aM→Bool
 |[]=>true
 |o::r=>!(mI (fo o.k))&&lD r
inductive bK where
 |skip
 |region (id:Nat) (ms:List aM) (draw:Option (List (List Nat)))
 |iD (id:Nat) (ps:vz) (hd:List (List Nat))
 |seq (a b:bK)
 |cond (c:se) (a b:bK)
 |join (lv:List Nat) (a:bK)
 |block (id:Nat) (a:bK)
 |loop (lv:List Nat) (a:bK)
 |exit (id:Nat)
 |scope (a:bK)
 |label (l:Nat)
 |ret
 deriving Inhabited
def bK.er:bK→dd
 |.skip=>.skip
 |.region id ms hd=>.region id ms hd
 |.iD id ps hd=>.region id (YH ps) (some hd)
 |.seq a b=>.seq a.er b.er
 |.cond c a b=>.cond c a.er b.er
 |.join _ a=>a.er
 |.block id a=>.block id a.er
 |.loop _ a=>.loop a.er
 |.exit id=>.exit id
 |.scope a=>.scope a.er
 |.label l=>.label l
 |.ret=>.ret
def QD:List aM→List Nat
 |[]=>[]
 |o::r=>match o.dst with
  |some d=>d::QD r
  |none=>QD r
def bK.kK:bK→List Nat
 |.region _ ms _=>QD ms
 |.iD _ ps _=>QD (YH ps)
 |.seq a b=>a.kK++b.kK
 |.cond _ a b=>a.kK++b.kK
 |.join _ a=>a.kK
 |.block _ a=>a.kK
 |.loop _ a=>a.kK
 |.scope a=>a.kK
 |_=>[]
def ue(x:Nat):List Nat→Bool
 |[]=>false
 |y::l=>IN x y||ue x l
def xt:List Nat→List Nat→Bool
 |[],_=>true
 |x::l,b=>ue x b&&xt l b
def bK.ok:bK→Bool
 |.iD _ ps hd=>pK (YH ps).length hd 0 ps
 |.seq a b=>a.ok&&b.ok
 |.cond _ a b=>a.ok&&b.ok
 |.join lv a=>xt lv a.kK&&a.ok
 |.block _ a=>a.ok
 |.loop lv a=>xt lv a.kK&&a.ok
 |.scope a=>a.ok
 |_=>true
def qB:List aa→aa
 |[]=>.aQ
 |x::_=>x
def jC:List aa→List aa
 |[]=>[]
 |_::l=>l
def lH:List Nat→List aa→Frame→Frame
 |[],_,ρ=>ρ
 |k::ks,vs,ρ=>(k,qB vs)::lH ks (jC vs) ρ
def cU(l:List Nat):Frame→Frame
 |[]=>[]
 |(k,v)::r=>match ue k l with
  |true=>cU l r
  |false=>(k,v)::cU l r
def iB(ρ:Frame):List Nat→List aa
 |[]=>[]
 |s::r=>bL ρ s::iB ρ r
def kS(A:aF α)(hd:List (List Nat)):Nat→vz→Frame→List ab→(Frame→List ab→α)→α
 |_,[],ρ,σ,K=>K ρ σ
 |lo,(ft,true)::r,ρ,σ,K=>js A ft ρ σ λρ σ=>kS A hd (lo+ft.length) r ρ σ K
 |lo,(ft,false)::r,ρ,σ,K=>match lD ft with
  |true=>js A ft ρ σ λρ σ=>kS A hd (lo+ft.length) r ρ σ K
  |false=>Ct A ft ρ σ [] λρ σ lg=>A.gd (Zj (oA hd lo ft.length) lg) (kS A hd (lo+ft.length) r ρ σ K)
def dn(A:aF α):bK→Frame→List ab→(Frame→List ab→α)→(Nat→Frame→List ab→α)→(Frame→List ab→α)→α
 |.skip,ρ,σ,K,_,_=>K ρ σ
 |.label _,ρ,σ,K,_,_=>K ρ σ
 |.region _ ms none,ρ,σ,K,_,_=>js A ms ρ σ K
 |.region _ ms (some hd),ρ,σ,K,_,_=>match lD ms with
  |true=>js A ms ρ σ K
  |false=>Ct A ms ρ σ [] λρ σ lg=>A.gd (Zj hd lg) (K ρ σ)
 |.iD _ ps hd,ρ,σ,K,_,_=>kS A hd 0 ps ρ σ K
 |.seq a b,ρ,σ,K,E,R=>dn A a ρ σ (λρ σ=>dn A b ρ σ K E R) E R
 |.cond c a b,ρ,σ,K,E,R=>A.test (ev ρ c) (dn A a ρ σ K E R) (dn A b ρ σ K E R)
 |.join lv a,ρ,σ,K,E,R=>cI (λk=>dn A a ρ σ (λρ' σ=>k (iB ρ' lv) σ) E R) (λvs σ=>K (lH lv vs (cU a.kK ρ)) σ)
 | .block id a,ρ,σ,K,E,R=>dn A a ρ σ K (λi ρ σ=>match IN i id with
  |true=>K ρ σ
  | false=>E i ρ σ) R
 |.loop lv a,ρ,σ,_,E,R=>A.loop (λagain vs σ=>dn A a (lH lv vs (cU a.kK ρ)) σ (λρ' σ=>again (iB ρ' lv) σ) E R) (iB ρ lv) σ
 |.exit id,ρ,σ,_,E,_=>E id ρ σ
 |.scope a,ρ,σ,K,E,R=>dn A a ρ σ K E R
 |.ret,ρ,σ,_,_,R=>R ρ σ
def im(agg:Bool)(n:Nat)(x:aa)(σ:List ab):Option aa:=match x with
 |.ak b j=>match aj σ b with
  |.box row=>aK agg j n row
  |_=>none
 |_=>none
def yU(A:aF α):List RV→Frame→List ab→(List aa→α)→α
 |[],_,_,K=>K []
 |.t n::r,ρ,σ,K=>yU A r ρ σ λvs=>K (bL ρ n::vs)
 |.c s agg n::r,ρ,σ,K=>A.opt (im agg n (bL ρ s) σ) λv=>yU A r ρ σ λvs=>K (v::vs)
structure vy where
 np:Nat
 n:Nat
 body:bK
 gE:List RV
 deriving Inhabited
def vy.fn(D:vy):ve:=⟨D.np,D.n,D.body.er,D.gE⟩
def vW(A:aF α)(D:vy)(xs:List aa)(σ:List ab)(ret:aa→List ab→α):α:=
 dn A D.body (eO xs) σ (λρ σ=>yU A D.gE ρ σ λvs=>ret (pL vs) σ) (λ_ _ _=>A.stop) (λρ σ=>yU A D.gE ρ σ λvs=>ret (pL vs) σ)
def mc(stop:α):Nat→((List aa→List ab→α)→List aa→List ab→α)→List aa→List ab→α
 |0,_,_,_=>stop
 |n+1,F,vs,σ=>F (mc stop n F) vs σ
structure eQ (P:Program) (GL:ar) (A:aF α) (hold:α→Prop):Prop where
 stop:¬hold A.stop
 call:∀ {k xs σ K},hold (A.call k xs σ K)→∃R,nM P GL k xs σ R∧∀v σ',R v σ'→hold (K v σ')
 eS:∀ {k xs σ K},hold (A.eS k xs σ K)→∃v rd up σ',aD P GL k xs (hp σ) v rd up∧gp σ up=some σ'∧hold (K v (rd,up.map (·.1)) σ')
 test:∀ {v a b},hold (A.test v a b)→∃c,v=.bool c∧(c=true→hold a)∧(c=false→hold b)
 loop:∀ {F vs σ},hold (A.loop F vs σ)→∃n,hold (mc A.stop n F vs σ)
section
variable {P:Program} {GL:ar} {A:aF α} {hold:α→Prop}
theorem eQ.rd(ok:eQ P GL A hold){r:aA}{K:aa→α}(h:hold (A.rd r K)):∃v rd,r=.ok v rd []∧hold (K v):=by
 unfold aF.rd at h;split at h
 ·exact⟨_,_,rfl,h⟩
 ·exact(ok.stop h).elim
theorem eQ.pu(ok:eQ P GL A hold){r:aA}{K:aa→α}(h:hold (A.pu r K)):∃v,r=.ok v [] []∧hold (K v):=by
 unfold aF.pu at h;split at h
 ·exact⟨_,rfl,h⟩
 ·exact(ok.stop h).elim
theorem eQ.wr(ok:eQ P GL A hold){r:aA}{σ:List ab}{K:aa→List ab→α}(h:hold (A.wr r σ K)):∃v rd up σ',r=.ok v rd up∧gp σ up=some σ'∧hold (K v σ'):=by
 unfold aF.wr at h;split at h
 ·split at h
  ·grind
  ·exact(ok.stop h).elim
 ·exact(ok.stop h).elim
theorem eQ.dr(ok:eQ P GL A hold){r:aA}{σ:List ab}{K:aa→List Nat×List Nat→List ab→α}(h:hold (A.dr r σ K)):∃v rd up σ',r=.ok v rd up∧gp σ up=some σ'∧hold (K v (rd,up.map (·.1)) σ'):=by
 unfold aF.dr at h;split at h
 ·split at h
  ·grind
  ·exact(ok.stop h).elim
 ·exact(ok.stop h).elim
theorem eQ.gd(ok:eQ P GL A hold){b:Bool}{k:α}(h:hold (A.gd b k)):b=true∧hold k:=by
 unfold aF.gd at h;split at h
 ·exact⟨rfl,h⟩
 ·exact(ok.stop h).elim
theorem eQ.opt(ok:eQ P GL A hold){β:Type}{o:Option β}{K:β→α}(h:hold (A.opt o K)):∃v,o=some v∧hold (K v):=by
 unfold aF.opt at h;split at h
 ·exact⟨_,rfl,h⟩
 ·exact(ok.stop h).elim
theorem Zg(σ:List ab):gp σ []=some σ:=by simp[gp]
theorem QcQ{ρ:Frame}{s:Nat}{w c:Bool}(h:bL ρ s=.bool c):dD ρ (some (s,w)) [(c,w)]:=.bool s w c h
theorem ZdO{c w:Bool}:eE [(c,w)]↔c=w:=by simp[eE]
theorem Gf(ok:eQ P GL A hold){ρ:Frame}{s:Nat}{w:Bool}{r:α}{K:List (Bool×Bool)→α}(h:hold (A.gx (bL ρ s) w r K)):∃cs,dD ρ (some (s,w)) cs∧((eE cs∧hold r)∨(¬eE cs∧hold (K cs))):=by
 unfold aF.gx at h;split at h
 ·rename_i cs q hc;split at h
  ·rename_i hn;refine⟨_,.when s w q cs hc,.inr ⟨λq=>RB hn (λp hp=>q p (by simp[hp])),h⟩⟩
  ·exact(ok.stop h).elim
 ·obtain⟨b,hb,h1,h2⟩:=ok.test h;refine⟨_,QcQ hb,?_⟩
  grind [ZdO]
def Yi(l:List Nat)(ρ ρ':Frame):Prop:=∀s,s∉l→bL ρ' s=bL ρ s
theorem Yi.refl(l:List Nat)(ρ:Frame):Yi l ρ ρ:=λ_ _=>rfl
theorem Yi.trans{l l':List Nat}{a b c:Frame}(h:Yi l a b)(k:Yi l' b c):Yi (l++l') a c:=λs hs=>by
 simp only[zAI,not_or]at hs;rw[k s hs.2,h s hs.1]
theorem Yi.mono{l l':List Nat}{a b:Frame}(h:Yi l a b)(hl:∀x∈l,x∈l'):Yi l' a b:=λs hs=>h s λe=>hs (hl s e)
theorem Yi.put{o:aM}{v:aa}{ρ:Frame}:Yi (QD [o]) ρ (cz o.dst v ρ):=by
 intro s hs;rw[X6];cases hd:o.dst with
 |none=>simp
 |some d=>
  have:s≠d:=by rintro rfl;simp[QD,hd]at hs
  grind
theorem PY(o:aM)(r:List aM):QD (o::r)=QD [o]++QD r:=by
 cases hd:o.dst<;>simp[QD,hd]
theorem QcO(ok:eQ P GL A hold){fl:Bool}{o:aM}{ρ:Frame}{σ:List ab}{lg:Log}{K:Frame→List ab→α}(rm:fl=true→mI (fo o.k)=false)(h:hold (vX A o ρ σ K)) :
  eF fl P GL o ρ σ lg (λρ' σ' jF=>hold (K ρ' σ')∧Yi (QD [o]) ρ ρ'∧((∃l,jF=lg++[l]∧(mI (fo o.k)=false→l.2=[])))):=by
 unfold vX at h;cases hg:o.guard with
 |none=>
  simp only[hg]at h;have gi:dD ρ o.guard []:=by rw[hg];exact .none
  have hh:eE []:=by simp[eE]
  have DJ:hold (A.rd (eW o.k (o.xs.map (ev ρ)) σ) λv=>K (cz o.dst v ρ) σ)→eF fl P GL o ρ σ lg (λρ' σ' jF=>hold (K ρ' σ')∧Yi (QD [o]) ρ ρ'∧((∃l,jF=lg++[l]∧(mI (fo o.k)=false→l.2=[])))):=by
   intro h;obtain⟨v,rd,e,h⟩:=ok.rd h;exact .run [] _ v rd [] σ gi hh (Yn _) (XJ e) (Zg σ) ⟨h,Yi.put,_,rfl,λ_=>rfl⟩
  cases hc:fo o.k with
  |mv=>
   simp only[hc]at h;split at h
   ·rename_i x hx;have hk:o.k=.mv:=by
     revert hc;unfold fo;split<;>simp_all
    refine .run [] [ev ρ x] (ev ρ x) [] [] σ gi hh (by rw[hx];exact Yn _) (by rw[hk];exact Rs _ _) (Zg σ) ⟨h,Yi.put,_,rfl,λ_=>rfl⟩
   ·exact(ok.stop h).elim
  |pu=>simp_all
  |rd=>simp_all
  |wr=>
   simp only[hc]at h;obtain⟨v,rd,up,σ',e,e2,h⟩:=ok.wr h;exact .run [] _ v rd up σ' gi hh (Yn _) (XJ e) e2 ⟨h,Yi.put,_,rfl,λq=>by simp[mI]at q⟩
  |call=>
   simp only[hc]at h;obtain⟨R,hR,hk⟩:=ok.call h;refine .rel [] _ R ?_ gi hh (Yn _) hR (λv σ' hv=>⟨hk v σ' hv,Yi.put,_,rfl,λq=>by simp[mI]at q⟩);simp_all [mI]
 |some p=>
  obtain⟨s,w⟩:=p;simp only[hg]at h;have gj:∀cs,dD ρ (some (s,w)) cs→¬eE cs→hold (K (cz o.dst (tE cs) ρ) σ)→eF fl P GL o ρ σ lg (λρ' σ' jF=>hold (K ρ' σ')∧Yi (QD [o]) ρ ρ'∧((∃l,jF=lg++[l]∧(mI (fo o.k)=false→l.2=[])))):=by
   intro cs hb cO h;exact .lazy cs _ (.bool false) [] (by rw[hg];exact hb) (Yn _) (λq=>(cO q).elim) ⟨h,Yi.put,_,rfl,λ_=>rfl⟩
  have DJ:hold (A.gr (bL ρ s) w (λk=>A.rd (eW o.k (o.xs.map (ev ρ)) σ) k) λv=>K (cz o.dst v ρ) σ)→eF fl P GL o ρ σ lg (λρ' σ' jF=>hold (K ρ' σ')∧Yi (QD [o]) ρ ρ'∧((∃l,jF=lg++[l]∧(mI (fo o.k)=false→l.2=[])))):=by
   intro h;obtain⟨cs,hb,⟨h0,h1⟩|⟨h0,h1⟩⟩:=Gf ok h
   ·obtain⟨v,rd,e,h⟩:=ok.rd h1;exact .run cs _ v rd [] σ (by rw[hg];exact hb) h0 (Yn _) (XJ e) (Zg σ) ⟨h,Yi.put,_,rfl,λ_=>rfl⟩
   ·exact gj cs hb h0 h1
  cases hc:fo o.k with
  |mv=>simp_all
  |pu=>simp_all
  |rd=>simp_all
  |wr=>
   simp only[hc]at h gj;obtain⟨cs,hb,⟨h0,h1⟩|⟨h0,h1⟩⟩:=Gf ok h
   ·obtain⟨v,rd,up,σ',e,e2,h⟩:=ok.wr h1;exact .run cs _ v rd up σ' (by rw[hg];exact hb) h0 (Yn _) (XJ e) e2 ⟨h,Yi.put,_,rfl,λq=>by simp[mI]at q⟩
   ·exact gj cs hb h0 h1
  |call=>
   simp only[hc]at h gj;obtain⟨cs,hb,⟨h0,h1⟩|⟨h0,h1⟩⟩:=Gf ok h
   ·obtain⟨R,hR,hk⟩:=ok.call h1;refine .rel cs _ R ?_ (by rw[hg];exact hb) h0 (Yn _) hR (λv σ' hv=>⟨hk v σ' hv,Yi.put,_,rfl,λq=>by simp[mI]at q⟩);simp_all [mI]
   ·exact gj cs hb h0 h1
theorem iU.mono{fl:Bool}:∀ {ms:List aM} {ρ:Frame} {σ:List ab} {lg:Log} {K K':Frame→List ab→Log→Prop},(∀ρ σ lg,K ρ σ lg→K' ρ σ lg)→iU fl P GL ms ρ σ lg K→iU fl P GL ms ρ σ lg K'
 |[],_,_,_,_,_,h,k=>h _ _ _ k
 |_::_,_,_,_,_,_,h,k=>eF.mono (λ_ _ _ q=>iU.mono h q) k
def qO(lg:Log):Prop:=∀l∈lg,l.2=[]
theorem YQ(ok:eQ P GL A hold){fl:Bool}:∀ {ms:List aM} {ρ:Frame} {σ:List ab} {lg:Log} {K:Frame→List ab→α},(fl=true→lD ms=true)→hold (js A ms ρ σ K) →
  iU fl P GL ms ρ σ lg (λρ' σ' jF=>hold (K ρ' σ')∧Yi (QD ms) ρ ρ'∧(lD ms=true→qO lg→qO jF))
 |[],ρ,σ,lg,K,_,h=>⟨h,Yi.refl _ _,λ_ q=>q⟩
 |o::r,ρ,σ,lg,K,rm,h=>by
  unfold js at h;have T':fl=true→mI (fo o.k)=false:=λe=>by simp_all [lD]
  have Ua:fl=true→lD r=true:=λe=>by simp_all [lD]
  refine eF.mono (λρ' σ' jF=>?_) (QcO ok (lg:=lg) T' h);rintro⟨k1,k2,l,hl,k3⟩;refine iU.mono (λV' fD Vq=>?_) (YQ ok Ua k1);rintro⟨q1,q2,q3⟩;refine⟨q1,by rw[PY];exact k2.trans q2,λhn Uo=>?_⟩;simp only[lD,AI,zAf]at hn;refine q3 hn.2 ?_;rw[hl];intro x hx;simp only[zAI,List.mem_singleton]at hx;rcases hx with hx|hx
  ·exact Uo x hx
  ·rw[hx];exact k3 hn.1
theorem Zcm(ok:eQ P GL A hold){o:aM}{ρ:Frame}{σ:List ab}{lg:Log}{K:Frame→List ab→Log→α}(h:hold (qZ A o ρ σ lg K)) :
  eF true P GL o ρ σ lg (λρ' σ' jF=>hold (K ρ' σ' jF)∧Yi (QD [o]) ρ ρ'):=by
 unfold qZ at h;cases hg:o.guard with
 |none=>
  simp only[hg]at h;have gi:dD ρ o.guard []:=by rw[hg];exact .none
  have hh:eE []:=by simp[eE]
  have n9:hold (A.dr (eW o.k (o.xs.map (ev ρ)) σ) σ λv l σ=>K (cz o.dst v ρ) σ (lg++[l]))→eF true P GL o ρ σ lg (λρ' σ' jF=>hold (K ρ' σ' jF)∧Yi (QD [o]) ρ ρ'):=by
   intro h;obtain⟨v,rd,up,σ',e,e2,h⟩:=ok.dr h;exact .run [] _ v rd up σ' gi hh (Yn _) (XJ e) e2 ⟨h,Yi.put⟩
  cases hc:fo o.k with
  |mv=>
   simp only[hc]at h;split at h
   ·rename_i x hx;have hk:o.k=.mv:=by
     revert hc;unfold fo;split<;>simp_all
    refine .run [] [ev ρ x] (ev ρ x) [] [] σ gi hh (by rw[hx];exact Yn _) (by rw[hk];exact Rs _ _) (Zg σ) ⟨h,Yi.put⟩
   ·exact(ok.stop h).elim
  |pu=>
   simp only[hc]at h;obtain⟨v,e,h⟩:=ok.pu h;exact .run [] _ v [] [] σ gi hh (Yn _) (XJ e) (Zg σ) ⟨h,Yi.put⟩
  |rd=>simp only[hc]at h;exact n9 h
  |wr=>simp only[hc]at h;exact n9 h
  |call=>
   simp only[hc]at h;obtain⟨v,rd,up,σ',e,e2,h⟩:=ok.eS h;exact .run [] _ v rd up σ' gi hh (Yn _) e e2 ⟨h,Yi.put⟩
 |some p=>
  obtain⟨s,w⟩:=p;simp only[hg]at h;have gj:∀cs,dD ρ (some (s,w)) cs→¬eE cs→hold (K (cz o.dst (tE cs) ρ) σ (lg++[([],[])]))→eF true P GL o ρ σ lg (λρ' σ' jF=>hold (K ρ' σ' jF)∧Yi (QD [o]) ρ ρ'):=by
   intro cs hb cO h;exact .lazy cs _ (.bool false) [] (by rw[hg];exact hb) (Yn _) (λq=>(cO q).elim) ⟨h,Yi.put⟩
  have xn:hold (A.gr (bL ρ s) w (λk=>A.pu (eW o.k (o.xs.map (ev ρ)) σ) k) λv=>K (cz o.dst v ρ) σ (lg++[([],[])]))→eF true P GL o ρ σ lg (λρ' σ' jF=>hold (K ρ' σ' jF)∧Yi (QD [o]) ρ ρ'):=by
   intro h;obtain⟨cs,hb,⟨h0,h1⟩|⟨h0,h1⟩⟩:=Gf ok h
   ·obtain⟨v,e,h⟩:=ok.pu h1;exact .run cs _ v [] [] σ (by rw[hg];exact hb) h0 (Yn _) (XJ e) (Zg σ) ⟨h,Yi.put⟩
   ·exact gj cs hb h0 h1
  have n9:hold (A.gl (bL ρ s) w (λk=>A.dr (eW o.k (o.xs.map (ev ρ)) σ) σ k) σ λv l σ=>K (cz o.dst v ρ) σ (lg++[l]))→eF true P GL o ρ σ lg (λρ' σ' jF=>hold (K ρ' σ' jF)∧Yi (QD [o]) ρ ρ'):=by
   intro h;obtain⟨cs,hb,⟨h0,h1⟩|⟨h0,h1⟩⟩:=Gf ok h
   ·obtain⟨v,rd,up,σ',e,e2,h⟩:=ok.dr h1;exact .run cs _ v rd up σ' (by rw[hg];exact hb) h0 (Yn _) (XJ e) e2 ⟨h,Yi.put⟩
   ·exact gj cs hb h0 h1
  cases hc:fo o.k with
  |mv=>simp only[hc]at h;exact xn h
  |pu=>simp only[hc]at h;exact xn h
  |rd=>simp only[hc]at h;exact n9 h
  |wr=>simp only[hc]at h;exact n9 h
  |call=>
   simp only[hc]at h;obtain⟨cs,hb,⟨h0,h1⟩|⟨h0,h1⟩⟩:=Gf ok h
   ·obtain⟨v,rd,up,σ',e,e2,h⟩:=ok.eS h1;exact .run cs _ v rd up σ' (by rw[hg];exact hb) h0 (Yn _) e e2 ⟨h,Yi.put⟩
   ·exact gj cs hb h0 h1
theorem RJ(ok:eQ P GL A hold):∀ {ms:List aM} {ρ:Frame} {σ:List ab} {lg:Log} {K:Frame→List ab→Log→α},hold (Ct A ms ρ σ lg K) →
  iU true P GL ms ρ σ lg (λρ' σ' jF=>hold (K ρ' σ' jF)∧Yi (QD ms) ρ ρ')
 |[],ρ,σ,lg,K,h=>⟨h,Yi.refl _ _⟩
 |o::r,ρ,σ,lg,K,h=>by
  unfold Ct at h;refine eF.mono (λρ' σ' jF=>?_) (Zcm ok h);rintro⟨k1,k2⟩;refine iU.mono (λV' fD Vq=>?_) (RJ ok k1);rintro⟨q1,q2⟩;exact⟨q1,by rw[PY];exact k2.trans q2⟩
theorem WR:∀a:List Nat,dZ a []=true
 |[]=>rfl
 |x::a=>by simp[dZ,WR a]
theorem Rx{hd:List (List Nat)}{lg:Log}(h:qO lg):Zj hd lg=true:=by
 have one:∀(h':List Nat) (q:List Nat×List Nat),q.2=[]→∀(l:Log) (i:Nat),qO l→Xn h' q i l=true:=by
  intro h' q hq l
  induction l with
  |nil=>intro i _;rfl
  |cons p r ih=>
   intro i hl;have hp:p.2=[]:=hl p (by simp);simp[Xn,cf,hq,hp,dZ,WR,ih (i+1) (λx hx=>hl x (by simp[hx]))]
 unfold Zj;rw[zAj];intro j _;refine one _ _ ?_ _ _ (λx hx=>h x (List.mem_of_mem_take hx));unfold Qv;cases hj:lg[j]? with
 |none=>rfl
 |some p=>exact h p (zAK hj)
theorem IK{x:Nat}:∀ {l:List Nat},ue x l=true↔x∈l
 |[]=>by simp[ue]
 |y::l=>by simp[ue,IK (l:=l)]
theorem RQ:∀ {l b:List Nat},xt l b=true→∀x∈l,x∈b
 |[],_,_,x,h=>by simp at h
 |y::l,b,h,x,hx=>by
  simp only[xt,AI]at h;simp only[zAR]at hx;rcases hx with rfl|hx
  ·exact IK.1 h.1
  ·exact RQ h.2 x hx
theorem Nv(l:List Nat)(s:Nat):∀ρ:Frame,bL (cU l ρ) s=if s∈l then .aQ else bL ρ s
 |[]=>by simp[cU,bL]
 |(k,v)::r=>by
  unfold cU;cases hk:ue k l with
  |true=>
   have hm:=IK.1 hk;simp only;rw[Nv l s r];by_cases hs:s∈l
   ·simp[hs]
   ·have:s≠k:=by rintro rfl;exact hs hm
    simp_all [XS]
  |false=>
   have hm:k∉l:=λe=>by rw[IK.2 e]at hk;cases hk
   simp only;rw[XS,XS,Nv l s r];by_cases hs:s=k
   ·subst hs;simp[hm]
   ·simp[hs]
theorem Z_{s:Nat}:∀ {lv:List Nat} {vs:List aa} {ρ:Frame},s∉lv→bL (lH lv vs ρ) s=bL ρ s
 |[],_,_,_=>rfl
 |k::ks,vs,ρ,h=>by
  simp only[zAR,not_or]at h;simp only[lH];rw[XS,aE h.1,Z_ h.2]
theorem PR{lv:List Nat}{l:List Nat}{ρ ρ1:Frame}(hl:∀x∈lv,x∈l)(h:Yi l ρ ρ1):vd (lH lv (iB ρ1 lv) (cU l ρ)) ρ1:=by
 have key:∀(ks:List Nat) (ρ0:Frame),vd ρ0 ρ1→vd (lH ks (iB ρ1 ks) ρ0) ρ1:=by
  intro ks
  induction ks with
  |nil=>intro ρ0 h;exact h
  |cons k ks ih=>
   intro ρ0 h t;simp only[lH,iB,qB,jC];rw[XS];by_cases e:t=k
   ·simp_all
   ·rw[aE e];exact ih ρ0 h t
 refine key lv _ (λt=>?_);rw[Nv];by_cases ht:t∈l
 ·rw[aJ ht];exact .inr rfl
 ·rw[aE ht];exact .inl (h t ht).symm
theorem Xci{lv l:List Nat}{vs:List aa}{ρ:Frame}(hl:∀x∈lv,x∈l):Yi l ρ (lH lv vs (cU l ρ)):=by
 intro s hs;rw[Z_ (λe=>hs (hl s e)),Nv,aE hs]
theorem XbL{n:Nat}{m:dd}{ρ:Frame}{σ:List ab}{Q:eD}(h:iR P GL n m ρ σ (λe ρ1 σ1=>∃ρ2,vd ρ2 ρ1∧Q e ρ2 σ1)):iR P GL n m ρ σ Q:=by
 intro c hc w0 L g a w r d;refine wp_mono (h c hc w0 L g a w r d) (λe a' w' hl=>?_);cases e with
 |normal=>obtain⟨g',ρ',σ',k1,k2,k3,ρ2,k4,k5⟩:=hl;exact⟨g',ρ2,σ',k1,k2,k3.dY k4,k5⟩
 |exit id=>obtain⟨g',ρ',σ',k1,k2,k3,ρ2,k4,k5⟩:=hl;exact⟨g',ρ2,σ',k1,k2,k3.dY k4,k5⟩
 |ret=>obtain⟨g',ρ',σ',k1,k2,k3,ρ2,k4,k5⟩:=hl;exact⟨g',ρ2,σ',k1,k2,k3.dY k4,k5⟩
 |_=>exact hl.elim
theorem vd.refl(ρ:Frame):vd ρ ρ:=λ_=>.inl rfl
theorem We(a b:List aM):QD (a++b)=QD a++QD b:=by
 induction a with
 |nil=>rfl
 |cons o r ih=>grind [PY]
theorem Ns(ok:eQ P GL A hold){hd:List (List Nat)}:∀(ps:vz) (lo:Nat) {ρ:Frame} {σ:List ab} {K:Frame→List ab→α} {Q:Frame→List ab→Prop},(∀ρ' σ',Yi (QD (YH ps)) ρ ρ'→hold (K ρ' σ')→Q ρ' σ')→hold (kS A hd lo ps ρ σ K)→sy P GL hd lo ps ρ σ Q
 |[],_,_,_,_,_,hQ,h=>hQ _ _ (Yi.refl _ _) h
 |(ft,true)::r,lo,ρ,σ,K,Q,hQ,h=>by
  unfold kS at h;refine iU.mono (λρ' σ' jF=>?_) (YQ ok (fl:=false) (λe=>by cases e) h);rintro⟨k1,k2,_⟩;exact Ns ok r _ (λρ2 σ2 q=>hQ ρ2 σ2 (by rw[YH,We];exact k2.trans q)) k1
 |(ft,false)::r,lo,ρ,σ,K,Q,hQ,h=>by
  unfold kS at h;have hQ':∀ρ',Yi (QD ft) ρ ρ'→∀ρ2 σ2,Yi (QD (YH r)) ρ' ρ2→hold (K ρ2 σ2)→Q ρ2 σ2:=λρ' k2 ρ2 σ2 q=>hQ ρ2 σ2 (by rw[YH,We];exact k2.trans q);cases hn:lD ft with
  |true=>
   simp only[hn]at h;refine iU.mono (λρ' σ' jF=>?_) (YQ ok (fl:=true) (λ_=>hn) h);rintro⟨k1,k2,k3⟩;exact⟨Rx (k3 hn (λ_ q=>by simp at q)),Ns ok r _ (hQ' _ k2) k1⟩
  |false=>
   simp only[hn]at h;refine iU.mono (λρ' σ' jF=>?_) (RJ ok h);rintro⟨k1,k2⟩;obtain⟨q1,q2⟩:=ok.gd k1;exact⟨q1,Ns ok r _ (hQ' _ k2) q2⟩
theorem YX(hP:P.follows .mixedOrders=true)(ok:eQ P GL A hold){n:Nat}:∀(m:bK) {ρ:Frame} {σ:List ab} {K:Frame→List ab→α} {E:Nat→Frame→List ab→α} {R:Frame→List ab→α} {Q:eD},m.ok=true →
  (∀ρ' σ',Yi m.kK ρ ρ'→hold (K ρ' σ')→Q .normal ρ' σ')→(∀i ρ' σ',Yi m.kK ρ ρ'→hold (E i ρ' σ')→Q (.exit i) ρ' σ')→(∀ρ' σ',Yi m.kK ρ ρ'→hold (R ρ' σ')→Q .ret ρ' σ') →
  hold (dn A m ρ σ K E R)→iR P GL n m.er ρ σ Q
 |.skip,_,_,_,_,_,_,_,hK,_,_,h=>YdG (hK _ _ (Yi.refl _ _) h)
 |.label _,_,_,_,_,_,_,_,hK,_,_,h=>Yc5 (hK _ _ (Yi.refl _ _) h)
 |.exit id,_,_,_,_,_,_,_,_,hE,_,h=>ZdG (hE _ _ _ (Yi.refl _ _) h)
 |.ret,_,_,_,_,_,_,_,_,_,hR,h=>Xd4 (hR _ _ (Yi.refl _ _) h)
 |.scope a,_,_,_,_,_,_,hm,hK,hE,hR,h=>Xc5 (YX hP ok a hm hK hE hR h)
 |.region id ms none,ρ,σ,K,E,R,Q,_,hK,_,_,h=>by
  refine XcM (iU.mono (λρ' σ' jF=>?_) (YQ ok (fl:=false) (λe=>by cases e) h));rintro⟨k1,k2,_⟩;exact hK _ _ k2 k1
 |.region id ms (some hd),ρ,σ,K,E,R,Q,_,hK,_,_,h=>by
  unfold dn at h;cases hn:lD ms with
  |true=>
   simp only[hn]at h;refine Zcw hP (iU.mono (λρ' σ' jF=>?_) (YQ ok (fl:=true) (λ_=>hn) h));rintro⟨k1,k2,k3⟩;exact⟨Rx (k3 hn (λ_ q=>by simp at q)),hK _ _ k2 k1⟩
  |false=>
   simp only[hn]at h;refine Zcw hP (iU.mono (λρ' σ' jF=>?_) (RJ ok h));rintro⟨k1,k2⟩;obtain⟨q1,q2⟩:=ok.gd k1;exact⟨q1,hK _ _ k2 q2⟩
 |.iD id ps hd,ρ,σ,K,E,R,Q,hm,hK,_,_,h=>Yd4 hP hm (Ns ok ps 0 (λρ' σ' q k=>hK _ _ q k) h)
 |.seq a b,ρ,σ,K,E,R,Q,hm,hK,hE,hR,h=>by
  simp only[bK.ok,AI]at hm;refine Qd4 (YX hP ok a hm.1 (Q:=eD.andThen (λρ σ=>iR P GL n b.er ρ σ Q) Q) (λρ' σ' hs hk=>?_) (λi ρ' σ' hs hk=>?_) (λρ' σ' hs hk=>?_) h)
  ·exact YX hP ok b hm.2 (λρ2 σ2 qf=>hK _ _ (hs.trans qf)) (λi ρ2 σ2 qf=>hE _ _ _ (hs.trans qf)) (λρ2 σ2 qf=>hR _ _ (hs.trans qf)) hk
  ·exact hE i ρ' σ' (hs.mono (λx hx=>by simp[bK.kK,hx])) hk
  ·exact hR ρ' σ' (hs.mono (λx hx=>by simp[bK.kK,hx])) hk
 |.cond c a b,ρ,σ,K,E,R,Q,hm,hK,hE,hR,h=>by
  simp only[bK.ok,AI]at hm;unfold dn at h;obtain⟨v,hv,h1,h2⟩:=ok.test h;have m1:∀ρ',Yi a.kK ρ ρ'→Yi (bK.cond c a b).kK ρ ρ':=λρ' q=>q.mono (λx hx=>by simp[bK.kK,hx]);have m2:∀ρ',Yi b.kK ρ ρ'→Yi (bK.cond c a b).kK ρ ρ':=λρ' q=>q.mono (λx hx=>by simp[bK.kK,hx]);refine QdF hv (λe=>?_) (λe=>?_)
  ·exact YX hP ok a hm.1 (λρ2 σ2 q=>hK _ _ (m1 _ q)) (λi ρ2 σ2 q=>hE _ _ _ (m1 _ q)) (λρ2 σ2 q=>hR _ _ (m1 _ q)) (h1 e)
  ·exact YX hP ok b hm.2 (λρ2 σ2 q=>hK _ _ (m2 _ q)) (λi ρ2 σ2 q=>hE _ _ _ (m2 _ q)) (λρ2 σ2 q=>hR _ _ (m2 _ q)) (h2 e)
 |.join lv a,ρ,σ,K,E,R,Q,hm,hK,hE,hR,h=>by
  simp only[bK.ok,AI]at hm;have BF:=RQ hm.1;refine XbL (YX hP ok a hm.2 (K:=λρ' σ=>K (lH lv (iB ρ' lv) (cU a.kK ρ)) σ) (E:=E) (R:=R) (λρ' σ' hs hk=>?_) (λi ρ' σ' hs hk=>⟨ρ',vd.refl _,hE i ρ' σ' hs hk⟩) (λρ' σ' hs hk=>⟨ρ',vd.refl _,hR ρ' σ' hs hk⟩) h);exact⟨_,PR BF hs,hK _ _ (Xci BF) hk⟩
 |.block id a,ρ,σ,K,E,R,Q,hm,hK,hE,hR,h=>by
  refine Zc5 (YX hP ok a hm (Q:=eD.inBlock id Q) hK (λi ρ' σ' hs hk=>?_) hR h);show (if i=id then Q .normal ρ' σ' else Q (.exit i) ρ' σ');by_cases hi:i=id
  ·subst hi;rw[aJ rfl];have hb:IN i i=true:=zBf i;simp only[hb]at hk;exact hK _ _ hs hk
  ·rw[aE hi];have hb:IN i id=false:=by
    grind [fV]
   simp only[hb]at hk;exact hE _ _ _ hs hk
 |.loop lv a,ρ,σ,K,E,R,Q,hm,hK,hE,hR,h=>by
  simp only[bK.ok,AI]at hm;have BF:=RQ hm.1;unfold dn at h;obtain⟨k,hk⟩:=ok.loop h;have key:∀(k:Nat) (vs:List aa) (σ:List ab) (ρ1:Frame),vd (lH lv vs (cU a.kK ρ)) ρ1 →
    hold (mc A.stop k (λagain vs σ=>dn A a (lH lv vs (cU a.kK ρ)) σ (λρ' σ=>again (iB ρ' lv) σ) E R) vs σ)→iR P GL n (.loop a.er) ρ1 σ Q:=by
   intro k
   induction k with
   |zero=>intro vs σ ρ1 _ hk;exact(ok.stop hk).elim
   |succ k ih=>
    intro vs σ ρ1 hle hk;have hz:Yi a.kK ρ (lH lv vs (cU a.kK ρ)):=Xci BF;have my:∀ρ',Yi a.kK (lH lv vs (cU a.kK ρ)) ρ'→Yi a.kK ρ ρ':=λρ' q=>(hz.trans q).mono (λx hx=>by simpa using hx);refine XdG hle (QcM (YX hP ok a hm.2 (Q:=eD.andThen (λρ σ=>iR P GL n (.loop a.er) ρ σ Q) Q) (λρ' σ' hs hk=>?_) (λi ρ' σ' hs hk=>?_) (λρ' σ' hs hk=>?_) hk))
    ·exact ih _ _ ρ' (PR BF (my _ hs)) hk
    ·exact hE i ρ' σ' (my _ hs) hk
    ·exact hR ρ' σ' (my _ hs) hk
  exact key k _ σ ρ (PR BF (Yi.refl _ _)) hk
theorem X9(ok:eQ P GL A hold):∀ {rs:List RV} {ρ:Frame} {σ:List ab} {K:List aa→α},hold (yU A rs ρ σ K)→∃vs,oT ρ σ rs=some vs∧hold (K vs)
 |[],_,_,_,h=>⟨[],rfl,h⟩
 |.t n::r,ρ,σ,K,h=>by
  obtain⟨vs,h1,h2⟩:=X9 ok (rs:=r) h;exact⟨bL ρ n::vs,by simp[oT,rY,h1],h2⟩
 |.c s agg n::r,ρ,σ,K,h=>by
  unfold yU at h;obtain⟨v,hv,h⟩:=ok.opt h;obtain⟨vs,h1,h2⟩:=X9 ok (rs:=r) h;have ss:rY ρ σ (.c s agg n)=some v:=by
   unfold im at hv;unfold rY;exact hv
  exact⟨v::vs,by simp[oT,ss,h1],h2⟩
theorem XcO(hP:P.follows .mixedOrders=true)(ok:eQ P GL A hold){D:vy}(hD:D.body.ok=true){xs:List aa}{σ:List ab}{ret:aa→List ab→α}(h:hold (vW A D xs σ ret)) :
  iR P GL D.n D.body.er (eO xs) σ (λe ρ σ'=>(e=.normal∨e=.ret)∧∃v,iE D.gE ρ σ'=some v∧hold (ret v σ')):=by
 refine YX hP ok D.body hD (λρ' σ' _ hk=>?_) (λi ρ' σ' _ hk=>(ok.stop hk).elim) (λρ' σ' _ hk=>?_) h
 ·obtain⟨vs,h1,h2⟩:=X9 ok hk;simp_all [iE]
 ·obtain⟨vs,h1,h2⟩:=X9 ok hk;simp_all [iE]
end
end
end Go.Ah
end
section
namespace Go.Ah
abbrev fz:=∀ {α:Type},aF α→List aa→List ab→(aa→List ab→α)→α
structure mB (P:Program) (GL:ar) (f:FuncId) (np:Nat) (g:fz):Prop where
 plain:Zh P f=true
 ex:∃D:vy,D.np=np∧mA P GL f D.fn∧D.body.ok=true∧∀(α:Type) (A:aF α) (xs:List aa) (σ:List ab) (ret:aa→List ab→α),xs.length=np→g A xs σ ret=vW A D xs σ ret
def fW:dd→List (Option (List Nat))→bK×List (Option (List Nat))
 |.skip,l=>(.skip,l)
 |.region id ms hd,l=>(.region id ms hd,l)
 |.seq a b,l=>match fW a l with
  |(a',l)=>match fW b l with
   |(b',l)=>(.seq a' b',l)
 |.cond c a b,l=>match fW a l.tail with
  |(a',l2)=>match fW b l2 with
   |(b',l3)=>match l with
    |some lv::_=>(.join lv (.cond c a' b'),l3)
    |_=>(.cond c a' b',l3)
 |.block id a,l=>match fW a l.tail with
  |(a',l2)=>match l with
   |some lv::_=>(.join lv (.block id a'),l2)
   |_=>(.block id a',l2)
 |.loop a,l=>match fW a l.tail with
  |(a',l2)=>match l with
   |some lv::_=>(.loop lv a',l2)
   |_=>(.loop [] a',l2)
 |.exit id,l=>(.exit id,l)
 |.scope a,l=>match fW a l with
  |(a',l)=>(.scope a',l)
 |.label n,l=>(.label n,l)
 |.ret,l=>(.ret,l)
theorem ZP:∀(m:dd) (l:List (Option (List Nat))),(fW m l).1.er=m
 |.skip,_=>rfl
 |.region ..,_=>rfl
 |.seq a b,l=>by simp only[fW,bK.er,ZP a,ZP b]
 |.cond c a b,l=>by
  simp only[fW];split<;>simp only[bK.er,ZP a,ZP b]
 |.block id a,l=>by
  simp only[fW];split<;>simp only[bK.er,ZP a]
 |.loop a,l=>by
  simp only[fW];split<;>simp only[bK.er,ZP a]
 |.exit _,_=>rfl
 |.scope a,l=>by simp only[fW,bK.er,ZP a]
 |.label _,_=>rfl
 |.ret,_=>rfl
def yL(n:Nat)(hd:List (List Nat)):Nat→List aM→List aM→vz
 |_,[],[]=>[]
 |_,[],o::c=>[(o::c,false)]
 |i,o::r,c=>match fo o.k,o.guard with
  |.call,none=>match zj n hd i&&zj n hd (i+1)with
   |true=>match c with
    |[]=>([o],true)::yL n hd (i+1) r []
    |x::c=>(x::c,false)::([o],true)::yL n hd (i+1) r []
   |false=>yL n hd (i+1) r (c++[o])
  |_,_=>yL n hd (i+1) r (c++[o])
theorem Oe(n:Nat)(hd:List (List Nat)):∀(i:Nat) (l c:List aM),YH (yL n hd i l c)=c++l
 |_,[],[]=>rfl
 |_,[],o::c=>by simp[yL,YH]
 |i,o::r,c=>by
  have h1:YH (yL n hd (i+1) r (c++[o]))=c++o::r:=by rw[Oe];simp
  unfold yL;split
  ·split
   ·split
    ·simp[YH,Oe]
    ·simp[YH,Oe]
   ·exact h1
  ·exact h1
def YZ:bK→bK
 |.region id ms (some hd)=>.iD id (yL ms.length hd 0 ms []) hd
 |.seq a b=>.seq (YZ a) (YZ b)
 |.cond c a b=>.cond c (YZ a) (YZ b)
 |.join lv a=>.join lv (YZ a)
 |.block id a=>.block id (YZ a)
 |.loop lv a=>.loop lv (YZ a)
 |.scope a=>.scope (YZ a)
 |D=>D
theorem XT:∀D:bK,(YZ D).er=D.er
 |.region id ms (some hd)=>by simp[YZ,bK.er,Oe]
 |.region id ms none=>rfl
 |.iD ..=>rfl
 |.seq a b=>by simp only[YZ,bK.er,XT a,XT b]
 |.cond c a b=>by simp only[YZ,bK.er,XT a,XT b]
 |.join lv a=>by simp only[YZ,bK.er,XT a]
 |.block id a=>by simp only[YZ,bK.er,XT a]
 |.loop lv a=>by simp only[YZ,bK.er,XT a]
 |.scope a=>by simp only[YZ,bK.er,XT a]
 |.skip=>rfl
 |.label _=>rfl
 |.exit _=>rfl
 |.ret=>rfl
def IJ(m:dd)(l:List (Option (List Nat))):bK:=match l with
 |some [k]::r=>match IN k 999 with
  |true=>YZ (fW m r).1
  |false=>(fW m l).1
 |_=>(fW m l).1
theorem Yc4(m:dd)(l:List (Option (List Nat))):(IJ m l).er=m:=by
 unfold IJ
 grind [XT,ZP]
def eI(P:Program)(GL:ar)(np:Nat)(f:FuncId)(l:List (Option (List Nat))):Option vy:=match Rp P GL np f with
 |some F=>bif (IJ F.body l).ok&&(Zh P f&&IN F.np np)then some ⟨np,F.n,IJ F.body l,F.gE⟩else none
 |none=>none
theorem Zet{P:Program}{GL:ar}{np:Nat}{f:FuncId}{l:List (Option (List Nat))}{g:fz}{D:vy}(hD:eI P GL np f l=some D)(h:∀(α:Type) (A:aF α) (xs:List aa) (σ:List ab) (ret:aa→List ab→α),xs.length=np→g A xs σ ret=vW A D xs σ ret):mB P GL f np g:=by
 unfold eI at hD;split at hD
 ·rename_i F hF;obtain⟨hb,hD⟩:=QE hD;simp only[AI]at hb;cases hD;have G_:=fV hb.2.2;refine⟨hb.2.1,_,rfl,?_,hb.1,h⟩;have yu:vy.fn ⟨np,F.n,IJ F.body l,F.gE⟩=F:=by
   cases F<;>simp_all [vy.fn,Yc4]
  rw[yu];exact Qdb hF
 ·cases hD
end Go.Ah
end
section
namespace Go.Ah
theorem Zq{σ:List ab}{b:Nat}{x:ab}(h:σ[b]?=some x):aj σ b=x:=by
 induction σ generalizing b with
 |nil=>simp at h
 |cons y σ ih=>cases b<;>simp_all [aj]
theorem PD{σ:List ab}{b:Nat}(h:b<σ.length):σ[b]?=some (aj σ b):=by
 simp_all [Zq]
def GB(fp:List Nat)(n:Nat):Nat→List ab→List ab
 |_,[]=>[]
 |i,x::l=>(bif ue i fp then x.dC (aa.ct (oN n))else .dead)::GB fp n (i+1) l
def mg(fp:List Nat)(σ:List ab):List ab:=GB fp σ.length 0 σ
theorem XbE(fp:List Nat)(n:Nat):∀(l:List ab) (i j:Nat),(GB fp n i l)[j]?=(l[j]?).map λx=>bif ue (i+j) fp then x.dC (aa.ct (oN n))else .dead
 |[],i,j=>by simp[GB]
 |x::l,i,0=>by simp[GB]
 |x::l,i,j+1=>by
  simp only[GB,List.getElem?_cons_succ];rw[XbE fp n l (i+1) j,show i+1+j=i+(j+1) by omega]
theorem PF(fp:List Nat)(σ:List ab)(j:Nat):(mg fp σ)[j]?=(σ[j]?).map λx=>bif ue j fp then x.dC (aa.ct (oN σ.length))else .dead:=by
 rw[mg,XbE,No]
theorem ZcE(F:Nat→ab):∀(keys:List Nat) (h:Hp) (b:Nat),cw h (keys.map λb=>(b,F b)) b=if b∈keys then some (F b)else h b
 |[],h,b=>by simp[cw]
 |x::keys,h,b=>by
  simp only[zAN,cw];rw[ZcE F keys]
  grind [ei]
section
variable {P:Program} {GL:ar}
theorem ZaZ{f:FuncId}{F:ve}(ok:mA P GL f F){xs AD:List aa}(hn:xs.length=F.np)(σ:List ab)(fp ids:List Nat)(zJ:∀b∈fp,b∈ids)(pk:∀b∈ids,b<σ.length){v:aa}{k:Nat}{τ τ':List ab}
 (zY:ic (oN σ.length) xs=AD)(hτ:mg fp σ=τ)(h:iR P GL F.n F.body (eO AD) τ (λe ρ s=>(e=.normal∨e=.ret)∧iE F.gE ρ s=some v∧s=τ'))(hk:τ'.length=σ.length+k) :
  jo P GL f xs (hp σ) (v.ct (fq ids σ.length k)) ids ((fp++zBG σ.length k).map λb=>(b,(aj τ' b).dC (aa.ct (fq ids σ.length k)))):=by
 intro w0 L g hq w vs r hx dc ei;subst zY;subst hτ
 let dm:CB:=⟨0,0,0,true,0⟩
 let c':Own:=λb=>if b<σ.length then some ((g.c b).getD dm)else none
 let lb:List Nat:=fp.filterMap λb=>match g.c b,σ[b]? with
  |some cb,some x=>bif x.live && !cb.cK then some cb.blk else none
  |_,_=>none
 have lq:∀b∈ids,∃cb,g.c b=some cb∧c' b=some cb∧hq b=σ[b]?:=by
  intro b hb;have hl:=pk b hb;have e1:hq b=σ[b]?:=dc b hb;obtain⟨cb,uJ⟩:=r.jn b σ[b] (by rw[e1];simp[hl]);exact⟨cb,uJ,by simp only[c'];rw[aJ hl,uJ];rfl,e1⟩
 have hlb:∀b∈fp,∀cb y,g.c b=some cb→σ[b]?=some y→y.live=true→cb.cK=false→cb.blk∈lb:=by
  intro b hb cb y uJ hy hl hv;simp only[lb,zCG];exact⟨b,hb,by rw[uJ,hy];simp[hl,hv]⟩
 have b_:∀b x,(mg fp σ)[b]?=some x→b<σ.length:=by
  intro b x e;rw[PF]at e;cases hs:σ[b]? with
  |none=>rw[hs]at e;cases e
  |some y=>exact(gK hs).1
 have ub:∀b x,(mg fp σ)[b]?=some x→x.live=true→b∈fp∧∃y,σ[b]?=some y∧x=y.dC (aa.ct (oN σ.length)):=by
  intro b x e hl;rw[PF]at e;cases hs:σ[b]? with
  |none=>rw[hs]at e;cases e
  |some y=>
   rw[hs]at e;simp only[zCS,zBl]at e;cases hi:ue b fp with
   |false=>rw[hi]at e;subst e;cases hl
   |true=>rw[hi]at e;exact⟨IK.1 hi,y,rfl,e.symm⟩
 have uW:∀x u,g.den x u→Den g.M c' (x.ct (oN σ.length)) u:=by
  intro x u d;refine d.ct (λb b' cb k1 k2=>?_);unfold oN at k1;obtain⟨k0,k1⟩:=QE k1;cases k1;have hl:b<σ.length:=ik k0;simp only[c'];rw[aJ hl,k2];rfl
 have r0:bx GL w ⟨lb,g.M⟩ ⟨g.M,c'⟩ (hp (mg fp σ)) w:={
  keeps:=i7.refl _ _,aX:=r.aX,src:=λb o e=>.inl e,cr:=r.cr
  d_:=λb e=>by
   have e':(mg fp σ)[b]?=none:=e;rw[PF]at e';show c' b=none;simp only[c'];rw[aE];intro hb;simp[hb]at e'
  jn:=λb blk e=>by
   have:=b_ b blk e;exact⟨_,by show c' b=_;simp only[c'];rw[aJ this]⟩
  own:=λb blk cb e hl ec hv=>by
   obtain⟨hb,y,hy,rfl⟩:=ub b blk e hl;obtain⟨yi,q1,q2,q3⟩:=lq b (zJ b hb);have gN:c' b=some cb:=ec;rw[q2]at gN;cases gN;rw[ab.bR]at hl;obtain⟨p1,p2,o,p3,p4⟩:=r.own b y _ (by rw[q3];exact hy) hl q1 hv;exact⟨p1,.inl (hlb b hb _ y q1 hy hl hv),o,p3,p4.dC (p:=λ_=>True) (λx u _ d=>uW x u d) (ab.all_true _)⟩
  bc:=λb blk cb e hl ec hv=>by
   obtain⟨hb,y,hy,rfl⟩:=ub b blk e hl;obtain⟨yi,q1,q2,q3⟩:=lq b (zJ b hb);have gN:c' b=some cb:=ec;rw[q2]at gN;cases gN;rw[ab.bR]at hl;have:=r.bc b y _ (by rw[q3];exact hy) hl q1 hv;subst this;rfl
  inj:=λb b' blk blk' cb eN e1 e2 l1 l2 c1 c2 v1 v2 iC=>by
   obtain⟨hb,y,hy,rfl⟩:=ub b blk e1 l1;obtain⟨cj,y',hy',rfl⟩:=ub b' blk' e2 l2;obtain⟨yi,q1,q2,q3⟩:=lq b (zJ b hb);obtain⟨aaq,q1',q2',q3'⟩:=lq b' (zJ b' cj);have sN:c' b=some cb:=c1;have qR:c' b'=some eN:=c2;rw[q2]at sN;cases sN;rw[q2']at qR;cases qR;rw[ab.bR]at l1 l2;exact r.inj b b' y y' _ _ (by rw[q3];exact hy) (by rw[q3'];exact hy') l1 l2 q1 q1' v1 v2 iC }
 have K0:dM ⟨g.M,c'⟩ (ic (oN σ.length) xs) vs:=by
  refine dM.lE (by rw[YA];exact hx.length) (λi y u e1 e2=>?_);obtain⟨x,q1,rfl⟩:=Gg e1;exact uW x u (hx.get i x u q1 e2)
 obtain⟨fn,c,h1,h2,h3,h4,h5⟩:=ok.ok;have d0:=X3 K0 (n:=F.n) (by rw[YA,hn];exact ok.np);refine calls_of_wp h1 h2 ?_;rw[h3];refine wp_mono (h c h4 w ⟨lb,g.M⟩ _ _ w r0 d0) (λe a' w' hl=>?_);have fin:∀ g' ρ σ',(⟨g.M,c'⟩:Gm).Le g'→bx GL w ⟨lb,g.M⟩ g' (hp σ') w'→cR F.n g' ρ a'→(iE F.gE ρ σ'=some v∧σ'=τ')→∃ u,(results fn a'.tmps).run P w'=.ok u w'∧(∃ u',zCV u=.returned u'∧∃ g2,g.Le g2 ∧
   bx GL w0 L g2 (cw hq ((fp ++ zBG σ.length k).map λb=>(b,(aj τ' b).dC (aa.ct (fq ids σ.length k))))) w'∧g2.den (v.ct (fq ids σ.length k)) u'):=by
  rintro g' ρ σ' hle hr hd ⟨oH,rfl⟩;obtain⟨u,k1,k2⟩:=GN hr hd h5 oH
  let keys:=fp++zBG σ.length k
  have ua:∀b,b∈keys↔b∈fp∨(σ.length<=b∧b<σ.length+k):=by
   intro b;simp only[keys,zAI,List.mem_range'_1]
  let cF:Own:=λb=>if b∈keys then g'.c b else g.c b
  have mw:∀b∈keys,b<σ'.length:=by
   intro b hb;rcases (ua b).1 hb with q|q
   ·have:=pk b (zJ b q);omega
   ·omega
  have Ug:∀b cb,g.c b=some cb→cF b=some cb:=by
   intro b cb e;simp only[cF];split
   ·rename_i hb;rcases (ua b).1 hb with q|q
    ·obtain⟨yi,q1,q2,q3⟩:=lq b (zJ b q);rw[q1]at e;cases e;exact hle.c b _ q2
    ·have hn:hq b=none:=by
      have:=ei (b,_) (zAt.2 ⟨b,hb,rfl⟩);rw[this];simp[hp];omega
     rw[r.d_ b hn]at e;cases e
   ·exact e
  have BI:∀x u,g'.den x u→Den g'.M cF (x.ct (fq ids σ.length k)) u:=by
   intro x u d;refine d.ct (λb b' cb e1 e2=>?_);unfold fq at e1;obtain⟨e0,e1⟩:=QE e1;cases e1;by_cases hb:b∈keys
   ·simp only[cF];rw[aJ hb];exact e2
   ·simp only[zBS,AI]at e0;rcases e0 with q|⟨q1,q2⟩
    ·obtain⟨yi,p1,p2,p3⟩:=lq b (zBZ.1 q);have:=hle.c b yi p2;rw[e2]at this;cases this;exact Ug b _ p1
    ·have:=ik q1;have:b<σ.length+k:=ik q2;exact(hb ((ua b).2 (.inr (by omega)))).elim
  have hF:∀b,cw hq (keys.map λb=>(b,(aj σ' b).dC (aa.ct (fq ids σ.length k)))) b=if b∈keys then some ((aj σ' b).dC (aa.ct (fq ids σ.length k)))else hq b:=ZcE _ keys hq
  have wI:∀q∈lb,∃b∈fp,∃cb y,g.c b=some cb∧hq b=some y∧y.live=true∧cb.cK=false∧q=cb.blk:=by
   intro q OX;simp only[lb,zCG]at OX;obtain⟨b,hb,e⟩:=OX;obtain⟨yi,q1,_,q3⟩:=lq b (zJ b hb);rw[q1]at e;cases hs:σ[b]? with
   |none=>rw[hs]at e;cases e
   |some y=>
    rw[hs]at e;obtain⟨e1,e2⟩:=QE e;simp only[AI,zAf]at e1;cases e2;exact⟨b,hb,yi,y,q1,by rw[q3];exact hs,e1.1,e1.2,rfl⟩
  have Dj:∀q∈lb,g.M q=none∧(q∈L.l∨w0.heap.size<=q):=by
   intro q OX;obtain⟨b,hb,cb,y,q1,q2,q3,q4,rfl⟩:=wI q OX;obtain⟨p1,p2,_⟩:=r.own b y cb q2 q3 q1 q4;exact⟨p1,p2⟩
  have oF:∀b blk cb,b∉keys→hq b=some blk→blk.live=true→g.c b=some cb→cb.cK=false→cb.blk∉lb:=by
   intro b blk cb hb e hl ec hv di;obtain⟨b2,lV,cb2,y,q1,q2,q3,q4,q5⟩:=wI _ di;have:=r.inj b b2 blk y cb cb2 e q2 hl q3 ec q1 hv q4 q5;subst this;exact hb ((ua b).2 (.inl lV))
  have eL:=r.keeps.size;have uI:∀b,b∈keys→cF b=g'.c b:=λb hb=>by simp only[cF];rw[aJ hb]
  have sT:∀b,b∉keys→cF b=g.c b:=λb hb=>by simp only[cF];rw[aE hb]
  have qz:∀ b,b∈keys→hp σ' b=some (aj σ' b):=λb hb=>PD (mw b hb);refine⟨u,k1,u,rfl,⟨g'.M,cF⟩,⟨hle.m,λb cb e=>Ug b cb e⟩,?_,BI v u k2⟩;exact {
   keeps:=r.keeps.trans' hr.keeps.os hr.keeps.tape hr.keeps.output hr.keeps.size (λj hj t_=>hr.keeps.block j (by omega) (λdi=>by
    rcases (Dj j di).2 with q|q
    ·exact t_ q
    ·omega))
   aX:=hr.aX
   src:=λb o e=>by
    rcases hr.src b o e with q|q|q
    ·exact r.src b o q
    ·exact .inr (.inl (by omega))
    ·rcases (Dj b q).2 with q|q
     ·exact .inr (.inr q)
     ·exact .inr (.inl q)
   cr:=λp iq=>(r.cr p iq).mono hle.m (gH.refl _)
   d_:=λb e=>by
    rw[hF]at e;split at e
    ·cases e
    ·rename_i hb;show cF b=none;rw[sT b hb];exact r.d_ b e
   jn:=λb blk e=>by
    rw[hF]at e;show ∃cb,cF b=some cb;split at e
    ·rename_i hb;rw[uI b hb];exact hr.jn b _ (qz b hb)
    ·rename_i hb;rw[sT b hb];exact r.jn b blk e
   own:=λb blk cb e hl ec hv=>by
    rw[hF]at e;have gN:cF b=some cb:=ec;split at e
    ·rename_i hb;cases e;rw[ab.bR]at hl;rw[uI b hb]at gN;obtain⟨p1,p2,o,p3,p4⟩:=hr.own b _ cb (qz b hb) hl gN hv;refine⟨p1,?_,o,p3,p4.dC (p:=λ_=>True) (λx u _ d=>BI x u d) (ab.all_true _)⟩;rcases p2 with q|q
     ·exact(Dj _ q).2
     ·exact .inr (by omega)
    ·rename_i hb;rw[sT b hb]at gN;obtain⟨p1,p2,o,p3,p4⟩:=r.own b blk cb e hl gN hv;have zM:=r.dW e hl gN hv;have zO:=oF b blk cb hb e hl gN hv;refine⟨?_,p2,o,by rw[hr.keeps.block _ zM zO];exact p3,p4.mono hle.m (λb cb e=>Ug b cb e)⟩;show g'.M cb.blk=none;cases hm:g'.M cb.blk with
     |none=>rfl
     |some x=>
      rcases hr.src _ _ hm with q|q|q
      ·have q:g.M cb.blk=some x:=q;rw[p1]at q;cases q
      ·omega
      ·exact(zO q).elim
   bc:=λb blk cb e hl ec hv=>by
    rw[hF]at e;have gN:cF b=some cb:=ec;split at e
    ·rename_i hb;cases e;rw[ab.bR]at hl;rw[uI b hb]at gN;rw[hr.bc b _ cb (qz b hb) hl gN hv];rfl
    ·rename_i hb;rw[sT b hb]at gN;exact r.bc b blk cb e hl gN hv
   inj:=λb b' blk blk' cb eN e1 e2 l1 l2 c1 c2 v1 v2 iC=>by
    rw[hF]at e1 e2;have sN:cF b=some cb:=c1;have qR:cF b'=some eN:=c2;have Bl:∀b b' blk' cb eN,b∈keys→b'∉keys→(aj σ' b).live=true→g'.c b=some cb→cb.cK=false→hq b'=some blk'→blk'.live=true→g.c b'=some eN→eN.cK=false→cb.blk=eN.blk→False:=by
     intro b b' blk' cb eN hb cj hl hc hv e' lX yq ss he;obtain⟨_,p2,_⟩:=hr.own b _ cb (qz b hb) hl hc hv;have zM:=r.dW e' lX yq ss;have zO:=oF b' blk' eN cj e' lX yq ss;rcases p2 with q|q
     ·rw[he]at q;exact zO q
     ·omega
    split at e1
    ·rename_i hb;cases e1;rw[ab.bR]at l1;rw[uI b hb]at sN;split at e2
     ·rename_i cj;cases e2;rw[ab.bR]at l2;rw[uI b' cj]at qR;exact hr.inj b b' _ _ cb eN (qz b hb) (qz b' cj) l1 l2 sN qR v1 v2 iC
     ·rename_i cj;rw[sT b' cj]at qR;exact(Bl b b' blk' cb eN hb cj l1 sN v1 e2 l2 qR v2 iC).elim
    ·rename_i hb;rw[sT b hb]at sN;split at e2
     ·rename_i cj;cases e2;rw[ab.bR]at l2;rw[uI b' cj]at qR;exact(Bl b' b blk eN cb cj hb l2 qR v2 e1 l1 sN v1 iC.symm).elim
     ·rename_i cj;rw[sT b' cj]at qR;exact r.inj b b' blk blk' cb eN e1 e2 l1 l2 sN qR v1 v2 iC }
 cases e with
 |normal=>obtain⟨g',ρ,σ,k1,k2,k3,k4⟩:=hl;exact⟨k3.defers,fin g' ρ σ k1 k2 k3 k4.2⟩
 |ret=>obtain⟨g',ρ,σ,k1,k2,k3,k4⟩:=hl;exact⟨k3.defers,fin g' ρ σ k1 k2 k3 k4.2⟩
 |exit id=>obtain⟨g',ρ,σ,k1,k2,k3,k4⟩:=hl;rcases k4.1 with q|q<;>cases q
 |_=>exact hl.elim
end
end Go.Ah
end
section
namespace Go.Ah
def W(P:Program)(GL:ar):aF Prop where
 stop:=False
 call k xs σ K:=∃R,nM P GL k xs σ R∧∀v σ',R v σ'→K v σ'
 eS k xs σ K:=∃v rd up σ',aD P GL k xs (hp σ) v rd up∧gp σ up=some σ'∧K v (rd,up.map (·.1)) σ'
 test v a b:=match v with
  |.bool c=>(c=true→a)∧(c=false→b)
  |_=>False
 loop F vs σ:=∃n,mc False n F vs σ
theorem y0(P:Program)(GL:ar):eQ P GL (W P GL) (λp=>p) where
 stop:=λh=>h
 call:=λh=>h
 eS:=λh=>h
 test:=λ{v a b} h=>by
  simp only[W]at h
  grind
 loop:=λh=>h
section
variable {P:Program} {GL:ar}
theorem mB.CI(hP:P.follows .mixedOrders=true){α:Type}{A:aF α}{hold:α→Prop}(ok:eQ P GL A hold){f:FuncId}{np:Nat}{g:fz}(hg:mB P GL f np g){xs:List aa}(hn:xs.length=np){σ:List ab}{ret:aa→List ab→α}(h:hold (g A xs σ ret)) :
  ∃F,mA P GL f F∧F.np=np∧iR P GL F.n F.body (eO xs) σ (λe ρ σ'=>(e=.normal∨e=.ret)∧∃v,iE F.gE ρ σ'=some v∧hold (ret v σ')):=by
 obtain⟨D,h1,h2,h3,h4⟩:=hg.ex;rw[h4 α A xs σ ret hn]at h;exact⟨D.fn,h2,h1,XcO hP ok h3 h⟩
theorem Xa(hP:P.follows .mixedOrders=true){f:FuncId}{np:Nat}{g:fz}(hg:mB P GL f np g){xs:List aa}(hn:xs.length=np){v:aa}(hv:v.ro=true)(h:g (W P GL) xs [] (λv' _=>v'=v)):dK P GL f xs v:=by
 obtain⟨F,h1,h2,h3⟩:=hg.CI hP (y0 P GL) hn h;refine Y_ h1 (hn.trans h2.symm) hv (h3.mono λe ρ σ k=>?_);simp_all
theorem ZcS(hP:P.follows .mixedOrders=true){f:FuncId}{np:Nat}{g:fz}(hg:mB P GL f np g){xs:List aa}(hn:xs.length=np){v:aa}{bs:List ab}(h:g (W P GL) xs [] (λv' σ=>v'=v∧σ=bs)):de P GL f xs v bs:=by
 obtain⟨F,h1,h2,h3⟩:=hg.CI hP (y0 P GL) hn h;refine Za1 h1 (hn.trans h2.symm) (h3.mono λe ρ σ k=>?_)
 grind
def GW(σ:List ab)(v:aa):Option aa:=match v with
 |.bp vs=>match Zy σ 1000 vs with
  |some (ys,_)=>some (.bp ys)
  |none=>none
 |v=>match Zy σ 1000 [v]with
  |some ([y],_)=>some y
  |_=>none
theorem Yea{σ:List ab}{v y:aa}(hy:GW σ v=some y){w0:World}{L:Ln}{g:Gm}{w:World}{M2:Nat→Option Obj}(r:bx GL w0 L g (hp σ) w)(sj:yI g (hp σ) w M2){u:Value}(hd:g.den v u):Den M2 bA y u:=by
 unfold GW at hy;split at hy
 ·rename_i vs;split at hy
  ·rename_i ys rd hb;cases hy;have sS:=Q2 _ _ _ _ hb rd (λ_ q=>q);cases hd with
   |bp _ _ us hs hd=>
    have sm:=sS GL w0 L g (hp σ) w M2 r sj (λ_ _=>rfl) us.toList (dM.lE (by simp[hs]) (λi x v e1 e2=>hd i x v e1 (by simpa using e2)));exact .bp _ _ _ (by have:=sm.length;simpa using this.symm) (λi x v e1 e2=>sm.get i x v e1 (by simpa using e2))
  ·cases hy
 ·split at hy
  ·rename_i y' rd hb;cases hy;have sS:=Q2 _ _ _ _ hb rd (λ_ q=>q);exact(sS GL w0 L g (hp σ) w M2 r sj (λ_ _=>rfl) [u] ⟨hd,trivial⟩).1
  ·cases hy
theorem ZaC{f:FuncId}{xs:List aa}{v y:aa}{bs:List ab}(h:de P GL f xs v bs)(hy:GW bs v=some y):dK P GL f xs y:=by
 intro w M vs hM hg hx;refine(h w M vs hM hg hx).mono ?_;rintro e w' ⟨u,he,g',hle,r,hd⟩
 let M2:Nat→Option Obj:=λb=>if b<w.heap.size then g'.M b else w'.heap[b]?
 have sj:yI g' (hp bs) w' M2:=by
  refine⟨λb o e=>?_,λb blk cb o e1 e2 e3 e4 e5=>?_⟩
  ·show (if b<w.heap.size then g'.M b else w'.heap[b]?)=some o;split
   ·exact e
   ·exact r.aX b o e
  ·obtain⟨_,di,_⟩:=r.own b blk cb e1 e2 e3 e4
   grind
 have sm:=Yea hy r sj hd;refine⟨u,he,r.keeps,M2,λb o e=>sj.1 b o (hle b o e),λb o e=>?_,λb o e=>?_,sm⟩
 ·have e':(if b<w.heap.size then g'.M b else w'.heap[b]?)=some o:=e;split at e'
  ·exact r.aX b o e'
  ·exact e'
 ·have e':(if b<w.heap.size then g'.M b else w'.heap[b]?)=some o:=e;split at e'
  ·rcases r.src b o e' with q|q|q<;>simp_all
  ·exact .inr (by omega)
theorem PH(hP:P.follows .mixedOrders=true){f:FuncId}{np:Nat}{g:fz}(hg:mB P GL f np g){xs:List aa}(hn:xs.length=np){y:aa}(h:∃v bs,GW bs v=some y∧g (W P GL) xs [] (λv' σ=>v'=v∧σ=bs)):dK P GL f xs y:=by
 obtain⟨v,bs,h1,h2⟩:=h;exact ZaC (ZcS hP hg hn h2) h1
theorem Qb9{k:MK}{xs:List aa}{σ σ':List ab}{v:aa}{rd:List Nat}{up:List (Nat×ab)}(h:aD P GL k xs (hp σ) v rd up)(hu:gp σ up=some σ'):nM P GL k xs σ (λv' s=>v'=v∧s=σ'):=by
 intro o os hc w0 L g w a r hx;have:=h o os hc w0 L g (hp σ) w a r hx (λ_ _=>rfl) (λ_ _=>rfl);rw[Ht _ _ _ hu]at this;generalize (execOp a.eval o).run P w=res at this;cases res with
 |ok nx w'=>
  cases nx with
  |value u=>obtain⟨g',k1,k2,k3⟩:=this;exact⟨g',v,σ',⟨rfl,rfl⟩,k1,k2,k3⟩
  |skip=>obtain⟨g',k1,k2,k3⟩:=this;exact⟨g',σ',⟨k3.symm,rfl⟩,k1,k2⟩
  |enter f args=>
   refine Calls.mono this ?_
   grind
  |_=>exact this.elim
 |_=>exact this.elim
theorem XL{k:MK}{xs ys:List aa}{f:FuncId}(hc:Zt k xs=some (f,ys))(iq:Zh P f=true){σ:List ab}{v:aa}{rd:List Nat}{up:List (Nat×ab)}(h:jo P GL f ys (hp σ) v rd up):aD P GL k xs (hp σ) v rd up:=by
 unfold Zt at hc
 grind [XdS,Ydt,QcU]
theorem Cm{k:MK}{xs ys:List aa}{f:FuncId}(hc:Zt k xs=some (f,ys))(iq:Zh P f=true){σ σ':List ab}{v:aa}{rd:List Nat}{up:List (Nat×ab)}(h:jo P GL f ys (hp σ) v rd up)(hu:gp σ up=some σ'){K:KT}(hK:K v σ'):(W P GL).call k xs σ K:=
 ⟨_,Qb9 (XL hc iq h) hu,by rintro _ _ ⟨rfl,rfl⟩;exact hK⟩
theorem Ie{k:MK}{xs ys:List aa}{f:FuncId}(hc:Zt k xs=some (f,ys))(iq:Zh P f=true){σ σ':List ab}{v:aa}{rd:List Nat}{up:List (Nat×ab)}(h:jo P GL f ys (hp σ) v rd up)(hu:gp σ up=some σ'){K:aa→List Nat×List Nat→List ab→Prop}(hK:K v (rd,up.map (·.1)) σ'):(W P GL).eS k xs σ K:=
 ⟨v,rd,up,σ',XL hc iq h,hu,hK⟩
theorem Qd(hP:P.follows .mixedOrders=true){k:MK}{xs ys:List aa}{f:FuncId}(hc:Zt k xs=some (f,ys)){np:Nat}{g:fz}(hg:mB P GL f np g)(hn:ys.length=np){σ:List ab}{K:KT}(h:g (W P GL) ys σ K):(W P GL).call k xs σ K:=by
 obtain⟨F,h1,h2,h3⟩:=hg.CI hP (y0 P GL) hn h;exact⟨K,YbG hc hg.plain h1 (hn.trans h2.symm) h3,λ_ _ q=>q⟩
theorem Yo{k:MK}{xs ys:List aa}{f:FuncId}{v:aa}(h:dK P GL f ys v)(hc:Zt k xs=some (f,ys))(iq:Zh P f=true)(kY:ga ys=true){σ:List ab}{K:KT}(hK:K v σ):(W P GL).call k xs σ K:=
 Cm hc iq (h.here kY (hp σ)) (Zg σ) hK
theorem Yt{k:MK}{xs ys:List aa}{f:FuncId}{v:aa}(h:dK P GL f ys v)(hc:Zt k xs=some (f,ys))(iq:Zh P f=true)(kY:ga ys=true){σ:List ab}{K:aa→List Nat×List Nat→List ab→Prop}(hK:K v ([],[]) σ):(W P GL).eS k xs σ K:=
 Ie hc iq (h.here kY (hp σ)) (Zg σ) hK
theorem YG{k:MK}{xs ys zs:List aa}{f:FuncId}{v:aa}{rd:List Nat}(h:dK P GL f zs v){σ:List ab}(hc:Zt k xs=some (f,ys))(iq:Zh P f=true)(hb:Zy σ 1000 ys=some (zs,rd))(hv:v.flat=true){K:KT}(hK:K v σ):(W P GL).call k xs σ K:=
 Cm hc iq (h.qk (Q2 _ _ _ _ hb _ (λ_ q=>q)) hv) (Zg σ) hK
theorem Xg{ι:Type}(I:ι→mC)(μ:ι→Nat){F:(mC)→mC}(i0:ι){vs:List aa}{σ:List ab}(h0:I i0 vs σ)
 (round:∀i vs σ again,I i vs σ→(∀j MD σ',μ j<μ i→I j MD σ'→again MD σ')→F again vs σ):(W P GL).loop F vs σ:=by
 have key:∀(m:Nat) (i:ι) (vs:List aa) (σ:List ab),μ i<m→I i vs σ→mc False m F vs σ:=by
  intro m
  induction m with
  |zero=>intro i vs σ h;omega
  |succ m ih=>
   intro i vs σ h hI;exact round i vs σ _ hI (λj MD σ' b_ hj=>ih j MD σ' (by omega) hj)
 exact⟨_,key (μ i0+1) i0 vs σ (by omega) h0⟩
end
section
variable {P:Program} {GL:ar}
theorem AH(c:Bool)(a b:Prop):(W P GL).test (.bool c) a b=((c=true→a)∧(c=false→b)):=rfl
end
section
variable {α:Type} (A:aF α)
theorem vi(v:aa)(rd:List Nat)(K:aa→α):A.rd (.ok v rd []) K=K v:=rfl
theorem Ls(v:aa)(K:aa→α):A.pu (.ok v [] []) K=K v:=rfl
theorem PW(v:aa)(rd:List Nat)(up:List (Nat×ab))(σ:List ab)(K:aa→List ab→α):A.wr (.ok v rd up) σ K=A.opt (gp σ up) (K v):=by
 show (match gp σ up with|some σ'=>K v σ'|none=>A.stop)=_;unfold aF.opt;cases gp σ up<;>rfl
theorem Zen(v:aa)(rd:List Nat)(up:List (Nat×ab))(σ:List ab)(K:aa→List Nat×List Nat→List ab→α):A.dr (.ok v rd up) σ K=A.opt (gp σ up) (K v (rd,up.map (·.1))):=by
 show (match gp σ up with|some σ'=>K v _ σ'|none=>A.stop)=_;unfold aF.opt;cases gp σ up<;>rfl
theorem YcH{β:Type}(v:β)(K:β→α):A.opt (some v) K=K v:=rfl
theorem Xea(k:α):A.gd true k=k:=rfl
end
theorem Y4{n:Nat}:∀ {a b:List Nat},Qx n (a++b)=true→Qx n a=true∧Qx n b=true
 |[],_,h=>⟨rfl,h⟩
 |x::a,b,h=>by
  simp only[List.cons_append,Qx,AI]at h;obtain⟨h1,h2⟩:=Y4 h.2;exact⟨by simp[Qx,h.1,h1],h2⟩
def Mo{α:Type}(stop:α)(v:aa)(a b:α):α:=match v with
 |.bool true=>a
 |.bool false=>b
 |_=>stop
abbrev CG:=FuncId→List aa→List ab→Option (aa×List ab)
def Ycz(cg:CG)(f:FuncId)(ys:List aa)(σ:List ab):Option (aa × List ab):=bif Qx σ.length (iW ys)then (match cg f (ic (oN σ.length) ys) (YM σ)with
 | some (v,σ')=>(match X8 σ.length σ' with
  |some news=>some (v,news)
  | none=>none)
 | none=>none)else none
def Yek:ab→List Nat
 |.box row=>iW row
 |.rows _ rs=>rs.flatMap iW
 |_=>[]
def HA(σ:List ab):Nat→List Nat→List Nat→List Nat
 |0,_,seen=>seen
 |_+1,[],seen=>seen
 |n+1,b::r,seen=>bif ue b seen then HA σ n r seen else HA σ n (Yek (aj σ b)++r) (b::seen)
def Ik(cg:CG)(f:FuncId)(ys:List aa)(σ:List ab)(ids:List Nat):aA:=bif Qx σ.length (iW ys) && Qx σ.length ids then (match cg f (ic (oN σ.length) ys) (mg ids σ)with
 |some (v,τ)=>bif zAP σ.length τ.length then .ok (v.ct (fq ids σ.length (τ.length-σ.length))) ids ((ids++zBG σ.length (τ.length-σ.length)).map λb=>(b,(aj τ b).dC (aa.ct (fq ids σ.length (τ.length-σ.length)))))else .stop
 | none=>.stop)else .stop
def R9(cg:CG)(k:MK)(xs:List aa)(σ:List ab):aA:=match Zt k xs with
 |none=>.stop
 | some (f,ys)=>bif ga ys then (match cg f ys []with
   |some (v,bs)=>bif v.ro then .ok v [] []else .ok (v.ct (XC σ.length)) [] (YB σ.length (Xv σ.length bs))
   | none=>.stop)
  else match Ycz cg f ys σ with
  |some (v,news)=>bif v.ro then .ok (v.ct (fq (iW ys) σ.length 0)) (iW ys) []else .ok (v.ct (fq (iW ys) σ.length news.length)) (iW ys) (YB σ.length (news.map (ab.dC (aa.ct (fq (iW ys) σ.length news.length)))))
  |none=>match Zy σ 1000 ys with
   | some (zs,rd)=>(match cg f zs []with
    |some (v,bs)=>bif v.flat&&v.ro then .ok v rd []else bif v.dq&&ya bs then .ok (v.ct (XC σ.length)) rd (YB σ.length (Xv σ.length bs))else Ik cg f ys σ (HA σ 1000 (iW ys) [])
    | none=>Ik cg f ys σ (HA σ 1000 (iW ys) []))
   |none=>Ik cg f ys σ (HA σ 1000 (iW ys) [])
def Cl(much:Nat)(cg:CG):aF (Option (aa×List ab)) where
 stop:=none
 call k xs σ K:=match Zt k xs with
  |some (f,ys)=>match cg f ys σ with
   |some (v,σ')=>K v σ'
   |none=>none
  |none=>none
 eS k xs σ K:=match R9 cg k xs σ with
  |.ok v rd up=>match gp σ up with
   |some σ'=>K v (rd,up.map (·.1)) σ'
   |none=>none
  |.stop=>none
 test:=Mo none
 loop F vs σ:=mc none much F vs σ
section
variable {P:Program} {GL:ar}
def qJ(P:Program)(GL:ar)(cg:CG):Prop:=∀f xs σ v σ',cg f xs σ=some (v,σ')→Zh P f=true∧(∀k ys,Zt k ys=some (f,xs)→nM P GL k ys σ (λv' s=>v'=v∧s=σ')) ∧
 (σ=[]→de P GL f xs v σ'∧(v.ro=true→dK P GL f xs v)) ∧
 (ga xs=false→∃F,mA P GL f F∧F.np=xs.length∧iR P GL F.n F.body (eO xs) σ (λe ρ s=>(e=.normal∨e=.ret)∧∃v',iE F.gE ρ s=some v'∧v'=v∧s=σ'))
theorem qJ.xi{cg:CG}(h:qJ P GL cg){f:FuncId}{xs:List aa}{v:aa}{bs:List ab}(hc:cg f xs []=some (v,bs)):de P GL f xs v bs:=((h f xs [] v bs hc).2.2.1 rfl).1
theorem qJ.BZ{cg:CG}(h:qJ P GL cg){f:FuncId}{xs:List aa}{v:aa}{bs:List ab}(hc:cg f xs []=some (v,bs))(hv:v.ro=true):dK P GL f xs v:=((h f xs [] v bs hc).2.2.1 rfl).2 hv
theorem Yck{f:FuncId}{xs:List aa}{σ σ':List ab}{v:aa}{F:ve}(iq:Zh P f=true)(h1:mA P GL f F)(h2:F.np=xs.length)(h3:iR P GL F.n F.body (eO xs) σ (λe ρ s=>(e=.normal∨e=.ret)∧∃v',iE F.gE ρ s=some v'∧v'=v∧s=σ')) :
  Zh P f=true∧(∀k ys,Zt k ys=some (f,xs)→nM P GL k ys σ (λv' s=>v'=v∧s=σ'))∧(σ=[]→de P GL f xs v σ'∧(v.ro=true→dK P GL f xs v)) ∧
  (ga xs=false→∃F,mA P GL f F∧F.np=xs.length∧iR P GL F.n F.body (eO xs) σ (λe ρ s=>(e=.normal∨e=.ret)∧∃v',iE F.gE ρ s=some v'∧v'=v∧s=σ')):=by
 refine⟨iq,λk ys hc=>YbG hc iq h1 h2.symm h3,λhσ=>?_,λ_=>⟨F,h1,h2,h3⟩⟩;subst hσ;refine⟨Za1 h1 h2.symm (h3.mono λe ρ s k=>?_),λhv=>Y_ h1 h2.symm hv (h3.mono λe ρ s k=>?_)⟩
 ·obtain⟨k1,v',k2,rfl,rfl⟩:=k;exact⟨k1,k2,rfl⟩
 ·obtain⟨k1,v',k2,rfl,rfl⟩:=k;exact⟨k1,k2⟩
mutual
theorem aa.lF {n:Nat}:∀ {x:aa},Qx n x.ids=true→(x.ct (oN n)).ro=true→x.ro=true
 |.ak b j,h,k=>by
  grind [aa.ids,Qx,aa.ct,oN]
 |.ptr b i j,h,k=>by
  grind [aa.ids,Qx,aa.ct,oN]
 |.sl b o l e,h,k=>by
  grind [aa.ids,Qx,aa.ct,oN]
 |.map b,h,k=>by
  grind [aa.ids,Qx,aa.ct,oN]
 |.iter b,h,k=>by
  grind [aa.ids,Qx,aa.ct,oN]
 |.func fn xs ys,h,k=>by
  simp only[aa.ids]at h
  obtain⟨a,b⟩:=Y4 h
  simp only[aa.ct,aa.ro,AI]at k ⊢
  exact⟨XV a k.1,XV b k.2⟩
 |.iface t v,h,k=>aa.lF (x:=v) h k
 |.agg cs,h,k=>XV (xs:=cs) h k
 |.bp cs,h,k=>XV (xs:=cs) h k
 |.when cs x,h,k=>aa.lF (x:=x) h k
 |.aQ,_,_=>rfl
 |.bool _,_,_=>rfl
 |.int _ _,_,_=>rfl
 |.str _,_,_=>rfl
 |.fj,_,_=>rfl
 |.aq _ _,_,_=>rfl
 |.an,_,_=>rfl
 |.cS,_,_=>rfl
 |.aU _ _ _ _,_,_=>rfl
 |.fL _,_,_=>rfl
 |.cQ,_,_=>rfl
 |.bH,_,_=>rfl
 |.dp,_,_=>rfl
theorem XV {n:Nat}:∀ {xs:List aa},Qx n (iW xs)=true→ga (ic (oN n) xs)=true→ga xs=true
 |[],_,_=>rfl
 |x::xs,h,k=>by
  simp only[iW]at h
  obtain⟨a,b⟩:=Y4 h
  simp only[ic,ga,AI]at k ⊢
  exact⟨aa.lF a k.1,XV b k.2⟩
end
theorem Z'{n:Nat}{xs:List aa}(h:Qx n (iW xs)=true)(k:ga xs=false):ga (ic (oN n) xs)=false:=by
 grind [XV]
theorem PA{cg:CG}(h:qJ P GL cg){k:MK}{f:FuncId}{xs ys:List aa}{σ:List ab}{ids:List Nat}(hc:Zt k xs=some (f,ys))(uR:ga ys=false){v:aa}{rd:List Nat}{up:List (Nat×ab)}(e:Ik cg f ys σ ids=.ok v rd up):aD P GL k xs (hp σ) v rd up:=by
 unfold Ik at e
 replace e:=Xh e
 obtain⟨hb,e⟩:=e;simp only[AI]at hb;split at e
 ·rename_i v' τ kN
  replace e:=Xh e
  obtain⟨hle,e⟩:=e;obtain⟨KF,_,_,hF⟩:=h f _ _ _ _ kN;obtain⟨F,f1,f2,f3⟩:=hF (Z' hb.1 uR);cases e;have hn:ys.length=F.np:=by rw[f2,YA]
  have:=ik hle;exact XL hc KF (ZaZ f1 hn σ ids ids (λ_ q=>q) (MS hb.2) rfl rfl (f3.mono λe ρ s k=>by
   grind) (by omega))
 ·cases e
theorem Xde{cg:CG}(h:qJ P GL cg){k:MK}{xs:List aa}{σ:List ab}{v:aa}{rd:List Nat}{up:List (Nat×ab)}(e:R9 cg k xs σ=.ok v rd up):aD P GL k xs (hp σ) v rd up:=by
 unfold R9 at e;split at e
 ·cases e
 ·rename_i f ys hc;have j4:∀(bs:List ab) (i:Nat),i<bs.length→hp σ (σ.length+i)=none:=λbs i _=>by simp[hp]
  replace e:=XP e
  rcases e with ⟨kY,e⟩|⟨uR,e⟩
  ·split at e
   ·rename_i v' bs hv
    replace e:=XP e
    rcases e with ⟨KW,e⟩|⟨_,e⟩
    ·cases e;exact XL hc (h f ys [] _ _ hv).1 ((h.BZ hv KW).here kY _)
    ·cases e;exact XL hc (h f ys [] _ _ hv).1 ((h.xi hv).here kY (j4 bs))
   ·cases e
  ·split at e
   ·rename_i v' news hd;unfold Ycz at hd;obtain⟨C0,hd⟩:=QE hd;split at hd
    ·rename_i v2 σ' kN;split at hd
     ·rename_i aam qf;cases hd;obtain⟨KF,_,_,hF⟩:=h f _ _ _ _ kN;obtain⟨F,f1,f2,f3⟩:=hF (Z' C0 uR);have:=Ya2 _ _ _ qf;subst this;have hw:iR P GL F.n F.body (eO (ic (oN σ.length) ys)) (YM σ) (λe ρ s=>(e=.normal∨e=.ret)∧iE F.gE ρ s=some v'∧s=YM σ++news):=f3.mono λe ρ s k=>by
       grind
      have hn:ys.length=F.np:=by rw[f2,YA]
      replace e:=XP e
      rcases e with ⟨_,e⟩|⟨_,e⟩
      ·cases e;exact XL hc KF (Y' f1 hn σ (iW ys) (MS C0) (bs:=[]) (.inr rfl) hw)
      ·cases e;exact XL hc KF (Y' f1 hn σ (iW ys) (MS C0) (bs:=news) (.inl rfl) hw)
     ·cases hd
    ·cases hd
   split at e
   ·rename_i zs lf hb;split at e
    ·rename_i v' bs hv
     replace e:=XP e
     rcases e with ⟨KW,e⟩|⟨_,e⟩
     ·simp only[AI]at KW;cases e;exact XL hc (h f zs [] _ _ hv).1 ((h.BZ hv KW.2).qk (Q2 _ _ _ _ hb _ (λ_ q=>q)) KW.1)
     ·replace e:=XP e
      rcases e with ⟨UE,e⟩|⟨_,e⟩
      ·simp only[AI]at UE;cases e;exact XL hc (h f zs [] _ _ hv).1 ((h.xi hv).qk (Q2 _ _ _ _ hb _ (λ_ q=>q)) UE.1 UE.2 (j4 bs))
      ·exact PA h hc uR e
    ·exact PA h hc uR e
   ·exact PA h hc uR e
theorem Hq{cg:CG}(h:qJ P GL cg)(much:Nat)(r:aa×List ab):eQ P GL (Cl much cg) (λo=>o=some r) where
 stop:=λe=>by cases e
 call:=λ{k xs σ K} e=>by
  simp only[Cl]at e;split at e
  ·rename_i f ys hc;split at e
   ·rename_i v σ' hv;obtain⟨_,h1,_⟩:=h f ys σ v σ' hv
    grind
   ·cases e
  ·cases e
 eS:=λ{k xs σ K} e=>by
  grind [Cl,Xde]
 test:=λ{v a b} e=>by
  simp only[Cl,Mo]at e
  grind
 loop:=λ{F vs σ} e=>⟨much,e⟩
def vU(much:Nat)(G:Nat→Option (Nat×fz)):Nat→CG
 |0,_,_,_=>none
 |d+1,f,xs,σ=>match G f with
  |some (np,g)=>bif IN xs.length np then g (Cl much (vU much G d)) xs σ (λv σ=>some (v,σ))else none
  |none=>none
theorem WC(hP:P.follows .mixedOrders=true){much:Nat}{G:Nat→Option (Nat×fz)}(hG:∀f np g,G f=some (np,g)→mB P GL f np g):∀d,qJ P GL (vU much G d)
 |0=>λf xs σ v σ' h=>by cases h
 |d+1=>λf xs σ v σ' h=>by
  unfold vU at h;split at h
  ·rename_i np g hg;obtain⟨hn,h⟩:=QE h;have jJ:=fV hn;obtain⟨F,h1,h2,h3⟩:=(hG f np g hg).CI hP (Hq (WC hP hG d) much (v,σ')) jJ h;refine Yck (hG f np g hg).plain h1 (h2.trans jJ.symm) (h3.mono λe ρ s k=>?_);simp_all
  ·cases h
end
theorem WO{P:Program}{GL:ar}(hP:P.follows .mixedOrders=true){much:Nat}{G:Nat→Option (Nat×fz)}(hG:∀f np g,G f=some (np,g)→mB P GL f np g)(d:Nat){f:FuncId}{xs:List aa}{y:aa}(h:((vU much G d f xs []).bind λp=>GW p.2 p.1)=some y):dK P GL f xs y:=by
 cases hc:vU much G d f xs []with
 |none=>rw[hc]at h;cases h
 |some p=>
  obtain⟨v,bs⟩:=p;rw[hc]at h;exact ZaC ((WC hP hG d).xi hc) h
end Go.Ah
end
section
namespace Go.Ah
@[reducible] def h0(v:List aa):aa:=qB v
@[reducible] def h1(v:List aa):aa:=qB (jC v)
@[reducible] def h2(v:List aa):aa:=qB (jC (jC v))
@[reducible] def h3(v:List aa):aa:=qB (jC (jC (jC v)))
@[reducible] def h4(v:List aa):aa:=qB (jC (jC (jC (jC v))))
@[reducible] def h5(v:List aa):aa:=qB (jC (jC (jC (jC (jC v)))))
@[reducible] def h6(v:List aa):aa:=qB (jC (jC (jC (jC (jC (jC v))))))
@[reducible] def h7(v:List aa):aa:=qB (jC (jC (jC (jC (jC (jC (jC v)))))))
@[reducible] def h8(v:List aa):aa:=h7 (jC v)
@[reducible] def h9(v:List aa):aa:=h8 (jC v)
@[reducible] def h10(v:List aa):aa:=h9 (jC v)
@[reducible] def h11(v:List aa):aa:=h10 (jC v)
@[reducible] def h12(v:List aa):aa:=h11 (jC v)
def Ae:List aa:=(zAC 256).map λi=>aa.int .u8 (match (zAP 9 i&&zAP i 13)||IN i 32 with|true=>1|false=>0)
def aG:ar:=[(1,Ae)]
end Go.Ah
end
section
namespace Go.Ah
section
variable (σ:List ab)
attribute [simp] AH vi Ls PW Zen YcH Xea qB jC
@[simp] theorem Nf(P:Program)(GL:ar):(W P GL).stop=False:=rfl
@[simp] theorem XeE{α:Type}(f:(List aa→List ab→α)→α)(k:List aa→List ab→α):cI f k=f k:=rfl
@[simp] theorem OE{α:Type}(A:aF α)(b w:Bool)(r:α)(s:List (Bool×Bool)→α):A.gx (.bool b) w r s=A.test (.bool b) (bif w then r else s [(true,w)]) (bif w then s [(false,w)]else r):=rfl
@[simp] theorem aad{α:Type}(A:aF α)(c:aa)(w:Bool)(r:(aa→α)→α)(K:aa→α):A.gr c w r K=A.gx c w (r K) (λcs=>K (tE cs)):=rfl
@[simp] theorem aae{α:Type}(A:aF α)(c:aa)(w:Bool)(r:(aa→List ab→α)→α)(σ:List ab)(K:aa→List ab→α):A.gw c w r σ K=A.gx c w (r K) (λcs=>K (tE cs) σ):=rfl
@[simp] theorem aac{α:Type}(A:aF α)(c:aa)(w:Bool)(r:(aa→List Nat×List Nat→List ab→α)→α)(σ:List ab)(K:aa→List Nat×List Nat→List ab→α):A.gl c w r σ K=A.gx c w (r K) (λcs=>K (tE cs) ([],[]) σ):=rfl
@[simp] theorem OG{α:Type}(A:aF α)(cs:List (Bool×Bool))(q w:Bool)(r:α)(s:List (Bool×Bool)→α):A.gx (.when cs (.bool q)) w r s=match x_.gg cs with
  |true=>s (cs++[(q,w)])
  |false=>A.stop:=rfl
attribute [simp] x_.gg
@[simp] theorem aar(x:aa):qM [x] σ=.ok x [] []:=rfl
@[simp] theorem TE(b:Bool)(x y:aa):Zo [.bool b,x,y] σ=.ok (bif b then x else y) [] []:=by cases b<;>rfl
@[simp] theorem Zf(e n:Bool)(s:Nat)(rows:List (List aa)):Qn [.aU e n s rows] σ=.ok (.int .i64 rows.length) [] []:=rfl
@[simp] theorem Xd8:Qn [.an] σ=.ok (.int .i64 0) [] []:=rfl
@[simp] theorem Yd8:Qn [.cS] σ=.ok (.int .i64 0) [] []:=rfl
@[simp] theorem Yeq(b o n:Nat)(e:Bool):Qn [.sl b o n e] σ=.ok (.int .i64 n) [] []:=rfl
@[simp] theorem YeE(s:List UInt8):ZT [.str s] σ=.ok (.int .i64 s.length) [] []:=rfl
@[simp] theorem TC(n:Nat)(x:aa):MU n [x] σ=.ok (.int .i64 n) [] []:=rfl
@[simp] theorem Yeu(k:IntKind):jU k k=true:=by cases k<;>rfl
section
variable (ib:Bool) (k:IntKind) (a b:Int)
@[simp] theorem Qj:Ym .add ib [.int k a,.int k b] σ=.ok (.int k (k.wrap (a+b))) [] []:=by simp[Ym,nd]
@[simp] theorem Cv:Ym .sub ib [.int k a,.int k b] σ=.ok (.int k (k.wrap (a-b))) [] []:=by simp[Ym,nd]
@[simp] theorem Ys:Ym .eql ib [.int k a,.int k b] σ=.ok (.bool (decide (a=b))) [] []:=by
 simp[Ym,nd];exact zAk.2 (by simp)
@[simp] theorem Z6:Ym .neq ib [.int k a,.int k b] σ=.ok (.bool (decide (a≠b))) [] []:=by
 simp[Ym,nd];exact zAk.2 (by simp)
@[simp] theorem ZS:Ym .lss ib [.int k a,.int k b] σ=.ok (.bool (decide (a<b))) [] []:=by simp[Ym,nd]
@[simp] theorem Ot:Ym .leq ib [.int k a,.int k b] σ=.ok (.bool (decide (a<=b))) [] []:=by simp[Ym,nd]
@[simp] theorem o_:Ym .gtr ib [.int k a,.int k b] σ=.ok (.bool (decide (b<a))) [] []:=by simp[Ym,nd]
@[simp] theorem qw:Ym .geq ib [.int k a,.int k b] σ=.ok (.bool (decide (b<=a))) [] []:=by simp[Ym,nd]
end
@[simp] theorem uC(ib:Bool)(a b:List UInt8):Ym .eql ib [.str a,.str b] σ=.ok (.bool (a==b)) [] []:=rfl
@[simp] theorem TD(ib:Bool)(a b:List UInt8):Ym .neq ib [.str a,.str b] σ=.ok (.bool (!(a==b))) [] []:=rfl
@[simp] theorem Tv(a b:Bool):Ym .eql true [.bool a,.bool b] σ=.ok (.bool (a==b)) [] []:=rfl
@[simp] theorem Qeq(a b:Bool):Ym .neq true [.bool a,.bool b] σ=.ok (.bool (!(a==b))) [] []:=rfl
@[simp] theorem aab(b:Bool):tH .not [.bool b] σ=.ok (.bool (!b)) [] []:=rfl
@[simp] theorem aaa(k:IntKind)(n:Int):tH .neg [.int k n] σ=.ok (.int k (k.wrap (0-n))) [] []:=rfl
@[simp] theorem ZdY(k k':IntKind)(n:Int):GM k [.int k' n] σ=.ok (.int k (k.wrap n)) [] []:=rfl
@[simp] theorem Xeq(t:TypeId)(x:aa):XF t [x] σ=.ok (.iface t x) [] []:=rfl
@[simp] theorem Z1(k k':IntKind)(a b:Int):HJ [.int k a,.int k' b] σ=.ok (.int k (min a b)) [] []:=by
 simp only[HJ];congr 2;omega
@[simp] theorem vA(k k':IntKind)(a b:Int):Ic [.int k a,.int k' b] σ=.ok (.int k (max a b)) [] []:=by
 simp only[Ic];congr 2;omega
@[simp] theorem Ox(b j:Nat):Xl [.ak b j] σ=.ok (.ak b j) [] []:=rfl
@[simp] theorem Oz(b i j:Nat):Xl [.ptr b i j] σ=.ok (.ptr b i j) [] []:=rfl
@[simp] theorem OA(row:List aa)(j:Nat):Xl [.aq row j] σ=.ok (.aq row j) [] []:=rfl
@[simp] theorem Oy(f:FuncId)(a b:List aa):Xl [.func (.func f) a b] σ=.ok (.func (.func f) a b) [] []:=rfl
@[simp] theorem Tw(o b j:Nat):Xb o [.ak b j] σ=.ok (.ak b (j+o)) [] []:=rfl
@[simp] theorem Ty(o b i j:Nat):Xb o [.ptr b i j] σ=.ok (.ptr b i (j+o)) [] []:=rfl
@[simp] theorem TA(o:Nat)(row:List aa)(j:Nat):Xb o [.aq row j] σ=.ok (.aq row (j+o)) [] []:=rfl
@[simp] theorem Ow(agg:Bool)(o n:Nat)(cs:List aa):Z8 agg o n [.agg cs] σ=(match aK agg o n cs with
   |some v=>.ok v [] []
   | none=>.stop):=rfl
attribute [simp] aK takeN jb nth
@[simp] theorem Qep(i:Nat)(vs:List aa):Xi i [.bp vs] σ=(match nth vs i with
   |some v=>.ok v [] []
   | none=>.stop):=rfl
@[simp] theorem QeD(len mT b j:Nat)(k:IntKind)(i:Nat):Yk len mT [.ak b j,.int k (@OfNat.ofNat Int i _)] σ=bif zAi i len then .ok (.ak b (j+i*mT)) [] []else .stop:=rfl
@[simp] theorem ZeE(len mT:Nat)(row:List aa)(j:Nat)(k:IntKind)(i:Nat):Yk len mT [.aq row j,.int k (@OfNat.ofNat Int i _)] σ=bif zAi i len then .ok (.aq row (j+i*mT)) [] []else .stop:=rfl
theorem Zeq(e n:Bool)(s:Nat)(rows:List (List aa))(k:IntKind)(i:Nat)(row:List aa)(h:rows[i]?=some row):Qh s [.aU e n s rows,.int k (i:Int)] σ=.ok (.aq row 0) [] []:=by
 show (bif IN s s then (match nth rows i with
   |some row=>aA.ok (.aq row 0) [] []
   | none=>.stop)else .stop)=_
 rw[zBf,Y7,h];rfl
theorem Xm{α:Type}(f:α→List aa)(e n:Bool)(s:Nat)(l:List α)(k:IntKind)(i:Nat)(h:i<l.length):Qh s [.aU e n s (l.map f),.int k (i:Int)] σ=.ok (.aq (f l[i]) 0) [] []:=
 Zeq σ e n s _ k i _ (by simp[h])
theorem sE(b o len:Nat)(ex:Bool)(s:Nat)(rows:List (List aa))(k:IntKind)(i:Nat)(h:i<len)(hb:aj σ b=.rows s rows):Qh s [.sl b o len ex,.int k (i:Int)] σ=.ok (.ptr b (o+i) 0) [b] []:=by
 show (bif zAi i len then (match aj σ b with
   |.rows s' _=>bif IN s' s then aA.ok (.ptr b (o+i) 0) [b] []else .stop
   | _=>.stop)else .stop)=_
 rw[show zAi i len=true from sh h,hb];simp
theorem Zdh(s:List UInt8)(k:IntKind)(i:Nat)(h:i<s.length):YP [.str s,.int k (i:Int)] σ=.ok (.int .u8 s[i].toNat) [] []:=by
 show (match nth s i with
   |some c=>aA.ok (.int .u8 c.toNat) [] []
   | none=>.stop)=_
 rw[Y7,List.getElem?_eq_getElem h]
@[simp] theorem Iw(agg:Bool)(n:Nat)(row:List aa)(j:Nat):Qe agg n [.aq row j] σ=(match aK agg j n row with
   |some v=>.ok v [] []
   | none=>.stop):=rfl
@[simp] theorem YcA(agg:Bool)(n b j:Nat):Qe agg n [.ak b j] σ=(match aj σ b with
   |.box row=>match aK agg j n row with
    |some v=>.ok v [b] []
    |none=>.stop
   | _=>.stop):=rfl
attribute [simp] aj gp QF cc cellsOf aa.cell
@[simp] theorem Qd7(z:List aa):Qs z [] σ=.ok (.ak σ.length 0) [] [(σ.length,.box z)]:=rfl
@[simp] theorem Jw(x:aa):tL [x] σ=(match cellsOf x with
   |some cs=>.ok (.ak σ.length 0) [] [(σ.length,.box cs)]
   | none=>.stop):=rfl
@[simp] theorem Xdh(n b j:Nat)(x:aa):Yj n [.ak b j,x] σ=(match aj σ b with
   |.box row=>match cellsOf x with
    | some cs=>bif IN cs.length n then (match cc j cs row with
     |some row'=>.ok .aQ [] [(b,.box row')]
     | none=>.stop)else .stop
    |none=>.stop
   | _=>.stop):=rfl
end
end Go.Ah
end
section
namespace Go.Ah
structure AM (σ σ2:List ab) (m:Nat→Option Nat):Prop where
 inj:∀b b' k,m b=some k→m b'=some k→b=b'
 img:∀b k,m b=some k→∃blk,σ[b]?=some blk∧σ2[k]?=some (blk.dC (aa.ct m))
 sj:∀k,k<σ2.length→∃b,m b=some k
theorem bx.Lx{GL:ar}{w0:World}{L:Ln}{g:Gm}{w:World}{σ σ2:List ab}{m:Nat→Option Nat}(r:bx GL w0 L g (hp σ) w)(ok:AM σ σ2 m) :
  ∃c2,(∀x v,g.den x v→Den g.M c2 (x.ct m) v)∧bx GL w0 L ⟨g.M,c2⟩ (hp σ2) w:=by
 classical
 let c2:Own:=λk=>if h:∃b,m b=some k then g.c (zCr h)else none
 have kN:∀b k,m b=some k→c2 k=g.c b:=by
  intro b k e;have h:∃b,m b=some k:=⟨b,e⟩;show (if h:∃b,m b=some k then g.c (zCr h)else none)=_;rw[dif_pos h,ok.inj _ _ _ (Classical.choose_spec h) e]
 have c7:∀x v,g.den x v→Den g.M c2 (x.ct m) v:=λx v d=>Den.ct d λb b' cb e1 e2=>by rw[kN b b' e1];exact e2
 have back:∀k blk,hp σ2 k=some blk→∃b blk0,m b=some k∧hp σ b=some blk0∧blk=blk0.dC (aa.ct m):=by
  intro k blk e;have hk:k<σ2.length:=(gK e).1;obtain⟨b,hb⟩:=ok.sj k hk;obtain⟨blk0,e1,e2⟩:=ok.img b k hb;refine⟨b,blk0,hb,e1,?_⟩;have e':σ2[k]?=some blk:=e;simp_all
 refine⟨c2,c7,?_⟩;exact {
  keeps:=r.keeps
  aX:=r.aX
  src:=r.src
  cr:=r.cr
  d_:=λk e=>by
   show (if h:∃b,m b=some k then g.c (zCr h)else none)=none;rw[dif_neg];rintro⟨b,hb⟩;obtain⟨blk0,e1,e2⟩:=ok.img b k hb;have e':σ2[k]?=none:=e;rw[e2]at e';cases e'
  jn:=λk blk e=>by
   obtain⟨b,blk0,h1,h2,_⟩:=back k blk e;obtain⟨cb,uJ⟩:=r.jn b blk0 h2
   grind
  own:=λk blk cb e hl ec hv=>by
   obtain⟨b,blk0,h1,h2,rfl⟩:=back k blk e;rw[ab.bR]at hl;have gN:g.c b=some cb:=by rw[←kN b k h1];exact ec
   obtain⟨q1,q2,o,q3,q4⟩:=r.own b blk0 cb h2 hl gN hv;exact⟨q1,q2,o,q3,q4.dC (p:=λ_=>True) (λx v _ d=>c7 x v d) (ab.all_true _)⟩
  bc:=λk blk cb e hl ec hv=>by
   obtain⟨b,blk0,h1,h2,rfl⟩:=back k blk e;rw[ab.bR]at hl;have gN:g.c b=some cb:=by rw[←kN b k h1];exact ec
   have:=r.bc b blk0 cb h2 hl gN hv;subst this;rfl
  inj:=λk k' x x' sg cb2 e1 e2 l1 l2 c1 qR v1 v2 iC=>by
   obtain⟨b,y,h1,h2,rfl⟩:=back k x e1;obtain⟨b',y',uG,TJ,rfl⟩:=back k' x' e2;rw[ab.bR]at l1 l2;have ec1:g.c b=some sg:=by rw[←kN b k h1];exact c1
   have GV:g.c b'=some cb2:=by rw[←kN b' k' uG];exact qR
   have:=r.inj b b' y y' sg cb2 h2 TJ l1 l2 ec1 GV v1 v2 iC;simp_all }
def Tidy(σ:List ab)(v:aa)(σ2:List ab)(v2:aa):Prop:=
 ∀(GL:ar) (w0:World) (L:Ln) (g:Gm) (w:World),bx GL w0 L g (hp σ) w→∀u,g.den v u→∃c2,bx GL w0 L ⟨g.M,c2⟩ (hp σ2) w∧Den g.M c2 v2 u
theorem Tidy.refl(σ:List ab)(v:aa):Tidy σ v σ v:=λ_ _ _ g _ r _ d=>⟨g.c,r,d⟩
theorem Tidy.trans{σ σ2 σ3:List ab}{v v2 v3:aa}(h:Tidy σ v σ2 v2)(k:Tidy σ2 v2 σ3 v3):Tidy σ v σ3 v3:=by
 intro GL w0 L g w r u d;obtain⟨c2,r2,d2⟩:=h GL w0 L g w r u d;obtain⟨c3,r3,d3⟩:=k GL w0 L ⟨g.M,c2⟩ w r2 u d2;exact⟨c3,r3,d3⟩
theorem Tidy.ct{σ σ2:List ab}{m:Nat→Option Nat}(ok:AM σ σ2 m)(v:aa):Tidy σ v σ2 (v.ct m):=by
 intro GL w0 L g w r u d;obtain⟨c2,h1,h2⟩:=r.Lx ok;exact⟨c2,h2,h1 v u d⟩
theorem Tidy.dY{σ:List ab}{v v2:aa}(h:∀(M:Nat→Option Obj) (c:Own) (u:Value),Den M c v u→Den M c v2 u):Tidy σ v σ v2:=λ_ _ _ g _ r u d=>⟨g.c,r,h _ _ _ d⟩
theorem Zeb(σ:List ab)(b:ab):ei (hp σ) σ.length b=hp (σ++[b]):=by
 funext n
 simp only[ei,hp]
 grind
theorem Tidy.ghost{σ:List ab}{v:aa}(sz:Nat)(h:v=.an∨v=.cS):Tidy σ v (σ++[.rows sz []]) (.sl σ.length 0 0 false):=by
 intro GL w0 L g w r u d;have r2:=r.ghost (yd σ) sz;rw[Zeb]at r2;have hs:∃a,u=.slice a 0 0:=by
  rcases h with rfl|rfl
  ·cases d;exact⟨_,rfl⟩
  ·cases d;exact⟨_,rfl⟩
 obtain⟨a,rfl⟩:=hs;exact⟨_,r2,.oV _ _ _ _ _ (Zz _ _ _) rfl⟩
theorem Tidy.one{σ:List ab}{b:Nat}{blk:ab}(hb:σ[b]?=some blk)(m:Nat→Option Nat)(hm:∀n,m n=if n=b then some 0 else none)(v:aa):Tidy σ v [blk.dC (aa.ct m)] (v.ct m):=by
 have key:∀x k,m x=some k→x=b∧k=0:=by
  intro x k e;rw[hm]at e;split at e
  ·cases e;exact⟨by assumption,rfl⟩
  ·cases e
 refine Tidy.ct ⟨λx y k e1 e2=>?_,λx k e=>?_,λk hk=>⟨b,?_⟩⟩ v
 ·rw[(key x k e1).1,(key y k e2).1]
 ·obtain⟨rfl,rfl⟩:=key x k e;exact⟨blk,hb,by simp⟩
 ·simp at hk;subst hk;rw[hm];simp
section
variable {P:Program} {GL:ar}
theorem YbS{f:FuncId}{F:ve}(ok:mA P GL f F){xs:List aa}(hn:xs.length=F.np){v:aa}{bs:List ab}
 (h:iR P GL F.n F.body (eO xs) [] (λe ρ σ=>(e=.normal∨e=.ret)∧∃v',iE F.gE ρ σ=some v'∧Tidy σ v' bs v)):de P GL f xs v bs:=by
 intro w M vs hM hg hx;have r0:=bx.start (GL:=GL) w M hM hg;have hh:hp []=oQ:=by funext b;simp[hp,oQ]
 rw[←hh]at r0;refine(Ps ok hn h w ⟨[],M⟩ ⟨M,bA⟩ w vs r0 hx).mono ?_;rintro e w' ⟨u,he,g',x,σ',hR,hle,r,d⟩;obtain⟨c2,r2,d2⟩:=hR GL w ⟨[],M⟩ g' w' r u d;exact⟨u,he,⟨g'.M,c2⟩,hle.m,r2,d2⟩
theorem Yv(hP:P.follows .mixedOrders=true){f:FuncId}{np:Nat}{g:fz}(hg:mB P GL f np g){xs:List aa}(hn:xs.length=np){v:aa}{bs:List ab}(h:g (W P GL) xs [] (λv' σ=>Tidy σ v' bs v)):de P GL f xs v bs:=by
 obtain⟨F,h1,h2,h3⟩:=hg.CI hP (y0 P GL) hn h;exact YbS h1 (hn.trans h2.symm) h3
theorem Z9:∀(bs σ:List ab),gp σ (YB σ.length bs)=some (σ++bs)
 |[],σ=>by simp[YB,gp]
 |b::bs,σ=>by
  have:=Z9 bs (σ++[b]);simp_all [YB]
def Z7(n:Nat):List ab→List Nat
 |[]=>[]
 |_::bs=>n::Z7 (n+1) bs
theorem Pm:∀(bs:List ab) (n:Nat),(YB n bs).map (·.1)=Z7 n bs
 |[],_=>rfl
 |b::bs,n=>by simp[YB,Z7,Pm bs (n+1)]
theorem Iu{k:MK}{xs ys:List aa}{f:FuncId}{v:aa}{bs:List ab}(h:de P GL f ys v bs)(hc:Zt k xs=some (f,ys))(iq:Zh P f=true)(kY:ga ys=true){σ:List ab}{K:KT}(hK:K (v.ct (XC σ.length)) (σ++Xv σ.length bs)):(W P GL).call k xs σ K:=
 Cm hc iq (h.here kY (λi _=>by simp[hp])) (Z9 _ σ) hK
theorem NO{k:MK}{xs ys:List aa}{f:FuncId}{v:aa}{bs:List ab}(h:de P GL f ys v bs)(hc:Zt k xs=some (f,ys))(iq:Zh P f=true)(kY:ga ys=true){σ:List ab}{K:aa→List Nat×List Nat→List ab→Prop}(hK:K (v.ct (XC σ.length)) ([],Z7 σ.length (Xv σ.length bs)) (σ++Xv σ.length bs)):(W P GL).eS k xs σ K:=
 Ie hc iq (h.here kY (λi _=>by simp[hp])) (Z9 _ σ) (by rw[Pm];exact hK)
end
attribute [simp] aa.ct ic XC Xv ab.dC Z7 aa.ro ga aa.flat lT
end Go.Ah
end
section
namespace Go.Ah
theorem Xe(σ:List ab)(x:ab):gp σ [(σ.length,x)]=some (σ++[x]):=by simp[gp]
theorem Xw{σ:List ab}{b:Nat}{x:ab}(h:aj σ b=x)(hx:x≠.dead):σ[b]?=some x:=Q6 h hx
theorem Yc(σ:List ab)(x:ab):aj (σ++[x]) σ.length=x:=Zq (by simp)
theorem Qb{σ:List ab}{b:Nat}{y:ab}(x:List ab)(h:aj σ b=y)(hy:y≠.dead:=by simp):aj (σ++x) b=y:=by
 have:=Xw h hy
 grind [Zq]
theorem Yb{σ:List ab}{b:Nat}{y:ab}(h:aj σ b=y)(hy:y≠.dead:=by simp):b<σ.length:=(gK (Xw h hy)).1
theorem Y8{α:Type}{b:Nat}{x:α}:∀ {σ:List α},b<σ.length→QF b x σ=some (σ.set b x):=by
 intro σ h
 induction σ generalizing b with
 |nil=>simp at h
 |cons y σ ih=>cases b<;>simp_all
theorem XI{σ:List ab}{b:Nat}(x y:ab)(h:b<σ.length):gp σ ([(b,x)]++[(σ.length,y)])=some (σ.set b x++[y]):=by
 have hb:IN b σ.length=false:=by
  grind [fV]
 simp[gp,hb,Y8 h]
theorem Ze{σ:List ab}{b:Nat}(x:ab)(h:b<σ.length):gp σ [(b,x)]=some (σ.set b x):=by
 grind [gp,fV,Y8]
theorem Zb{σ:List ab}{b c:Nat}{x y:ab}(h:aj σ b=y)(hy:y≠.dead)(hc:c≠b):aj (σ.set c x) b=y:=by
 simp_all [Xw,Zq]
section
variable {α:Type} (A:aF α)
theorem GI(n:Nat)(σ:List ab)(x:aa)(z:List aa)(cs:List aa)(hx:fill z [(0,n)] [x]=some cs)(hc:chunk n 1 cs=some [cs])(K:aa→List ab→α) :
  A.wr (Yp n 1 z [(0,n)] [x] σ) σ K=K (.sl σ.length 0 1 true) (σ++[.rows n [cs]]):=by
 simp_all [Yp]
theorem XR{row:List aa}(h:row.all aa.cell=true):aW [row]=true:=by simp[aW,h]
theorem Xdd(row:List aa):cut 0 (0+1) [row]=[row]:=rfl
theorem RK(n by_:Nat)(σ:List ab)(row:List aa)(hr:row.all aa.cell=true)(bM:194*by_<=2 ^ 48)(K:aa→List ab→α) :
  A.wr (Qf n by_ [.an,.sl σ.length 0 1 true] (σ++[.rows n [row]])) (σ++[.rows n [row]]) K=K (.sl (σ.length+1) 0 1 false) (σ++[.rows n [row]]++[.rows n [row]]):=by
 have h1:Xk n (σ++[.rows n [row]]) (.sl σ.length 0 1 true)=some ([row],[σ.length]):=by
  simp[Xk,Yc,Xdd];rfl
 have e:Qf n by_ [.an,.sl σ.length 0 1 true] (σ++[.rows n [row]])=.ok (.sl (σ.length+1) 0 1 false) [σ.length] [(σ.length+1,.rows n [row])]:=by
  show XD n by_ (σ++[.rows n [row]]) [] [] (.sl σ.length 0 1 true)=_;simp_all [XD,XR,sh]
 simp_all
theorem Il(n by_:Nat)(σ:List ab)(b len:Nat)(ex:Bool)(rs:List (List aa))(row:List aa)(hb:aj σ b=.rows n rs)(hl:rs.length=len)(hr:row.all aa.cell=true)(bM:(2*(len+1)+192)*by_<=2 ^ 48)(K:aa→List ab→α) :
  A.wr (Qf n by_ [.sl b 0 len ex,.sl σ.length 0 1 true] (σ++[.rows n [row]])) (σ++[.rows n [row]]) K=K (.sl (σ.length+1) 0 (len+1) false) (σ.set b .dead++[.rows n [row]]++[.rows n (rs++[row])]):=by
 have b_:=Yb hb (by simp);have h1:Xk n (σ++[.rows n [row]]) (.sl σ.length 0 1 true)=some ([row],[σ.length]):=by
  simp[Xk,Yc,Xdd];rfl
 have h2:zAP ((2*(len+1)+192)*by_) (2 ^ 48)=true:=sh bM;have lV:=Qb [.rows n [row]] hb (by simp);have e:Qf n by_ [.sl b 0 len ex,.sl σ.length 0 1 true] (σ++[.rows n [row]])=.ok (.sl (σ.length+1) 0 (len+1) false) [σ.length] ([(b,.dead)]++[(σ.length+1,.rows n (rs++[row]))]):=by
  have:Qf n by_ [.sl b 0 len ex,.sl σ.length 0 1 true] (σ++[.rows n [row]])=XD n by_ (σ++[.rows n [row]]) rs [(b,.dead)] (.sl σ.length 0 1 true):=by
   simp[Qf,yX,lV,hl]
  rw[this];unfold XD;simp only[h1,XR hr,zBa,h2,Bool.and_self,cond_true,hl,By]
 grind [PW,XI,By,zBa,YcH]
end
end Go.Ah
end
section
namespace Go.Ah
section
variable {P:Program} {GL:ar}
theorem Za{r:aA}{K:aa→Prop}{v:aa}{rd:List Nat}(h:r=.ok v rd [])(hK:K v):(W P GL).rd r K:=by rw[h];exact hK
theorem Zi{r:aA}{K:aa→Prop}{v:aa}(h:r=.ok v [] [])(hK:K v):(W P GL).pu r K:=by rw[h];exact hK
theorem Yd{r:aA}{σ σ':List ab}{K:KT}{v:aa}{rd:List Nat}{up:List (Nat×ab)}(h:r=.ok v rd up)(hu:gp σ up=some σ')(hK:K v σ'):(W P GL).wr r σ K:=by rw[h,PW,hu];exact hK
theorem Xf{r:aA}{σ σ':List ab}{K:aa→List Nat×List Nat→List ab→Prop}{v:aa}{rd:List Nat}{up:List (Nat×ab)}(h:r=.ok v rd up)(hu:gp σ up=some σ')(hK:K v (rd,up.map (·.1)) σ'):(W P GL).dr r σ K:=by rw[h,Zen,hu];exact hK
theorem Ya{c:Bool}{a b:Prop}(ht:c=true→a)(hf:c=false→b):(W P GL).test (.bool c) a b:=⟨ht,hf⟩
theorem Yh{a b:Prop}(h:a):(W P GL).test (.bool true) a b:=⟨λ_=>h,(λe=>by cases e)⟩
theorem Ye{a b:Prop}(h:b):(W P GL).test (.bool false) a b:=⟨(λe=>by cases e),λ_=>h⟩
theorem Zw{b:Bool}{k:Prop}(h:b=true)(hK:k):(W P GL).gd b k:=by rw[h];exact hK
theorem Zs{β:Type}{o:Option β}{K:β→Prop}{v:β}(h:o=some v)(hK:K v):(W P GL).opt o K:=by rw[h];exact hK
theorem Qa{w:Bool}{r:(aa→Prop)→Prop}{K:aa→Prop}(h:r K):(W P GL).gr (.bool w) w r K:=by
 cases w
 ·exact⟨(λe=>by cases e),λ_=>h⟩
 ·exact⟨λ_=>h,(λe=>by cases e)⟩
theorem Yq{w:Bool}{r:(KT)→Prop}{σ:List ab}{K:KT}(h:r K):(W P GL).gw (.bool w) w r σ K:=by
 cases w
 ·exact⟨(λe=>by cases e),λ_=>h⟩
 ·exact⟨λ_=>h,(λe=>by cases e)⟩
theorem YcK{w:Bool}{r:(aa→List Nat×List Nat→List ab→Prop)→Prop}{σ:List ab}{K:aa→List Nat×List Nat→List ab→Prop}(h:r K):(W P GL).gl (.bool w) w r σ K:=by
 cases w
 ·exact⟨(λe=>by cases e),λ_=>h⟩
 ·exact⟨λ_=>h,(λe=>by cases e)⟩
theorem Zc{c w:Bool}{r:(aa→Prop)→Prop}{K:aa→Prop}(hc:c = !w)(h:K (tE [(c,w)])):(W P GL).gr (.bool c) w r K:=by
 subst hc;cases w
 ·exact⟨λ_=>h,(λe=>by cases e)⟩
 ·exact⟨(λe=>by cases e),λ_=>h⟩
theorem Yx{c w:Bool}{r:(KT)→Prop}{σ:List ab}{K:KT}(hc:c = !w)(h:K (tE [(c,w)]) σ):(W P GL).gw (.bool c) w r σ K:=by
 subst hc;cases w
 ·exact⟨λ_=>h,(λe=>by cases e)⟩
 ·exact⟨(λe=>by cases e),λ_=>h⟩
theorem XdU{c w:Bool}{r:(aa→List Nat×List Nat→List ab→Prop)→Prop}{σ:List ab}{K:aa→List Nat×List Nat→List ab→Prop}(hc:c = !w)(h:K (tE [(c,w)]) ([],[]) σ):(W P GL).gl (.bool c) w r σ K:=by
 subst hc;cases w
 ·exact⟨λ_=>h,(λe=>by cases e)⟩
 ·exact⟨(λe=>by cases e),λ_=>h⟩
theorem QT{cs:List (Bool×Bool)}{q w:Bool}{r:(aa→Prop)→Prop}{K:aa→Prop}(hc:x_.gg cs=true)(h:K (tE (cs++[(q,w)]))):(W P GL).gr (.when cs (.bool q)) w r K:=by
 show (match x_.gg cs with
  |true=>K (tE (cs++[(q,w)]))
  | false=>(W P GL).stop)
 rw[hc];exact h
theorem ZW{cs:List (Bool×Bool)}{q w:Bool}{r:(KT)→Prop}{σ:List ab}{K:KT}(hc:x_.gg cs=true)(h:K (tE (cs++[(q,w)])) σ):(W P GL).gw (.when cs (.bool q)) w r σ K:=by
 show (match x_.gg cs with
  |true=>K (tE (cs++[(q,w)])) σ
  | false=>(W P GL).stop)
 rw[hc];exact h
theorem QK(n:Nat){F:(mC)→mC}{vs:List aa}{σ:List ab}(h:mc False n F vs σ):(W P GL).loop F vs σ:=⟨n,h⟩
theorem Zl{n:Nat}{F:(mC)→mC}{vs:List aa}{σ:List ab}(h:F (mc False n F) vs σ):mc False (n+1) F vs σ:=h
end
def pos:List Nat→Nat→Option Nat
 |[],_=>none
 |x::l,n=>match IN x n with
  |true=>some 0
  |false=>match pos l n with
   |some k=>some (k+1)
   |none=>none
theorem MP:∀ {l:List Nat} {n k:Nat},pos l n=some k→l[k]?=some n
 |[],_,_,h=>by cases h
 |x::l,n,k,h=>by
  unfold pos at h;split at h
  ·rename_i hb;cases h;simp[fV hb]
  ·split at h
   ·rename_i k' hk;cases h;simpa using MP hk
   ·cases h
theorem Xdq:∀ {l:List Nat} {k:Nat},l.Nodup→(h:k<l.length)→pos l l[k]=some k
 |[],_,_,h=>by simp at h
 |x::l,0,_,_=>by simp[pos]
 |x::l,k+1,hn,h=>by
  have jJ:=List.nodup_cons.1 hn;have cO:IN x (l[k]'(by simpa using h))=false:=by
   cases e:IN x (l[k]'(by simpa using h))with
   |false=>rfl
   |true=>exact(jJ.1 (by rw[fV e];exact List.getElem_mem _)).elim
  simp only[List.getElem_cons_succ,pos,cO,Xdq jJ.2 (by simpa using h)]
def JE(ids:List Nat)(σ:List ab):List ab:=ids.map λb=>(aj σ b).dC (aa.ct (pos ids))
theorem Tidy.gc(ids:List Nat){σ:List ab}{v:aa}(hn:ids.Nodup)(di:∀b∈ids,b<σ.length){σ2:List ab}{v2:aa}(h1:JE ids σ=σ2)(h2:v.ct (pos ids)=v2):Tidy σ v σ2 v2:=by
 subst h1;subst h2;refine Tidy.ct ⟨λx y k e1 e2=>?_,λx k e=>?_,λk hk=>?_⟩ v
 ·have q1:=MP e1;have q2:=MP e2;rw[q1]at q2;exact zBy q2
 ·have q:=MP e;have hx:x∈ids:=zAK q;exact⟨_,PD (di x hx),by simp[JE,q]⟩
 ·simp only[JE,zAH]at hk;exact⟨_,Xdq hn hk⟩
end Go.Ah
end
section
namespace Go.Ah
section
variable {P:Program} {GL:ar}
theorem Qey{c d:Bool}{K:aa→Prop}{r1:aA}{σ:List ab}{q1:List Nat}(h1:c=true→r1=.ok (.bool d) q1 [])(hK:K (.bool (c&&d))) :
  (W P GL).gr (.bool c) true (λk=>(W P GL).rd r1 k) λt1=>(W P GL).rd (Zo [.bool c,t1,.bool false] σ) K:=by
 cases c with
 |true=>exact Qa (Za (h1 rfl) (Za rfl hK))
 |false=>exact Zc rfl (Za rfl hK)
theorem IP{c d:Bool}{K:aa→Prop}{r1:aA}{r2:aa→aA}{r3:aa→aa→aA}{r4:aa→aa→aa→aA}{r5:aa→aa→aa→aa→aA}{σ:List ab}{v1 v2 v3 v4:aa}{q1 q2 q3 q4 q5:List Nat}(h1:c=true→r1=.ok v1 q1 [])(h2:c=true→r2 v1=.ok v2 q2 [])(h3:c=true→r3 v1 v2=.ok v3 q3 [])(h4:c=true→r4 v1 v2 v3=.ok v4 q4 [])(h5:c=true→r5 v1 v2 v3 v4=.ok (.bool d) q5 [])(hK:K (.bool (c&&d))) :
  (W P GL).gr (.bool c) true (λk=>(W P GL).rd r1 k) λt1=>(W P GL).gr (.bool c) true (λk=>(W P GL).rd (r2 t1) k) λt2=>(W P GL).gr (.bool c) true (λk=>(W P GL).rd (r3 t1 t2) k) λt3=>(W P GL).gr (.bool c) true (λk=>(W P GL).rd (r4 t1 t2 t3) k) λt4=>(W P GL).gr (.bool c) true (λk=>(W P GL).rd (r5 t1 t2 t3 t4) k) λt5=>(W P GL).rd (Zo [.bool c,t5,.bool false] σ) K:=by
 cases c with
 |true=>exact Qa (Za (h1 rfl) (Qa (Za (h2 rfl) (Qa (Za (h3 rfl) (Qa (Za (h4 rfl) (Qa (Za (h5 rfl) (Za rfl hK))))))))))
 |false=>exact Zc rfl (Zc rfl (Zc rfl (Zc rfl (Zc rfl (Za rfl hK)))))
theorem Zez{c d:Bool}{K:aa→Prop}{r1:aA}{r2:aa→aA}{r3:aa→aa→aA}{r4:aa→aa→aa→aA}{r5:aa→aa→aa→aa→aA}{r6:aa→aa→aa→aa→aa→aA}{σ:List ab}{v1 v2 v3 v4 v5:aa}{q1 q2 q3 q4 q5 q6:List Nat}(h1:c=true→r1=.ok v1 q1 [])(h2:c=true→r2 v1=.ok v2 q2 [])(h3:c=true→r3 v1 v2=.ok v3 q3 [])(h4:c=true→r4 v1 v2 v3=.ok v4 q4 [])(h5:c=true→r5 v1 v2 v3 v4=.ok v5 q5 [])(h6:c=true→r6 v1 v2 v3 v4 v5=.ok (.bool d) q6 [])(hK:K (.bool (c&&d))) :
  (W P GL).gr (.bool c) true (λk=>(W P GL).rd r1 k) λt1=>(W P GL).gr (.bool c) true (λk=>(W P GL).rd (r2 t1) k) λt2=>(W P GL).gr (.bool c) true (λk=>(W P GL).rd (r3 t1 t2) k) λt3=>(W P GL).gr (.bool c) true (λk=>(W P GL).rd (r4 t1 t2 t3) k) λt4=>(W P GL).gr (.bool c) true (λk=>(W P GL).rd (r5 t1 t2 t3 t4) k) λt5=>(W P GL).gr (.bool c) true (λk=>(W P GL).rd (r6 t1 t2 t3 t4 t5) k) λt6=>(W P GL).rd (Zo [.bool c,t6,.bool false] σ) K:=by
 cases c with
 |true=>exact Qa (Za (h1 rfl) (Qa (Za (h2 rfl) (Qa (Za (h3 rfl) (Qa (Za (h4 rfl) (Qa (Za (h5 rfl) (Qa (Za (h6 rfl) (Za rfl hK))))))))))))
 |false=>exact Zc rfl (Zc rfl (Zc rfl (Zc rfl (Zc rfl (Zc rfl (Za rfl hK))))))
theorem XZ{c d:Bool}{K:aa→Prop}{r1:aA}{r2:aa→aA}{σ:List ab}{v1:aa}{q1 q2:List Nat}(h1:c=false→r1=.ok v1 q1 [])(h2:c=false→r2 v1=.ok (.bool d) q2 [])(hK:K (.bool (c||d))) :
  (W P GL).gr (.bool c) false (λk=>(W P GL).rd r1 k) λt1=>(W P GL).gr (.bool c) false (λk=>(W P GL).rd (r2 t1) k) λt2=>(W P GL).rd (Zo [.bool c,.bool true,t2] σ) K:=by
 cases c with
 |false=>exact Qa (Za (h1 rfl) (Qa (Za (h2 rfl) (Za rfl hK))))
 |true=>exact Zc rfl (Zc rfl (Za rfl hK))
theorem vg{c d:Bool}{K:aa→Prop}{r1:aA}{r2:aa→aA}{r3:aa→aa→aA}{σ:List ab}{v1 v2:aa}{q1 q2 q3:List Nat}(h1:c=false→r1=.ok v1 q1 [])(h2:c=false→r2 v1=.ok v2 q2 [])(h3:c=false→r3 v1 v2=.ok (.bool d) q3 [])(hK:K (.bool (c||d))) :
  (W P GL).gr (.bool c) false (λk=>(W P GL).rd r1 k) λt1=>(W P GL).gr (.bool c) false (λk=>(W P GL).rd (r2 t1) k) λt2=>(W P GL).gr (.bool c) false (λk=>(W P GL).rd (r3 t1 t2) k) λt3=>(W P GL).rd (Zo [.bool c,.bool true,t3] σ) K:=by
 cases c with
 |false=>exact Qa (Za (h1 rfl) (Qa (Za (h2 rfl) (Qa (Za (h3 rfl) (Za rfl hK))))))
 |true=>exact Zc rfl (Zc rfl (Zc rfl (Za rfl hK)))
theorem Iq{c d:Bool}{K:aa→Prop}{r1:aA}{r2:aa→aA}{r3:aa→aa→aA}{r4:aa→aa→aa→aA}{r5:aa→aa→aa→aa→aA}{σ:List ab}{v1 v2 v3 v4:aa}{q1 q2 q3 q4 q5:List Nat}(h1:c=false→r1=.ok v1 q1 [])(h2:c=false→r2 v1=.ok v2 q2 [])(h3:c=false→r3 v1 v2=.ok v3 q3 [])(h4:c=false→r4 v1 v2 v3=.ok v4 q4 [])(h5:c=false→r5 v1 v2 v3 v4=.ok (.bool d) q5 [])(hK:K (.bool (c||d))) :
  (W P GL).gr (.bool c) false (λk=>(W P GL).rd r1 k) λt1=>(W P GL).gr (.bool c) false (λk=>(W P GL).rd (r2 t1) k) λt2=>(W P GL).gr (.bool c) false (λk=>(W P GL).rd (r3 t1 t2) k) λt3=>(W P GL).gr (.bool c) false (λk=>(W P GL).rd (r4 t1 t2 t3) k) λt4=>(W P GL).gr (.bool c) false (λk=>(W P GL).rd (r5 t1 t2 t3 t4) k) λt5=>(W P GL).rd (Zo [.bool c,.bool true,t5] σ) K:=by
 cases c with
 |false=>exact Qa (Za (h1 rfl) (Qa (Za (h2 rfl) (Qa (Za (h3 rfl) (Qa (Za (h4 rfl) (Qa (Za (h5 rfl) (Za rfl hK))))))))))
 |true=>exact Zc rfl (Zc rfl (Zc rfl (Zc rfl (Zc rfl (Za rfl hK)))))
theorem SR{c d:Bool}{K:aa→Prop}{r1:aA}{r2:aa→aA}{r3:aa→aa→aA}{r4:aa→aa→aa→aA}{r5:aa→aa→aa→aa→aA}{r6:aa→aa→aa→aa→aa→aA}{σ:List ab}{v1 v2 v3 v4 v5:aa}{q1 q2 q3 q4 q5 q6:List Nat}(h1:c=false→r1=.ok v1 q1 [])(h2:c=false→r2 v1=.ok v2 q2 [])(h3:c=false→r3 v1 v2=.ok v3 q3 [])(h4:c=false→r4 v1 v2 v3=.ok v4 q4 [])(h5:c=false→r5 v1 v2 v3 v4=.ok v5 q5 [])(h6:c=false→r6 v1 v2 v3 v4 v5=.ok (.bool d) q6 [])(hK:K (.bool (c||d))) :
  (W P GL).gr (.bool c) false (λk=>(W P GL).rd r1 k) λt1=>(W P GL).gr (.bool c) false (λk=>(W P GL).rd (r2 t1) k) λt2=>(W P GL).gr (.bool c) false (λk=>(W P GL).rd (r3 t1 t2) k) λt3=>(W P GL).gr (.bool c) false (λk=>(W P GL).rd (r4 t1 t2 t3) k) λt4=>(W P GL).gr (.bool c) false (λk=>(W P GL).rd (r5 t1 t2 t3 t4) k) λt5=>(W P GL).gr (.bool c) false (λk=>(W P GL).rd (r6 t1 t2 t3 t4 t5) k) λt6=>(W P GL).rd (Zo [.bool c,.bool true,t6] σ) K:=by
 cases c with
 |false=>exact Qa (Za (h1 rfl) (Qa (Za (h2 rfl) (Qa (Za (h3 rfl) (Qa (Za (h4 rfl) (Qa (Za (h5 rfl) (Qa (Za (h6 rfl) (Za rfl hK))))))))))))
 |true=>exact Zc rfl (Zc rfl (Zc rfl (Zc rfl (Zc rfl (Zc rfl (Za rfl hK))))))
theorem Cg{c d:Bool}{K:aa→Prop}{r1:aA}{r2:aa→aA}{r3:aa→aa→aA}{r4:aa→aa→aa→aA}{r5:aa→aa→aa→aa→aA}{r6:aa→aa→aa→aa→aa→aA}{r7:aa→aa→aa→aa→aa→aa→aA}{σ:List ab}{v1 v2 v3 v4 v5 v6:aa}{q1 q2 q3 q4 q5 q6 q7:List Nat}(h1:c=false→r1=.ok v1 q1 [])(h2:c=false→r2 v1=.ok v2 q2 [])(h3:c=false→r3 v1 v2=.ok v3 q3 [])(h4:c=false→r4 v1 v2 v3=.ok v4 q4 [])(h5:c=false→r5 v1 v2 v3 v4=.ok v5 q5 [])(h6:c=false→r6 v1 v2 v3 v4 v5=.ok v6 q6 [])(h7:c=false→r7 v1 v2 v3 v4 v5 v6=.ok (.bool d) q7 [])(hK:K (.bool (c||d))) :
  (W P GL).gr (.bool c) false (λk=>(W P GL).rd r1 k) λt1=>(W P GL).gr (.bool c) false (λk=>(W P GL).rd (r2 t1) k) λt2=>(W P GL).gr (.bool c) false (λk=>(W P GL).rd (r3 t1 t2) k) λt3=>(W P GL).gr (.bool c) false (λk=>(W P GL).rd (r4 t1 t2 t3) k) λt4=>(W P GL).gr (.bool c) false (λk=>(W P GL).rd (r5 t1 t2 t3 t4) k) λt5=>(W P GL).gr (.bool c) false (λk=>(W P GL).rd (r6 t1 t2 t3 t4 t5) k) λt6=>(W P GL).gr (.bool c) false (λk=>(W P GL).rd (r7 t1 t2 t3 t4 t5 t6) k) λt7=>(W P GL).rd (Zo [.bool c,.bool true,t7] σ) K:=by
 cases c with
 |false=>exact Qa (Za (h1 rfl) (Qa (Za (h2 rfl) (Qa (Za (h3 rfl) (Qa (Za (h4 rfl) (Qa (Za (h5 rfl) (Qa (Za (h6 rfl) (Qa (Za (h7 rfl) (Za rfl hK))))))))))))))
 |true=>exact Zc rfl (Zc rfl (Zc rfl (Zc rfl (Zc rfl (Zc rfl (Zc rfl (Za rfl hK)))))))
theorem Yez{c d:Bool}{K:aa→Prop}{r1:aA}{r2:aa→aA}{r3:aa→aa→aA}{r4:aa→aa→aa→aA}{r5:aa→aa→aa→aa→aA}{r6:aa→aa→aa→aa→aa→aA}{r7:aa→aa→aa→aa→aa→aa→aA}{r8:aa→aa→aa→aa→aa→aa→aa→aA}{σ:List ab}{v1 v2 v3 v4 v5 v6 v7:aa}{q1 q2 q3 q4 q5 q6 q7 q8:List Nat}(h1:c=false→r1=.ok v1 q1 [])(h2:c=false→r2 v1=.ok v2 q2 [])(h3:c=false→r3 v1 v2=.ok v3 q3 [])(h4:c=false→r4 v1 v2 v3=.ok v4 q4 [])(h5:c=false→r5 v1 v2 v3 v4=.ok v5 q5 [])(h6:c=false→r6 v1 v2 v3 v4 v5=.ok v6 q6 [])(h7:c=false→r7 v1 v2 v3 v4 v5 v6=.ok v7 q7 [])(h8:c=false→r8 v1 v2 v3 v4 v5 v6 v7=.ok (.bool d) q8 [])(hK:K (.bool (c||d))) :
  (W P GL).gr (.bool c) false (λk=>(W P GL).rd r1 k) λt1=>(W P GL).gr (.bool c) false (λk=>(W P GL).rd (r2 t1) k) λt2=>(W P GL).gr (.bool c) false (λk=>(W P GL).rd (r3 t1 t2) k) λt3=>(W P GL).gr (.bool c) false (λk=>(W P GL).rd (r4 t1 t2 t3) k) λt4=>(W P GL).gr (.bool c) false (λk=>(W P GL).rd (r5 t1 t2 t3 t4) k) λt5=>(W P GL).gr (.bool c) false (λk=>(W P GL).rd (r6 t1 t2 t3 t4 t5) k) λt6=>(W P GL).gr (.bool c) false (λk=>(W P GL).rd (r7 t1 t2 t3 t4 t5 t6) k) λt7=>(W P GL).gr (.bool c) false (λk=>(W P GL).rd (r8 t1 t2 t3 t4 t5 t6 t7) k) λt8=>(W P GL).rd (Zo [.bool c,.bool true,t8] σ) K:=by
 cases c with
 |false=>exact Qa (Za (h1 rfl) (Qa (Za (h2 rfl) (Qa (Za (h3 rfl) (Qa (Za (h4 rfl) (Qa (Za (h5 rfl) (Qa (Za (h6 rfl) (Qa (Za (h7 rfl) (Qa (Za (h8 rfl) (Za rfl hK))))))))))))))))
 |true=>exact Zc rfl (Zc rfl (Zc rfl (Zc rfl (Zc rfl (Zc rfl (Zc rfl (Zc rfl (Za rfl hK))))))))
theorem Yeg{c d:Bool}{K:aa→Prop}{r1:aA}{r2:aa→aA}{r3:aa→aa→aA}{r4:aa→aa→aa→aA}{r5:aa→aa→aa→aa→aA}{r6:aa→aa→aa→aa→aa→aA}{r7:aa→aa→aa→aa→aa→aa→aA}{r8:aa→aa→aa→aa→aa→aa→aa→aA}{r9:aa→aa→aa→aa→aa→aa→aa→aa→aA}{r10:aa→aa→aa→aa→aa→aa→aa→aa→aa→aA}{σ:List ab}{v1 v2 v3 v4 v5 v6 v7 v8 v9:aa}{q1 q2 q3 q4 q5 q6 q7 q8 q9 q10:List Nat}(h1:c=false→r1=.ok v1 q1 [])(h2:c=false→r2 v1=.ok v2 q2 [])(h3:c=false→r3 v1 v2=.ok v3 q3 [])(h4:c=false→r4 v1 v2 v3=.ok v4 q4 [])(h5:c=false→r5 v1 v2 v3 v4=.ok v5 q5 [])(h6:c=false→r6 v1 v2 v3 v4 v5=.ok v6 q6 [])(h7:c=false→r7 v1 v2 v3 v4 v5 v6=.ok v7 q7 [])(h8:c=false→r8 v1 v2 v3 v4 v5 v6 v7=.ok v8 q8 [])(h9:c=false→r9 v1 v2 v3 v4 v5 v6 v7 v8=.ok v9 q9 [])(h10:c=false→r10 v1 v2 v3 v4 v5 v6 v7 v8 v9=.ok (.bool d) q10 [])(hK:K (.bool (c||d))) :
  (W P GL).gr (.bool c) false (λk=>(W P GL).rd r1 k) λt1=>(W P GL).gr (.bool c) false (λk=>(W P GL).rd (r2 t1) k) λt2=>(W P GL).gr (.bool c) false (λk=>(W P GL).rd (r3 t1 t2) k) λt3=>(W P GL).gr (.bool c) false (λk=>(W P GL).rd (r4 t1 t2 t3) k) λt4=>(W P GL).gr (.bool c) false (λk=>(W P GL).rd (r5 t1 t2 t3 t4) k) λt5=>(W P GL).gr (.bool c) false (λk=>(W P GL).rd (r6 t1 t2 t3 t4 t5) k) λt6=>(W P GL).gr (.bool c) false (λk=>(W P GL).rd (r7 t1 t2 t3 t4 t5 t6) k) λt7=>(W P GL).gr (.bool c) false (λk=>(W P GL).rd (r8 t1 t2 t3 t4 t5 t6 t7) k) λt8=>(W P GL).gr (.bool c) false (λk=>(W P GL).rd (r9 t1 t2 t3 t4 t5 t6 t7 t8) k) λt9=>(W P GL).gr (.bool c) false (λk=>(W P GL).rd (r10 t1 t2 t3 t4 t5 t6 t7 t8 t9) k) λt10=>(W P GL).rd (Zo [.bool c,.bool true,t10] σ) K:=by
 cases c with
 |false=>exact Qa (Za (h1 rfl) (Qa (Za (h2 rfl) (Qa (Za (h3 rfl) (Qa (Za (h4 rfl) (Qa (Za (h5 rfl) (Qa (Za (h6 rfl) (Qa (Za (h7 rfl) (Qa (Za (h8 rfl) (Qa (Za (h9 rfl) (Qa (Za (h10 rfl) (Za rfl hK))))))))))))))))))))
 |true=>exact Zc rfl (Zc rfl (Zc rfl (Zc rfl (Zc rfl (Zc rfl (Zc rfl (Zc rfl (Zc rfl (Zc rfl (Za rfl hK))))))))))
theorem Xdw{c d:Bool}{K:List ab→aa→Prop}{r1:aA}{r2:aa→aA}{r3:aa→aa→aA}{r4:aa→aa→aa→aA}{cl:aa→aa→aa→aa→(KT)→Prop} {σ:List ab}{v1 v2 v3 v4:aa}{q1 q2 q3 q4:List Nat}(h1:c=true→r1=.ok v1 q1 [])(h2:c=true→r2 v1=.ok v2 q2 [])(h3:c=true→r3 v1 v2=.ok v3 q3 [])(h4:c=true→r4 v1 v2 v3=.ok v4 q4 [])(hc:c=true→∀k:KT,k (.bool d) σ→cl v1 v2 v3 v4 k)(hK:K σ (.bool (c&&d))) :
  (W P GL).gr (.bool c) true (λk=>(W P GL).rd r1 k) λt1=>(W P GL).gr (.bool c) true (λk=>(W P GL).rd (r2 t1) k) λt2=>(W P GL).gr (.bool c) true (λk=>(W P GL).rd (r3 t1 t2) k) λt3=>(W P GL).gr (.bool c) true (λk=>(W P GL).rd (r4 t1 t2 t3) k) λt4=>(W P GL).gw (.bool c) true (λk=>cl t1 t2 t3 t4 k) σ λw0 τ=>(W P GL).rd (Zo [.bool c,w0,.bool false] τ) (K τ):=by
 cases c with
 |true=>exact Qa (Za (h1 rfl) (Qa (Za (h2 rfl) (Qa (Za (h3 rfl) (Qa (Za (h4 rfl) (Yq (hc rfl _ (Za rfl hK))))))))))
 |false=>exact Zc rfl (Zc rfl (Zc rfl (Zc rfl (Yx rfl (Za rfl hK)))))
theorem Ydy{c d:Bool}{K:List ab→aa→Prop}{r1:aA}{cl:aa→(KT)→Prop} {σ:List ab}{v1:aa}{q1:List Nat}(h1:c=false→r1=.ok v1 q1 [])(hc:c=false→∀k:KT,k (.bool d) σ→cl v1 k)(hK:K σ (.bool (c||d))) :
  (W P GL).gr (.bool c) false (λk=>(W P GL).rd r1 k) λt1=>(W P GL).gw (.bool c) false (λk=>cl t1 k) σ λw0 τ=>(W P GL).rd (Zo [.bool c,.bool true,w0] τ) (K τ):=by
 cases c with
 |false=>exact Qa (Za (h1 rfl) (Yq (hc rfl _ (Za rfl hK))))
 |true=>exact Zc rfl (Yx rfl (Za rfl hK))
theorem Xdy{c d:Bool}{K:List ab→aa→Prop}{r1:aA}{r2:aa→aA}{r3:aa→aa→aA}{cl:aa→aa→aa→(KT)→Prop} {σ:List ab}{v1 v2 v3:aa}{q1 q2 q3:List Nat}(h1:c=false→r1=.ok v1 q1 [])(h2:c=false→r2 v1=.ok v2 q2 [])(h3:c=false→r3 v1 v2=.ok v3 q3 [])(hc:c=false→∀k:KT,k (.bool d) σ→cl v1 v2 v3 k)(hK:K σ (.bool (c||d))) :
  (W P GL).gr (.bool c) false (λk=>(W P GL).rd r1 k) λt1=>(W P GL).gr (.bool c) false (λk=>(W P GL).rd (r2 t1) k) λt2=>(W P GL).gr (.bool c) false (λk=>(W P GL).rd (r3 t1 t2) k) λt3=>(W P GL).gw (.bool c) false (λk=>cl t1 t2 t3 k) σ λw0 τ=>(W P GL).rd (Zo [.bool c,.bool true,w0] τ) (K τ):=by
 cases c with
 |false=>exact Qa (Za (h1 rfl) (Qa (Za (h2 rfl) (Qa (Za (h3 rfl) (Yq (hc rfl _ (Za rfl hK))))))))
 |true=>exact Zc rfl (Zc rfl (Zc rfl (Yx rfl (Za rfl hK))))
theorem Qdy{c d:Bool}{K:List ab→aa→Prop}{r1:aA}{r2:aa→aA}{r3:aa→aa→aA}{r4:aa→aa→aa→aA}{cl:aa→aa→aa→aa→(KT)→Prop}{s1:aa→List ab→aA}{σ:List ab}{v1 v2 v3 v4 u0:aa}{q1 q2 q3 q4 p1:List Nat}(h1:c=false→r1=.ok v1 q1 [])(h2:c=false→r2 v1=.ok v2 q2 [])(h3:c=false→r3 v1 v2=.ok v3 q3 [])(h4:c=false→r4 v1 v2 v3=.ok v4 q4 [])(hc:c=false→∀k:KT,k u0 σ→cl v1 v2 v3 v4 k)(g1:c=false→s1 u0 σ=.ok (.bool d) p1 [])(hK:K σ (.bool (c||d))) :
  (W P GL).gr (.bool c) false (λk=>(W P GL).rd r1 k) λt1=>(W P GL).gr (.bool c) false (λk=>(W P GL).rd (r2 t1) k) λt2=>(W P GL).gr (.bool c) false (λk=>(W P GL).rd (r3 t1 t2) k) λt3=>(W P GL).gr (.bool c) false (λk=>(W P GL).rd (r4 t1 t2 t3) k) λt4=>(W P GL).gw (.bool c) false (λk=>cl t1 t2 t3 t4 k) σ λw0 τ=>(W P GL).gr (.bool c) false (λk=>(W P GL).rd (s1 w0 τ) k) λw1=>(W P GL).rd (Zo [.bool c,.bool true,w1] τ) (K τ):=by
 cases c with
 |false=>exact Qa (Za (h1 rfl) (Qa (Za (h2 rfl) (Qa (Za (h3 rfl) (Qa (Za (h4 rfl) (Yq (hc rfl _ (Qa (Za (g1 rfl) (Za rfl hK))))))))))))
 |true=>exact Zc rfl (Zc rfl (Zc rfl (Zc rfl (Yx rfl (Zc rfl (Za rfl hK))))))
end
end Go.Ah
end
section
namespace Go.Ah
section
variable {P:Program} {GL:ar}
theorem Xbx(hP:P.follows .mixedOrders=true){k:MK}{xs ys zs:List aa}{f:FuncId}(hc:Zt k xs=some (f,ys)){np:Nat}{g:fz}(hg:mB P GL f np g)(hn:ys.length=np){σ τ τ':List ab}(fp ids:List Nat){v:aa}{m:Nat}(zJ:∀b∈fp,b∈ids)(pk:∀b∈ids,b<σ.length)
 (rH:ic (oN σ.length) ys=zs)(hτ:mg fp σ=τ)(h:g (W P GL) zs τ (λv' s=>v'=v∧s=τ'))(hk:τ'.length=σ.length+m)
 {K:aa→List Nat×List Nat→List ab→Prop}{u:aa}{up:List (Nat×ab)}{σ':List ab}(hv:v.ct (fq ids σ.length m)=u)(ei:((fp++zBG σ.length m).map λb=>(b,(aj τ' b).dC (aa.ct (fq ids σ.length m))))=up)(hu:gp σ up=some σ')(hK:K u (ids,up.map (·.1)) σ'):(W P GL).eS k xs σ K:=by
 subst hv;subst ei;have Hd:zs.length=np:=by rw[←rH,YA,hn]
 obtain⟨F,h1,h2,h3⟩:=hg.CI hP (y0 P GL) Hd h;refine Ie hc hg.plain (ZaZ h1 (hn.trans h2.symm) σ fp ids zJ pk rH hτ (h3.mono λe ρ s q=>?_) hk) hu hK
 grind
end
end Go.Ah
end
section
namespace Go.Ah
section
variable {P:Program} {GL:ar}
theorem Qi(hP:P.follows .mixedOrders=true){f:FuncId}{np:Nat}{g:fz}(hg:mB P GL f np g){xs:List aa}(hn:xs.length=np){y:aa}(h:g (W P GL) xs [] (λv' σ=>∃rd,aB (hp σ) rd v' y)):dK P GL f xs y:=by
 obtain⟨F,h1,h2,h3⟩:=hg.CI hP (y0 P GL) hn h;intro w M vs hM hg hx;have r0:=bx.start (GL:=GL) w M hM hg;have hh:hp []=oQ:=by funext b;simp[hp,oQ]
 rw[←hh]at r0;refine(Ps h1 (hn.trans h2.symm) h3 w ⟨[],M⟩ ⟨M,bA⟩ w vs r0 hx).mono ?_;rintro e w' ⟨u,he,g',x,σ',⟨rd,hR⟩,hle,r,d⟩
 let M2:Nat→Option Obj:=λb=>if b<w.heap.size then g'.M b else w'.heap[b]?
 have sj:yI g' (hp σ') w' M2:=by
  refine⟨λb o e=>?_,λb blk cb o e1 e2 e3 e4 e5=>?_⟩
  ·show (if b<w.heap.size then g'.M b else w'.heap[b]?)=some o;split
   ·exact e
   ·exact r.aX b o e
  ·obtain⟨_,di,_⟩:=r.own b blk cb e1 e2 e3 e4
   grind
 have sm:=hR GL w ⟨[],M⟩ g' (hp σ') w' M2 r sj (λ_ _=>rfl) u d;refine⟨u,he,r.keeps,M2,λb o e=>sj.1 b o (hle.m b o e),λb o e=>?_,λb o e=>?_,sm⟩
 ·have e':(if b<w.heap.size then g'.M b else w'.heap[b]?)=some o:=e;split at e'
  ·exact r.aX b o e'
  ·exact e'
 ·have e':(if b<w.heap.size then g'.M b else w'.heap[b]?)=some o:=e;split at e'
  ·rcases r.src b o e' with q|q|q<;>simp_all
  ·exact .inr (by omega)
theorem aB.bp{h0:Hp}{rd:List Nat}{xs ys:List aa}(h1:bu h0 rd xs ys):aB h0 rd (.bp xs) (.bp ys):=by
 intro GL w0 L g h w M2 r hM dc v d;cases d with
 |bp _ _ vs hs hd=>
  obtain⟨hl,pj⟩:=h1.get r hM dc (vs:=vs.toList) (by simp[hs]) (λi x v e1 e2=>hd i x v e1 (by simpa using e2));exact .bp _ _ _ (by simpa[hs]using hl.symm) (λi x v e1 e2=>pj i x v e1 (by simpa using e2))
theorem aB.dY{h0:Hp}{rd:List Nat}{x y z:aa}(h:aB h0 rd x y)(k:∀(M:Nat→Option Obj) (u:Value),Den M bA y u→Den M bA z u):aB h0 rd x z:=
 λGL w0 L g h' w M2 r hM dc v d=>k M2 v (h GL w0 L g h' w M2 r hM dc v d)
theorem Den.gS{M:Nat→Option Obj}{c:Own}{e n:Bool}{sz:Nat}{rows:List (List aa)}{u:Value}(h:Den M c (.aU e n sz rows) u):Den M c (.aU false false sz rows) u:=by
 cases h with
 |aU _ _ _ _ _ a cap blk off f q1 q2 q3 q4 q5 q6 q7 q8=>exact .aU _ _ _ _ _ a cap blk off f (λh=>by cases h) (λh=>by cases h) q3 q4 q5 q6 q7 q8
theorem Den.e_{M:Nat→Option Obj}{c:Own}{u:Value}(sz:Nat)(h:Den M c .an u):Den M c (.aU false false sz []) u:=by
 cases h with
 |an=>exact .aU _ _ _ _ [] none 0 0 0 (λ_ _=>undef) (λh=>by cases h) (λh=>by cases h) (λh=>(h rfl).elim) (λ_=>rfl) (by simp) (by simp) (by simp) (by simp)
theorem bu.ro{h0:Hp}{rd:List Nat}:∀ {l:List aa},ga l=true→bu h0 rd l l
 |[],_=>bu.nil
 |x::l,h=>by
  simp only[ga,AI]at h;exact bu.cons (aB.ro h.1) (bu.ro h.2)
theorem aB.own{σ:List ab}{rd:List Nat}{b off len sz:Nat}{ex:Bool}{rs rows:List (List aa)}(hb:aj σ b=.rows sz rs)(di:b∈rd)(hle:off+len<=rs.length)(hc:cut off (off+len) rs=rows)(kY:∀r∈rs,ga r=true):aB (hp σ) rd (.sl b off len ex) (.aU false false sz rows):=by
 refine aB.dY (y:=.aU ex false sz rows) ?_ (λM u d=>d.gS);have cj:hp σ b=some (.rows sz rs):=Xw hb (by simp);subst hc;refine aB.sl cj di hle (Hu hle▸by omega) (λi row row' q1 q2=>?_)
 grind [cut,bu.ro]
theorem Oc(l:List (List aa))(n:Nat)(h:n=l.length):cut 0 (0+n) l=l:=by subst h;simp[cut]
theorem QdI(x:List aa)(l:List (List aa))(n:Nat)(h:n=l.length):cut 1 (1+n) (x::l)=l:=by subst h;simp[cut,zDu]
theorem Zu{k:MK}{xs ys zs:List aa}{f:FuncId}{v:aa}{rd:List Nat}(h:dK P GL f zs v){σ:List ab}(hc:Zt k xs=some (f,ys))(iq:Zh P f=true)(hb:bu (hp σ) rd ys zs)(hv:v.flat=true){K:KT}(hK:K v σ):(W P GL).call k xs σ K:=
 Cm hc iq (h.qk hb hv) (Zg σ) hK
theorem Gc{k:MK}{xs ys zs:List aa}{f:FuncId}{v:aa}{rd:List Nat}(h:dK P GL f zs v){σ:List ab}(hc:Zt k xs=some (f,ys))(iq:Zh P f=true)(hb:bu (hp σ) rd ys zs)(hv:v.flat=true){K:aa→List Nat×List Nat→List ab→Prop}(hK:K v (rd,[]) σ):(W P GL).eS k xs σ K:=
 Ie hc iq (h.qk hb hv) (Zg σ) hK
theorem Qc3{k:MK}{xs ys zs:List aa}{f:FuncId}{v:aa}{bs:List ab}{rd:List Nat}(h:de P GL f zs v bs){σ:List ab}(hc:Zt k xs=some (f,ys))(iq:Zh P f=true)(hb:bu (hp σ) rd ys zs)(hv:v.dq=true)(C3:ya bs=true){K:KT}(hK:K (v.ct (XC σ.length)) (σ++Xv σ.length bs)):(W P GL).call k xs σ K:=
 Cm hc iq (h.qk hb hv C3 (λi _=>by simp[hp])) (Z9 _ σ) hK
theorem ZcM{k:MK}{xs ys zs:List aa}{f:FuncId}{v:aa}{bs:List ab}{rd:List Nat}(h:de P GL f zs v bs){σ:List ab}(hc:Zt k xs=some (f,ys))(iq:Zh P f=true)(hb:bu (hp σ) rd ys zs)(hv:v.dq=true)(C3:ya bs=true){K:aa→List Nat×List Nat→List ab→Prop}(hK:K (v.ct (XC σ.length)) (rd,Z7 σ.length (Xv σ.length bs)) (σ++Xv σ.length bs)):(W P GL).eS k xs σ K:=
 Ie hc iq (h.qk hb hv C3 (λi _=>by simp[hp])) (Z9 _ σ) (by rw[Pm];exact hK)
theorem QP(n by_:Nat){σ:List ab}{b c len:Nat}{ex:Bool}{rs:List (List aa)}{row:List aa}(hb:aj σ b=.rows n rs)(hc:aj σ c=.rows n [row])(hl:rs.length=len)(hr:row.all aa.cell=true)(bM:(2*(len+1)+192)*by_<=2 ^ 48) :
  Qf n by_ [.sl b 0 len ex,.sl c 0 1 true] σ=.ok (.sl σ.length 0 (len+1) false) [c] ([(b,.dead)]++[(σ.length,.rows n (rs++[row]))]):=by
 simp_all [Xk,cut,Qf,XD,yX,sh,XR]
end
end Go.Ah
end
section
namespace Go.Ah
section
variable {H:Type}
def DL(M:Nat→Option Obj)(xs:List aa)(cs:List Value):Prop:=xs.length=cs.length∧∀(i:Nat) (x:aa) (v:Value),xs[i]?=some x→cs[i]?=some v→Den M bA x v
theorem DL.nil{M:Nat→Option Obj}:DL M [] []:=⟨rfl,λi x v h=>by simp at h⟩
theorem DL.one{M:Nat→Option Obj}{x:aa}{v:Value}(h:Den M bA x v):DL M [x] [v]:=by
 refine⟨rfl,λi y u h1 h2=>?_⟩;cases i with
 |zero=>simp at h1 h2;subst h1;subst h2;exact h
 |succ i=>simp at h1
theorem DL.append{M:Nat→Option Obj}{xs ys:List aa}{cs ds:List Value}(h:DL M xs cs)(k:DL M ys ds):DL M (xs++ys) (cs++ds):=by
 refine⟨by simp[h.1,k.1],λi x v h1 h2=>?_⟩;by_cases hi:i<xs.length
 ·rw[zAV hi]at h1;rw[zAV (by rw[←h.1];exact hi)]at h2;exact h.2 i x v h1 h2
 ·rw[zAQ (by omega)]at h1;rw[zAQ (by rw[←h.1];omega),←h.1]at h2;exact k.2 _ x v h1 h2
def yS{α β γ:Type}(R:α→β→γ→Prop):List α→List β→List γ→Prop
 |[],[],[]=>True
 |a::us,b::bs,c::cs=>R a b c∧yS R us bs cs
 |_,_,_=>False
def sf{α β:Type}(R:α→β→Prop):List α→List β→Prop
 |[],[]=>True
 |a::us,b::bs=>R a b∧sf R us bs
 |_,_=>False
theorem yS.cons{α β γ:Type}{R:α→β→γ→Prop}{a:α}{us:List α}{bs:List β}{cs:List γ}(h:yS R (a::us) bs cs):∃b I2 c Bm,bs=b::I2∧cs=c::Bm∧R a b c∧yS R us I2 Bm:=by
 match bs,cs,h with
 |b::bs,c::cs,h=>exact⟨b,bs,c,cs,rfl,rfl,h.1,h.2⟩
theorem yS.nil{α β γ:Type}{R:α→β→γ→Prop}{bs:List β}{cs:List γ}(h:yS R [] bs cs):bs=[]∧cs=[]:=by
 match bs,cs,h with
 |[],[],_=>exact⟨rfl,rfl⟩
theorem sf.cons{α β:Type}{R:α→β→Prop}{a:α}{us:List α}{bs:List β}(h:sf R (a::us) bs):∃b I2,bs=b::I2∧R a b∧sf R us I2:=by
 match bs,h with
 |b::bs,h=>exact⟨b,bs,rfl,h.1,h.2⟩
theorem sf.length{α β:Type}{R:α→β→Prop}:∀ {us:List α} {bs:List β},sf R us bs→us.length=bs.length
 |[],[],_=>rfl
 |_::_,_::_,h=>by simp[sf.length h.2]
 |[],_::_,h=>h.elim
 |_::_,[],h=>h.elim
def Typed(P:Program):Nat→TypeId→List aa→DataW H→Prop
 |0,_,_,_=>False
 |fuel+1,t,xs,d=>match P.underlying t with
  |some .bool=>∃b,xs=[.bool b]∧d=.lit (.bool b)
  |some (.int k)=>∃n,xs=[.int k n]∧(Lit.int k n).wf=true∧d=.lit (.int k n)
  |some .string=>∃s,xs=[.str s]∧d=.lit (.string s)
  |some (.slice e)=>∃rows,xs=[.aU false false (P.cellsOf e) rows]∧((rows=[]∧d=.nil)∨∃es sp,d=.slice es sp∧sf (Typed P fuel e) rows es)
  |some (.struct fs)=>∃parts ds,xs=parts.flatten∧d=.agg ds∧yS (Typed P fuel) (fs.toList.map (·.type)) parts ds
  |some (.array n e)=>∃parts ds,xs=parts.flatten∧d=.agg ds∧parts.length=n∧sf (Typed P fuel e) parts ds
  |_=>False
def pN(P:Program):Nat→List Field→Option Nat
 |o,[]=>some o
 |o,f::r=>bif IN f.offset o then pN P (o+P.cellsOf f.type) r else none
def AA(P:Program)(S:List TypeId)(t:TypeId):Bool:=match P.underlying t with
 |some .bool=>IN (P.cellsOf t) 1
 |some (.int _)=>IN (P.cellsOf t) 1
 |some .string=>IN (P.cellsOf t) 1
 |some (.slice e)=>IN (P.cellsOf t) 1&&(zAi 0 (P.cellsOf e)&&S.contains e)
 | some (.struct fs)=>(match pN P 0 fs.toList with
  |some n=>IN n (P.cellsOf t)
  | none=>false) && fs.toList.all λf=>S.contains f.type
 |some (.array n e)=>IN (P.cellsOf t) (n*P.cellsOf e)&&S.contains e
 |_=>false
variable {enc:TypeId×Value→H} {P:Program} {w:World} {base:Nat} {spare:Nat→Bool} {held:Bool}
theorem Nl{α β:Type}{f:α→Option β}:∀ {l:List α} {r:List β},l.mapM f=some r→sf (λa b=>f a=some b) l r
 |[],r,h=>by simp at h;subst h;trivial
 |a::l,r,h=>by
  rw[List.mapM_cons]at h;cases ha:f a with
  |none=>simp[ha]at h
  |some b=>
   cases hl:l.mapM f with
   |none=>simp[ha,hl]at h
   |some bs=>simp[ha,hl]at h;subst h;exact⟨ha,Nl hl⟩
def HF(enc:TypeId×Value→H)(P:Program)(w:World)(base:Nat)(spare:Nat→Bool)(held:Bool)(fuel:Nat)(t:TypeId)(cs:List Value)(d:DataW H):Prop:=∃ps,zCW enc P w base spare held fuel t cs=some (d,ps)
def yJ(enc:TypeId×Value→H)(P:Program)(w:World)(base:Nat)(spare:Nat→Bool)(held:Bool)(fuel:Nat)(t:TypeId):Prop:=
 ∀cs d,HF enc P w base spare held fuel t cs d→cs.length=P.cellsOf t∧∃xs,DL (λb=>w.heap[b]?) xs cs∧Typed P fuel t xs d
theorem SH{a:Addr}{v:Value}(h:w.cell? a=some v):a.spot=none∧iL (λb=>w.heap[b]?) a.block a.off=some v:=by
 unfold World.cell? at h;show _∧(match w.heap[a.block]? with
  |some (.cells c _ _)=>c[a.off]?
  | _=>none)=some v
 cases hb:w.heap[a.block]? with
 |none=>rw[hb]at h;cases h
 |some o=>
  rw[hb]at h;cases o with
  |cells c t fr=>
   simp only at h;split at h
   ·cases h
   ·rename_i hs;exact⟨by simpa using hs,h⟩
  |_=>cases h
theorem XbY(a:Addr)(n:Nat):(a.add n).block=a.block:=by unfold zDz;split<;>rfl
theorem Zc4(a:Addr)(n:Nat):(a.add n).off=a.off+n:=by unfold zDz;split<;>simp_all
theorem Ybh{fuel:Nat}{cs:List Value}:∀ {fs:List Field} {o n:Nat} {xs:List (DataW H×List MemPlace)},pN P o fs=some n→n<=cs.length→(∀f∈fs,yJ enc P w base spare held fuel f.type) →
  sf (λ(f:Field) y=>zCW enc P w base spare held fuel f.type ((cs.drop f.offset).take (P.cellsOf f.type))=some y) fs xs→o<=n ∧
  ∃parts,DL (λb=>w.heap[b]?) parts.flatten ((cs.take n).drop o)∧yS (Typed P fuel) (fs.map (·.type)) parts (xs.map (·.1))
 |[],o,n,xs,ht,hn,hf,h=>by
  simp only[pN,zBl]at ht;subst ht
  match xs,h with
  |[],_=>
   refine⟨IT _,[],?_,trivial⟩;have:(cs.take o).drop o=[]:=by simp
   rw[this];exact DL.nil
 |f::fs,o,n,xs,ht,hn,hf,h=>by
  simp only[pN]at ht;cases hb:IN f.offset o with
  |false=>rw[hb]at ht;cases ht
  |true=>
   rw[hb]at ht;have ho:=fV hb;obtain⟨y,ys,rfl,h1,h2⟩:=h.cons;obtain⟨hle,parts,hd,h3⟩:=Ybh ht hn (λg hg=>hf g (zAn _ hg)) h2;obtain⟨hl,p,hp,hy⟩:=hf f (zBO ..) _ _ ⟨y.2,h1⟩;refine⟨by omega,p::parts,?_,hy,h3⟩;have e:(cs.take n).drop o=(cs.drop f.offset).take (P.cellsOf f.type)++(cs.take n).drop (o+P.cellsOf f.type):=by
    have e1:(cs.take n).drop o=((cs.take n).drop o).take (P.cellsOf f.type)++((cs.take n).drop o).drop (P.cellsOf f.type):=(zCh _ _).symm;rw[e1,List.drop_drop,ho]
    congr 1
    rw[List.drop_take,List.take_take]
    congr 1
    omega
   rw[zEC,e];exact hp.append hd
theorem ZbD{fuel:Nat}{e:TypeId}{cs:List Value}(hf:yJ enc P w base spare held fuel e):∀ {n o:Nat} {xs:List (DataW H×List MemPlace)},(o+n)*P.cellsOf e<=cs.length →
  sf (λ(i:Nat) y=>zCW enc P w base spare held fuel e ((cs.drop (i*P.cellsOf e)).take (P.cellsOf e))=some y) (zBG o n) xs →
  ∃parts,DL (λb=>w.heap[b]?) parts.flatten ((cs.take ((o+n)*P.cellsOf e)).drop (o*P.cellsOf e))∧parts.length=n∧sf (Typed P fuel e) parts (xs.map (·.1))
 |0,o,xs,hn,h=>by
  match xs,h with
  |[],_=>
   refine⟨[],?_,rfl,trivial⟩;have:(cs.take ((o+0)*P.cellsOf e)).drop (o*P.cellsOf e)=[]:=by simp
   rw[this];exact DL.nil
 |n+1,o,xs,hn,h=>by
  rw[zDF]at h;obtain⟨y,ys,rfl,h1,h2⟩:=h.cons;have jJ:(o+1+n)*P.cellsOf e<=cs.length:=by rw[show o+1+n=o+(n+1) by omega];exact hn
  obtain⟨parts,hd,h3,h4⟩:=ZbD hf jJ h2;obtain⟨hl,p,hp,hy⟩:=hf _ _ ⟨y.2,h1⟩;refine⟨p::parts,?_,by simp[h3],hy,h4⟩;have hs:(o+1)*P.cellsOf e=o*P.cellsOf e+P.cellsOf e:=by rw[zBX,Nat.one_mul]
  have hm:(o+1)*P.cellsOf e<=(o+(n+1))*P.cellsOf e:=zAE _ (by omega);have e1:(cs.take ((o+(n+1))*P.cellsOf e)).drop (o*P.cellsOf e)=(cs.drop (o*P.cellsOf e)).take (P.cellsOf e)++(cs.take ((o+1+n)*P.cellsOf e)).drop ((o+1)*P.cellsOf e):=by
   rw[show o+1+n=o+(n+1) by omega,hs];have e2:(cs.take ((o+(n+1))*P.cellsOf e)).drop (o*P.cellsOf e)=((cs.take ((o+(n+1))*P.cellsOf e)).drop (o*P.cellsOf e)).take (P.cellsOf e)++((cs.take ((o+(n+1))*P.cellsOf e)).drop (o*P.cellsOf e)).drop (P.cellsOf e):=(zCh _ _).symm;rw[e2,List.drop_drop]
   congr 1
   rw[List.drop_take,List.take_take]
   congr 1
   omega
  rw[zEC,e1];exact hp.append hd
theorem WL{fuel:Nat}{e:TypeId}{a:Addr}(hf:yJ enc P w base spare held fuel e)(qd:0<P.cellsOf e):∀ {n o:Nat} {xs:List (DataW H×List MemPlace)},
  sf (λ(i:Nat) y=>(w.cells? base (a.add (i*P.cellsOf e)) (P.cellsOf e)).bind (zCW enc P w base spare held fuel e)=some y) (zBG o n) xs →
  ∃(rows:List (List aa)) (f:Nat→Nat→Value),rows.length=n∧sf (Typed P fuel e) rows (xs.map (·.1))∧(n≠0→o=0→a.spot=none)∧(∀(i:Nat) (row:List aa),rows[i]?=some row→row.length=P.cellsOf e) ∧
   (∀i j,i<n→j<P.cellsOf e→iL (λb=>w.heap[b]?) a.block (a.off+((o+i)*P.cellsOf e+j))=some (f i j))∧(∀(i:Nat) (row:List aa) (j:Nat) (x:aa),rows[i]?=some row→row[j]?=some x→Den (λb=>w.heap[b]?) bA x (f i j))
 |0,o,xs,h=>by
  match xs,h with
  |[],_=>exact⟨[],λ_ _=>undef,rfl,trivial,λh _=>(h rfl).elim,by simp,by intro i j hi;omega,by simp⟩
 |n+1,o,xs,h=>by
  rw[zDF]at h;obtain⟨y,ys,rfl,h1,h2⟩:=h.cons;obtain⟨rows,f,q1,q2,q3,q4,q5,q6⟩:=WL hf qd h2;obtain⟨cs,hc,hy⟩:=zDO.1 h1;obtain⟨_,hl,oz⟩:=World.cells?_some hc;obtain⟨_,xs0,hd,O3⟩:=hf cs y.1 ⟨y.2,hy⟩;have qz:∀j,j<P.cellsOf e→∃v,cs[j]?=some v∧iL (λb=>w.heap[b]?) a.block (a.off+o*P.cellsOf e+j)=some v:=by
   intro j hj;obtain⟨v,hv⟩:∃v,cs[j]?=some v:=⟨cs[j]'(by omega),by simp[show j<cs.length by omega]⟩;have:=oz j hj;rw[hv]at this;obtain⟨m1,m2⟩:=SH this;rw[XbY,XbY,Zc4,Zc4]at m2;exact⟨v,hv,m2⟩
  refine⟨xs0::rows,λi j=>match i with|0=>(cs[j]?).getD undef|i+1=>f i j,by simp[q1],⟨O3,q2⟩,λ_ ho=>?_,?_,?_,?_⟩
  ·have:=oz 0 qd;rw[show cs[0]?=some (cs[0]'(by omega)) by simp[show 0<cs.length by omega]]at this;have:=(SH this).1;subst ho;simpa[zDz]using this
  ·intro i row hr;cases i with
   |zero=>simp at hr;subst hr;rw[hd.1,hl]
   |succ i=>exact q4 i row (by simpa using hr)
  ·intro i j hi hj;cases i with
   |zero=>
    obtain⟨v,e1,e2⟩:=qz j hj;simp only[e1,zAo,zBj];rw[←Nat.add_assoc];exact e2
   |succ i=>
    have:=q5 i j (by omega) hj;rw[show o+(i+1)=o+1+i by omega];exact this
  ·intro i row j x hr hx;cases i with
   |zero=>
    simp at hr;subst hr;have hj:j<cs.length:=by rw[←hd.1];exact(gK hx).1
    have hv:cs[j]?=some cs[j]:=by simp[hj]
    simp only[hv,zAo];exact hd.2 j x _ hx hv
   |succ i=>exact q6 i row j x (by simpa using hr) hx
theorem NT{S:List TypeId}(hS:S.all (AA P S)=true):∀(fuel:Nat) (t:TypeId),t∈S→yJ enc P w base spare held fuel t
 |0,t,_=>by
  rintro cs d ⟨ps,h⟩;simp[zCW]at h
 |fuel+1,t,ht=>by
  rintro cs d ⟨ps,h⟩;have bQ:=zAj.1 hS t ht;have ih:=λt ht=>NT hS fuel t ht;unfold AA at bQ;unfold zCW at h;split at h
  case h_1=>
   rename_i hu;rw[hu]at bQ;cases h;exact⟨(fV bQ).symm,_,DL.one (.bool _ _),by unfold Typed;rw[hu];exact⟨_,rfl,rfl⟩⟩
  case h_2=>
   rename_i hu;rw[hu]at bQ;split at h
   ·rename_i hk;obtain⟨rfl,hw⟩:=hk;cases h;exact⟨(fV bQ).symm,_,DL.one (.int _ _ _),by unfold Typed;rw[hu];exact⟨_,rfl,hw,rfl⟩⟩
   ·cases h
  case h_4=>
   rename_i hu;rw[hu]at bQ;split at h
   ·cases h;exact⟨(fV bQ).symm,_,DL.one (.str _ _),by unfold Typed;rw[hu];exact⟨_,rfl,rfl⟩⟩
   ·cases h
  case h_7=>
   rename_i e hu;rw[hu]at bQ;simp only[AI]at bQ;cases h;refine⟨(fV bQ.1).symm,_,DL.one (Den.e_ (P.cellsOf e) (.an _)),?_⟩;unfold Typed;rw[hu];exact⟨[],rfl,.inl ⟨rfl,rfl⟩⟩
  case h_8=>
   rename_i e a len cap hu;rw[hu]at bQ;simp only[AI]at bQ;obtain⟨k1,k2,k3⟩:=bQ;have qd:0<P.cellsOf e:=ik k2;simp only at h;split at h
   ·rename_i hc;obtain⟨bS,he,h⟩:=zDO.1 h;obtain⟨rest,hr,h⟩:=zBg.1 h;cases h;rw[zDk]at he;obtain⟨rows,f,q1,q2,q3,q4,q5,q6⟩:=WL (ih e (zBZ.1 k3)) qd (Nl he);refine⟨(fV k1).symm,[.aU false false (P.cellsOf e) rows],DL.one ?_,?_⟩
    ·rw[←q1];refine .aU _ false false (P.cellsOf e) rows (some a) cap a.block a.off f (λh=>by cases h) (λh=>by cases h) (λcO=>?_) (λh=>by cases h) (by rw[q1];exact hc.2.1) q4 (λi j hi hj=>?_) q6
     ·have hn:len≠0:=λe=>cO (List.length_eq_zero_iff.1 (q1.trans e));have:=q3 hn rfl;cases a;simp at this;subst this;rfl
     ·have:=q5 i j (by omega) hj;rw[No]at this;exact this
    ·unfold Typed;rw[hu];exact⟨rows,rfl,.inr ⟨_,_,rfl,q2⟩⟩
   ·cases h
  case h_9=>
   rename_i fs hu;rw[hu]at bQ;simp only[AI]at bQ;obtain⟨k1,k2⟩:=bQ;split at h
   ·rename_i hl;obtain⟨xs,hx,h⟩:=zBg.1 h;cases h;cases ht:pN P 0 fs.toList with
    |none=>rw[ht]at k1;cases k1
    |some n=>
     rw[ht]at k1;have hn:=fV k1;obtain⟨_,parts,hd,h3⟩:=Ybh ht (by omega) (λg hg=>ih _ (zBZ.1 (zAj.1 k2 g hg))) (Nl hx);refine⟨hl,parts.flatten,?_,?_⟩
     ·rw[zDW,zAs (by omega)]at hd;exact hd
     ·unfold Typed;rw[hu];exact⟨parts,_,rfl,rfl,h3⟩
   ·cases h
  case h_10=>
   rename_i n e hu;rw[hu]at bQ;simp only[AI]at bQ;obtain⟨k1,k2⟩:=bQ;have hn:=fV k1;split at h
   ·rename_i hl;obtain⟨xs,hx,h⟩:=zBg.1 h;cases h;rw[zDk]at hx;obtain⟨parts,hd,h3,h4⟩:=ZbD (ih e (zBZ.1 k2)) (o:=0) (n:=n) (by rw[No];omega) (Nl hx);refine⟨hl,parts.flatten,?_,?_⟩
    ·rw[Nat.zero_mul,zDW,No,zAs (by omega)]at hd;exact hd
    ·unfold Typed;rw[hu];exact⟨parts,_,rfl,rfl,h3,h4⟩
   ·cases h
  all_goals first|(rename_i hu;rw[hu]at bQ;exact absurd (show false=true from bQ) (by decide))|cases h
end
end Go.Ah
end
