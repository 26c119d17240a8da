/- Part of the proof that WakeDawns holds of the program for arguments that together hold at most 1048576 values and letters; no other condition. -/
import Derived.Test.YtiplhedaicikiaaGreatDoorZ1
import Derived.Orders
import Derived.DataReads
import Derived.ChangeShapes
set_option linter.all false
open Array renaming getD_eq_getD_getElem?->zBU,getElem?_eq_getElem->zBF,getElem?_replicate->zBo,getElem?_setIfInBounds_ne->zBb,getElem?_toList->zBO,getElem_extract->zBx,replicate->zBp,toArray_toList->zCB,toList_map->zBn
open Bool renaming and_eq_true->AI,eq_iff_iff->zAo,false_eq_true->zAW,not_eq_true'->zAg,or_eq_true->zBS
open Classical renaming choose->zCs
open Go renaming Frame->zDD
open Go.Addr renaming add->zDz
open Go.Builtin renaming append_->zBG,lenOf->zCK,zeroCells->zAy
open Go.DataW renaming trod->zCW
open Go.Deferred renaming ofValue->zCl
open Go.Ending renaming returned->zCV
open Go.Instr renaming missingMethod->zDm,slice->zDE,sliceAt->zDY,sliceBounds->zAQ
open Go.Region renaming ready->zBk
open Go.Result renaming andThen_ok->AS
open Go.Sem renaming run_bind->OF,run_pure->zAA
open Go.Utf8 renaming decode->zBc
open Go.Value renaming iface->zBz
open Int renaming natCast_nonneg->zAj,ofNat_le->zBV,ofNat_lt->zDh
open List renaming all_eq_true->zAm,append_assoc->zAb,contains_iff_mem->zBZ,drop_zero->zDW,flatten_cons->zEC,getD_eq_getElem?_getD->zDN,getElem?_append_left->zAU,getElem?_append_right->zAO,getElem?_map->zAT,length->zCo,length_append->By,length_map->zAM,length_singleton->zBa,map_cons->zAN,mem_append->zAF,mem_cons->zAS,mem_cons_of_mem->zAr,mem_cons_self->zBP,mem_filterMap->zCG,mem_map->zAh,mem_of_getElem?->zAI,mem_range->zBD,nil_append->zAL,range->zAB,range'->zBI,range'_succ->zDG,range_eq_range'->zDk,replicate->zAf,take_append_drop->zCh,take_of_length_le->zAv
open Nat renaming add_comm->zDu,add_mul->zBX,add_zero->zBj,beq->IT,beq_refl->zBf,ble->zAR,ble_eq_true_of_le->sh,blt->zAn,le_refl->No,le_zero->zDp,mul_le_mul_right->zAE,strongRecOn->zBu,sub_self->zCp,succ_mul->zBQ,zero_add->IN
open Option renaming bind_eq_some_iff->zDP,getD_some->zAt,isSome_iff_exists->zAC,isSome_none->zDj,map_eq_some_iff->zBh,map_none->zCz,map_some->zCS
open Option.some renaming inj->zBy,injEq->zBl
section
namespace Go.Ah
variable{ex:Bool}
variable{xs z:List aa}
variable{rs:List (List aa)}
variable{b off len n sz by_:Nat}
variable{up:List (Nat×ab)}
variable{x v y:aa}
section
variable {P:Program} {GL:aw}
theorem Zbv(s:List UInt8)(k:IntKind)(i:Int)(h1:0<=i)(h2:i<=s.length)(h0:Hp) :
  aD P GL (.fj true false) [.str s,.int k i] h0 (.str (s.drop i.toNat)) [] []:=by
 intro o os hc w0 L g hp w a r hx _ _;obtain⟨t,x,lo,hi,ho,gz,dO,rfl,hu⟩:=PY hc;obtain⟨lo,rfl⟩:∃z,lo=some z:=zAC.1 gz.symm;obtain rfl:hi=none:=by cases hi<;>first|rfl|cases dO
 obtain⟨d,d2,_⟩:=hx;obtain⟨s',e1,rfl⟩:=yt d;have eN:s'.data.toList.length=s'.size:=by simp
 have bg:(execOp a.eval o).run P w=.ok (.value (.string (s'.extract i.toNat s'.size))) w:=by
  simp only[execOp,ho,e1,zDY,zDE,OF,run_underlying hu,AS,zCS,Xp d2,zCz,zDj,zAW,if_false,zAQ,zAA,Zl k i s'.size _ h1 (by omega)]
 rw[bg];have:s'.data.toList.drop i.toNat=(s'.extract i.toNat s'.size).data.toList:=by
  simp[zAv]
 rw[this];exact Out.here r (.str _ _)
theorem Qbu(s:List UInt8)(k:IntKind)(i:Int)(h1:0<=i)(h2:i<=s.length)(h0:Hp) :
  aD P GL (.fj false true) [.str s,.int k i] h0 (.str (s.take i.toNat)) [] []:=by
 intro o os hc w0 L g hp w a r hx _ _;obtain⟨t,x,lo,hi,ho,gz,dO,rfl,hu⟩:=PY hc;obtain rfl:lo=none:=by cases lo<;>first|rfl|cases gz
 obtain⟨hi,rfl⟩:∃z,hi=some z:=zAC.1 dO.symm;obtain⟨d,d2,_⟩:=hx;obtain⟨s',e1,rfl⟩:=yt d;have eN:s'.data.toList.length=s'.size:=by simp
 have bg:(execOp a.eval o).run P w=.ok (.value (.string (s'.extract 0 i.toNat))) w:=by
  simp only[execOp,ho,e1,zDY,zDE,OF,run_underlying hu,AS,zCS,Xp d2,zCz,zDj,zAW,if_false,zAQ,zAA,Zl k i s'.size _ h1 (by omega)]
 rw[bg];have:s'.data.toList.take i.toNat=(s'.extract 0 i.toNat).data.toList:=by
  simp
 rw[this];exact Out.here r (.str _ _)
theorem Xax(n by_:Nat)(z:List aa)(x y:aa)(rd:List Nat)(h0:Hp)(sS:x=.al∨x=.cY∨(∃b o l e,x=.sl b o l e)∨∃e nn sz rows,x=.aW e nn sz rows)(sT:fG h0 n y [] rd) :
  aD P GL (.append n by_ z) [x,y] h0 x rd []:=by
 intro o os hc w0 L g h w a r hx cO _;generalize ho:o.op=op at hc;cases hc with
 |append t t' e ox oy _ _ v _ ht Al eN sM hz sa dN lF kS=>
  obtain⟨d,hd,pU⟩:=Al;obtain⟨d1,d2,_⟩:=hx;generalize j6:a.eval ox=u1 at d1;generalize qx:a.eval oy=u2 at d2;obtain⟨p1,o7,nD,e1,hle⟩:∃p len cap,u1=.slice p len cap∧len<=cap:=by
   rcases sS with rfl|rfl|⟨b,o',l,e',rfl⟩|⟨e',nn,sz,rows,rfl⟩
   ·cases d1;exact⟨_,_,_,rfl,No _⟩
   ·cases d1;exact⟨_,_,_,rfl,No _⟩
   ·cases d1<;>grind
   grind [Hh]
  subst e1;obtain⟨p2,zG,newv,e2,f2,qH,_⟩:=ZL (P:=P) r sT cO d2;have fJ:(zCK u2).run P w=.ok 0 w:=by rw[e2];rfl
  have Af:newv.toList=[]:=by have:=qH.1;simp at this;simp[this]
  have bg:(zBG #[t,t'] o.type #[.slice p1 o7 nD,u2]).run P w=.ok (.slice p1 o7 nD) w:=by
   obtain⟨k1,k2⟩:=(QI ht hd pU eN sM hz lF (base:=p1) (len:=o7) (cap:=nD) (newv:=newv) fJ o.type).1 (by simpa using hle) f2;cases p1 with
   |none=>exact k1 rfl
   |some ad=>exact k2 ad w rfl (by rw[Af];rfl)
  rw[XI ho j6 qx bg];exact Out.here r d1
theorem aD.dP{k:MK}{x':aa}{h0:Hp}{rd:List Nat}(hw:∀(g:Gm) (u:Value),g.den x u→g.den x' u)(h:aD P GL k (x'::xs) h0 v rd up):aD P GL k (x::xs) h0 v rd up:=by
 intro o os hc w0 L g hp w a r hx cO eo;refine h o os hc w0 L g hp w a r ?_ cO eo;generalize os.map a.eval=vs at hx;cases vs with
 |nil=>exact hx
 |cons v vs=>exact⟨hw g v hx.1,hx.2⟩
theorem Qc2(x y:aa)(h0:Hp):aD P GL .pick [.bool true,x,y] h0 x [] []:=by
 intro o os hc w0 L g h w a r hx _ _;generalize ho:o.op=op at hc;cases hc with
 |pick oc oa ob=>
  obtain⟨d1,d2,d3,_⟩:=hx;have e1:=YE d1;simp_all [execOp,asBool,Out.here]
theorem Zc3(x y:aa)(h0:Hp):aD P GL .pick [.bool false,x,y] h0 y [] []:=by
 intro o os hc w0 L g h w a r hx _ _;generalize ho:o.op=op at hc;cases hc with
 |pick oc oa ob=>
  obtain⟨d1,d2,d3,_⟩:=hx;have e1:=YE d1;simp_all [execOp,asBool,Out.here]
variable{g:Gm}
theorem XW{cb:CB}{p:Option Addr}{LJ cap:Nat}(ec:g.c b=some cb)(d:g.den (.sl b off len ex) (.slice p LJ cap)) :
  LJ=len∧len<=cap∧(ex=true→cap=len)∧∀ {l h:Nat},l<=h→h<=cap→∀vD:Bool,(vD=true→cap=h)→(l<h∨(l=0)) →
   g.den (.sl b (off+l) (h-l) vD) (.slice (if cap=l then p else p.map (·.add (l*cb.sz))) (h-l) (cap-l)):=by
 cases d with
 |pg _ _ _ eP _ gX hv=>
  rw[ec]at gX;cases gX;refine⟨rfl,No _,λ_=>rfl,λ{l h} hl hh vD hex hs=>?_⟩;have:h=0:=by omega
  subst this;have:l=0:=by omega
  subst this;exact .pg _ _ _ cb _ ec hv
 |sle _ _ _ _ eP _ gX hv h1 h2=>
  rw[ec]at gX;cases gX;refine⟨rfl,No _,λ_=>rfl,λ{l h} hl hh vD hex hs=>?_⟩;have:h=0:=by omega
  subst this;have:l=0:=by omega
  subst this;exact .sle _ _ _ _ cb _ ec hv h1 h2
 |sl _ _ _ _ _ eP _ gX hv h1 h2 h3=>
  rw[ec]at gX;cases gX;refine⟨rfl,h1,h3,λ{l h} hl hh vD hex hs=>?_⟩;have wG:(if cap=l then some (⟨cb.blk,cb.base+off*cb.sz,none⟩:Addr)else (some (⟨cb.blk,cb.base+off*cb.sz,none⟩:Addr)).map (·.add (l*cb.sz)))=some ⟨cb.blk,cb.base+(off+l)*cb.sz,none⟩:=by
   grind [ZW]
  rw[wG];refine .sl _ _ _ _ _ cb _ ec hv (by omega) ?_ (λe=>by rw[hex e])
  grind
theorem Zdx{w0:World}{L:Ln}{h:Hp}{w:World}(r:bx GL w0 L g h w){cap:Nat}{p:Option Addr}(hb:h b=some (.rows n rs))(kS:n≠0)(d:g.den (.sl b off len ex) (.slice p len cap)):rs.length<=off+cap:=by
 cases d with
 |pg _ _ _ cb p ec hv=>have:=(r.h_ hb ec hv).2;subst this;simp
 |sle _ _ _ _ cb p ec hv h1 h2=>exact NZ (off:=off) (cap:=0) r hb kS ec hv (by simpa using h2)
 |sl _ _ _ _ _ cb cap ec hv h1 h2 h3=>exact NZ r hb kS ec hv h2
theorem GI{v:Value}(d:g.den (.sl b off len ex) v):∃cb p cap,g.c b=some cb∧v=.slice p len cap∧(p=none→cap=0):=by
 cases d<;>grind
theorem O3{w0:World}{L:Ln}{h:Hp}{w:World}(r:bx GL w0 L g h w){cb:CB}(hb:h b=some (.rows sz rs))(ec:g.c b=some cb):cb.sz=sz:=by
 cases hv:cb.cR with
 |true=>have:=r.bn b _ cb hb rfl ec hv;cases this;rfl
 |false=>exact(r.fT hb ec hv).1
theorem Ya8(ex:Bool)(sz b off len:Nat)(rs:List (List aa))(k:IntKind)(i:Int)(h1:0<=i)(h2:i<len)(h0:Hp)(hb:h0 b=some (.rows sz rs)) :
  aD P GL (.cQ sz true false false) [.sl b off len ex,.int k i] h0 (.sl b (off+i.toNat) (len-i.toNat) ex) [b] []:=by
 intro o os hc w0 L g hp w a r hx cO _;obtain⟨t,x,lo,hi,mx,e,ho,gz,dO,mm,rfl,hu,hn⟩:=Yw hc;obtain⟨lo,rfl⟩:∃z,lo=some z:=zAC.1 gz.symm;obtain rfl:hi=none:=by cases hi<;>first|rfl|cases dO
 obtain rfl:mx=none:=by cases mx<;>first|rfl|cases mm
 obtain⟨d,d2,_⟩:=hx;obtain⟨cb,p,cap,ec,hv,_⟩:=GI d;have eN:=O3 r ((cO b (by simp)).trans hb) ec;rw[hv]at d;obtain⟨_,vG,kX,u_⟩:=XW ec d;have hb:(zAQ true len cap (some (.int k i)) none none).run P w=.ok (i.toNat,len,cap) w:=by
  grind [zAQ,OF,zAA,AS,Zl]
 grind [ZA,Xp,Out.here]
theorem Za1(ex:Bool)(sz b off len:Nat)(k:IntKind)(i:Int)(h1:i=len)(h0:Hp) :
  aD P GL (.cQ sz true false false) [.sl b off len ex,.int k i] h0 (.aW false (zAn 0 len) sz []) [] []:=by
 intro o os hc w0 L g hp w a r hx cO _;obtain⟨t,x,lo,hi,mx,e,ho,gz,dO,mm,rfl,hu,hn⟩:=Yw hc;obtain⟨lo,rfl⟩:∃z,lo=some z:=zAC.1 gz.symm;obtain rfl:hi=none:=by cases hi<;>first|rfl|cases dO
 obtain rfl:mx=none:=by cases mx<;>first|rfl|cases mm
 obtain⟨d,d2,_⟩:=hx;obtain⟨cb,p,cap,ec,hv,ll⟩:=GI d;rw[hv]at d;have oW:zAn 0 len=true→p.isSome=true:=by
  intro e;generalize hq:(Value.slice p len cap)=q at d;cases d with
  |sl=>cases hq;rfl
  |pg=>cases hq;cases e
  |sle=>cases hq;cases e
 obtain⟨_,vG,kX,_⟩:=XW ec d;have hb:(zAQ true len cap (some (.int k i)) none none).run P w=.ok (i.toNat,len,cap) w:=by
  grind [zAQ,OF,zAA,AS,Zl]
 rw[ZA ho hu hn hv (l:=i.toNat) (h:=len) (m:=cap) (by simpa[Xp d2]using hb)];refine Out.here r ?_;rw[show len-i.toNat=([]:List (List aa)).length by simp;omega];refine .aW _ _ _ _ [] _ _ 0 0 (λ_ _=>undef) (by simp) (λe=>by have:=oW e;split<;>simp[this]) (by simp) (λe=>?_) (by simp) (by simp) (by simp) (by simp);split at e
 ·omega
 ·simp at e;have:=ll e;omega
theorem YaV(ex:Bool)(sz b off len:Nat)(rs:List (List aa))(k:IntKind)(i:Int)(h1:i=len)(hz:sz≠0)(h0:Hp)(hb:h0 b=some (.rows sz rs)) :
  aD P GL (.cQ sz true false false) [.sl b off len ex,.int k i] h0 (.sl b (off+len) 0 ex) [b] []:=by
 intro o os hc w0 L g hp w a r hx cO _;obtain⟨t,x,lo,hi,mx,e,ho,gz,dO,mm,rfl,hu,hn⟩:=Yw hc;obtain⟨lo,rfl⟩:∃z,lo=some z:=zAC.1 gz.symm;obtain rfl:hi=none:=by cases hi<;>first|rfl|cases dO
 obtain rfl:mx=none:=by cases mx<;>first|rfl|cases mm
 obtain⟨d,d2,_⟩:=hx;obtain⟨cb,p,cap,ec,hv,_⟩:=GI d;have eN:=O3 r ((cO b (by simp)).trans hb) ec;rw[hv]at d;obtain⟨_,vG,kX,_⟩:=XW ec d;have Di:(zAQ true len cap (some (.int k i)) none none).run P w=.ok (i.toNat,len,cap) w:=by
  grind [zAQ,OF,zAA,AS,Zl]
 rw[ZA ho hu hn hv (l:=i.toNat) (h:=len) (m:=cap) (by simpa[Xp d2]using Di)];have hi:i.toNat=len:=by omega
 rw[hi,←eN];refine Out.here r ?_;rw[zCp];generalize hq:(Value.slice p len cap)=q at d;cases d with
 |pg _ _ _ eP _ gX Lr=>
  cases hq<;>grind
 |sle _ _ _ _ eP _ gX Lr g1 g2=>
  cases hq<;>grind
 |sl _ _ _ _ _ eP _ gX Lr g1 g2 g9993=>
  rw[ec]at gX;cases gX;cases hq;by_cases pD:cap=len
  ·subst pD;rw[aI rfl,zCp];exact .sle _ _ _ _ cb _ ec Lr (by rw[eN];exact hz) g2
  ·rw[aB pD];have:=Den.sl (M:=g.M) g.c b (off+len) 0 ex cb (cap-len) ec Lr (Nat.zero_le _) (by grind) (λe=>absurd (g9993 e) pD);show Den g.M g.c _ _
   grind [ZW]
theorem Qa0(sz:Nat)(k:IntKind)(h0:Hp):aD P GL (.cQ sz true false false) [.al,.int k 0] h0 .al [] []:=by
 intro o os hc w0 L g hp w a r hx cO _;obtain⟨t,x,lo,hi,mx,e,ho,gz,dO,mm,rfl,hu,hn⟩:=Yw hc;obtain⟨lo,rfl⟩:∃z,lo=some z:=zAC.1 gz.symm;obtain rfl:hi=none:=by cases hi<;>first|rfl|cases dO
 obtain rfl:mx=none:=by cases mx<;>first|rfl|cases mm
 obtain⟨d,d2,_⟩:=hx;have hv:a.eval x=.slice none 0 0:=by
  generalize a.eval x=u at d;cases d;rfl
 have hb:(zAQ true 0 0 (some (.int k 0)) none none).run P w=.ok (0,0,0) w:=by
  rfl
 rw[ZA ho hu hn hv (l:=0) (h:=0) (m:=0) (by simpa[Xp d2]using hb)];exact Out.here r (.al _)
theorem Xa0(sz:Nat)(k:IntKind)(h0:Hp):aD P GL (.cQ sz false true false) [.al,.int k 0] h0 .al [] []:=by
 intro o os hc w0 L g hp w a r hx cO _;obtain⟨t,x,lo,hi,mx,e,ho,gz,dO,mm,rfl,hu,hn⟩:=Yw hc;obtain rfl:lo=none:=by cases lo<;>first|rfl|cases gz
 obtain⟨hi,rfl⟩:∃z,hi=some z:=zAC.1 dO.symm;obtain rfl:mx=none:=by cases mx<;>first|rfl|cases mm
 obtain⟨d,d2,_⟩:=hx;have hv:a.eval x=.slice none 0 0:=by
  generalize a.eval x=u at d;cases d;rfl
 have hb:(zAQ true 0 0 none (some (.int k 0)) none).run P w=.ok (0,0,0) w:=by
  rfl
 rw[ZA ho hu hn hv (l:=0) (h:=0) (m:=0) (by simpa[Xp d2]using hb)];exact Out.here r (.al _)
theorem Za8(ex:Bool)(sz b off len:Nat)(rs:List (List aa))(k:IntKind)(i:Int)(h1:0<=i)(h2:i<=len)(h0:Hp)(hb:h0 b=some (.rows sz rs)) :
  aD P GL (.cQ sz false true false) [.sl b off len ex,.int k i] h0 (.sl b off i.toNat false) [b] []:=by
 intro o os hc w0 L g hp w a r hx cO _;obtain⟨t,x,lo,hi,mx,e,ho,gz,dO,mm,rfl,hu,hn⟩:=Yw hc;obtain rfl:lo=none:=by cases lo<;>first|rfl|cases gz
 obtain⟨hi,rfl⟩:∃z,hi=some z:=zAC.1 dO.symm;obtain rfl:mx=none:=by cases mx<;>first|rfl|cases mm
 obtain⟨d,d2,_⟩:=hx;obtain⟨cb,p,cap,ec,hv,_⟩:=GI d;have eN:=O3 r ((cO b (by simp)).trans hb) ec;rw[hv]at d;obtain⟨_,vG,kX,u_⟩:=XW ec d;have hb:(zAQ true len cap none (some (.int k i)) none).run P w=.ok (0,i.toNat,cap) w:=by
  grind [zAQ,OF,zAA,AS,Zl]
 rw[ZA ho hu hn hv (l:=0) (h:=i.toNat) (m:=cap) (by simpa[Xp d2]using hb)];rw[←eN];have:=u_ (l:=0) (h:=i.toNat) (by omega) (by omega) false (by simp) (.inr rfl);exact Out.here r this
theorem ZaV(ex:Bool)(sz b off len:Nat)(rs:List (List aa))(k k':IntKind)(i j:Int)(h1:0<=i)(h2:i<j∨(i=0∧0<=j))(h3:j<=len∨(sz≠0∧off+j.toNat<=rs.length))(h0:Hp)(hb:h0 b=some (.rows sz rs)) :
  aD P GL (.cQ sz true true false) [.sl b off len ex,.int k i,.int k' j] h0 (.sl b (off+i.toNat) (j.toNat-i.toNat) false) [b] []:=by
 intro o os hc w0 L g hp w a r hx cO _;obtain⟨t,x,lo,hi,mx,e,ho,gz,dO,mm,rfl,hu,hn⟩:=Yw hc;obtain⟨lo,rfl⟩:∃z,lo=some z:=zAC.1 gz.symm;obtain⟨hi,rfl⟩:∃z,hi=some z:=zAC.1 dO.symm;obtain rfl:mx=none:=by cases mx<;>first|rfl|cases mm
 obtain⟨d,d2,d3,_⟩:=hx;obtain⟨cb,p,cap,ec,hv,_⟩:=GI d;have eN:=O3 r ((cO b (by simp)).trans hb) ec;rw[hv]at d;obtain⟨_,vG,kX,u_⟩:=XW ec d;have hjc:j<=cap:=by
  rcases h3 with h3|⟨h3,h4⟩
  ·omega
  ·have:=Zdx r ((cO b (by simp)).trans hb) h3 d;omega
 have hb:(zAQ true len cap (some (.int k i)) (some (.int k' j)) none).run P w=.ok (i.toNat,j.toNat,cap) w:=by
  simp only[zAQ,OF,zAA,AS,Zl k' j cap _ (by omega) (by omega),Zl k i j.toNat _ h1 (by omega)]
 rw[ZA ho hu hn hv (l:=i.toNat) (h:=j.toNat) (m:=cap) (by simpa[Xp d2,Xp d3]using hb)]
 grind [Out.here]
theorem Ybv(ex:Bool)(sz b off len:Nat)(k k' VK:IntKind)(i j m:Int)(h1:0<=i)(h2:i<=j)(h3:j<=m)(h4:m<=len)(h0:Hp) :
  aD P GL (.cQ sz true true true) [.sl b off len ex,.int k i,.int k' j,.int VK m] h0 .aQ [] []:=by
 intro o os hc w0 L g hp w a r hx cO _;obtain⟨t,x,lo,hi,mx,e,ho,gz,dO,mm,rfl,hu,hn⟩:=Yw hc;obtain⟨lo,rfl⟩:∃z,lo=some z:=zAC.1 gz.symm;obtain⟨hi,rfl⟩:∃z,hi=some z:=zAC.1 dO.symm;obtain⟨mx,rfl⟩:∃z,mx=some z:=zAC.1 mm.symm;obtain⟨d,d2,d3,d4,_⟩:=hx;obtain⟨cb,p,cap,ec,hv,_⟩:=GI d;rw[hv]at d;obtain⟨_,vG,kX,u_⟩:=XW ec d;have hb:(zAQ true len cap (some (.int k i)) (some (.int k' j)) (some (.int VK m))).run P w=.ok (i.toNat,j.toNat,m.toNat) w:=by
  simp only[zAQ,OF,zAA,AS,Zl VK m cap _ (by omega) (by omega),Zl k' j m.toNat _ (by omega) (by omega),Zl k i j.toNat _ h1 (by omega)]
 rw[ZA ho hu hn hv (l:=i.toNat) (h:=j.toNat) (m:=m.toNat) (by grind [Xp])];exact Out.here r (.aQ _ _)
theorem ZbB(sz:Nat)(x:aa)(sS:x=.al∨x=.cY∨(∃b o l e,x=.sl b o l e)∨∃e nn s rows,x=.aW e nn s rows)(k k':IntKind)(h0:Hp) :
  aD P GL (.cQ sz false true true) [x,.int k 0,.int k' 0] h0 .cY [] []:=by
 intro o os hc w0 L g hp w a r hx cO _;obtain⟨t,y,lo,hi,mx,e,ho,gz,dO,mm,rfl,hu,hn⟩:=Yw hc;obtain rfl:lo=none:=by cases lo<;>first|rfl|cases gz
 obtain⟨hi,rfl⟩:∃z,hi=some z:=zAC.1 dO.symm;obtain⟨mx,rfl⟩:∃z,mx=some z:=zAC.1 mm.symm;obtain⟨d,d2,d3,_⟩:=hx;have Py:∃p len cap,a.eval y=.slice p len cap:=by
  generalize j6:a.eval y=u1 at d;rcases sS with rfl|rfl|⟨_,_,_,_,rfl⟩|⟨_,_,_,_,rfl⟩
  ·cases d;exact⟨_,_,_,rfl⟩
  ·cases d;exact⟨_,_,_,rfl⟩
  ·cases d<;>exact⟨_,_,_,rfl⟩
  ·cases d;exact⟨_,_,_,rfl⟩
 obtain⟨p,len,cap,hv⟩:=Py;have hb:(zAQ true len cap none (some (.int k 0)) (some (.int k' 0))).run P w=.ok (0,0,0) w:=by
  rfl
 rw[ZA ho hu hn hv (l:=0) (h:=0) (m:=0) (by simpa[Xp d2,Xp d3]using hb)];exact Out.here r (.cY _ _)
end
variable{α:Type}
theorem QF{b:Bool}{x:Option α}{v:α}(h:(bif b then x else none)=some v):b=true∧x=some v:=by
 grind
theorem QQ{b:Bool}{x y v:α}(h:(bif b then x else y)=v):(b=true∧x=v)∨(b=false∧y=v):=by
 grind
def zw:Bool→aa→Bool
 |true,.str _=>true
 |false,.int _ _=>true
 |_,_=>false
theorem YbI{s:Bool}{k:aa}(h:zw s k=true):lY s k:=by
 cases s<;>cases k<;>simp_all [zw,lY]
def aV:List (List aa)→Bool
 |[]=>true
 |r::rs=>r.all aa.cell&&aV rs
theorem QX:∀ {rs:List (List aa)},aV rs=true→∀row∈rs,∀x∈row,aa.cell x=true
 |[],_,_,hm,_,_=>by cases hm
 |r::rs,h,row,hm,x,hx=>by
  simp only[aV,AI]at h;cases hm with
  |head=>exact zAm.1 h.1 x hx
  |tail _ hm=>exact QX h.2 row hm x hx
def Zk(sz:Nat)(σ:List ab):aa→Option (List (List aa)×List Nat)
 |.aW _ _ s rows=>bif IT s sz then some (rows,[])else none
 |.al=>some ([],[])
 |.cY=>some ([],[])
 |.sl b off len _=>match ai σ b with
  |.rows s rs=>bif IT s sz&&zAR (off+len) rs.length then some (cut off (off+len) rs,[b])else none
  |_=>none
 |_=>none
variable{σ:List ab}
theorem YT{ys:List (List aa)}{rd:List Nat}(h:Zk sz σ y=some (ys,rd)):fG (hp σ) sz y ys rd:=by
 unfold Zk at h;split at h
 ·replace h:=QF h;obtain⟨hb,h⟩:=h
  have:=fY hb;subst this;cases h;exact .row _ _ _
 ·cases h;exact .al
 ·cases h;exact .cY
 ·split at h
  ·rename_i hg
   replace h:=QF h;obtain⟨hb,h⟩:=h
   simp only[AI]at hb;have:=fY hb.1;subst this;cases h;exact .own _ _ _ _ _ (X8 hg (by simp)) (iy hb.2)
  ·cases h
 ·cases h
def yA:aa→aa
 |.aW true _ _ []=>.cY
 |x=>x
theorem XY(x:aa)(g:Gm)(u:Value)(d:g.den x u):g.den (yA x) u:=by
 unfold yA;split
 ·obtain⟨p,cap,q1,_,q3⟩:=Hh d;have:=q3 rfl;rw[q1,this];exact .cY _ _
 ·exact d
def Jd:aa→Bool
 |.al=>true
 |.cY=>true
 |.sl ..=>true
 |.aW ..=>true
 |_=>false
theorem PV(h:Jd x=true):x=.al∨x=.cY∨(∃b o l e,x=.sl b o l e)∨∃e nn sz rows,x=.aW e nn sz rows:=by
 cases x<;>simp_all [Jd]
def mapOf(σ:List ab):aa→Option (List (aa×aa)×List Nat)
 |.map b=>match ai σ b with
  |.map es=>some (es,[b])
  |_=>none
 |.fN es=>some (es,[])
 |.cW=>some ([],[])
 |_=>none
theorem QdV{m:aa}{es:List (aa×aa)}{rd:List Nat}(h:mapOf σ m=some (es,rd)):rj (hp σ) m es rd:=by
 unfold mapOf at h;split at h
 ·split at h
  ·rename_i hg;cases h;exact .own _ _ (Ii hg)
  ·cases h
 ·cases h;exact .row _
 ·cases h;exact .nil
 ·cases h
def Yo(xs:List aa)(σ:List ab):aN:=match xs with
  |[.bool true,x,_]=>.ok x [] []
  |[.bool false,_,y]=>.ok y [] []
  |_=>.stop
def Xi(sz:Nat)(xs:List aa)(σ:List ab):aN:=match xs with
  | [.aW e n s rows,.int _ (.ofNat i)]=>bif IT s sz then (match nth rows i with
   |some row=>.ok (.aq row 0) [] []
   | none=>.stop)else .stop
  | [.sl b o len _,.int _ (.ofNat i)]=>bif zAn i len then (match ai σ b with
   |.rows s _=>bif IT s sz then .ok (.ptr b (o+i) 0) [b] []else .stop
   | _=>.stop)else .stop
  |_=>.stop
def XQ(xs:List aa)(σ:List ab):aN:=match xs with
  |[.str s,.int _ (.ofNat i)]=>match nth s i with
   |some c=>.ok (.int .u8 c.toNat) [] []
   |none=>.stop
  |_=>.stop
def Qe(agg:Bool)(n:Nat)(xs:List aa)(σ:List ab):aN:=match xs with
  |[.ptr b i j]=>match ai σ b with
   |.rows _ rs=>match nth rs i with
    |some row=>match aK agg j n row with
     |some v=>.ok v [b] []
     |none=>.stop
    |none=>.stop
   |_=>.stop
  |xs=>sn (.load agg n) xs σ
def Zj(n:Nat)(xs:List aa)(σ:List ab):aN:=match xs with
  |[.ptr b i j,x]=>match ai σ b with
   |.rows sz rs=>match nth rs i with
    |some row=>match cellsOf x with
     | some cs=>bif IT cs.length n then (match bX j cs row with
      |some row'=>match YC i row' rs with
       |some rs'=>.ok .aQ [] [(b,.rows sz rs')]
       |none=>.stop
      | none=>.stop)else .stop
     |none=>.stop
    |none=>.stop
   |_=>.stop
  |xs=>sn (.store n) xs σ
def Zz(sz:Nat)(xs:List aa)(σ:List ab):aN:=match xs with
  |[.aW e n s rows,.int _ (.ofNat i)]=>bif IT s sz&&zAR i rows.length then .ok (.aW e n sz (cut i rows.length rows)) [] []else .stop
  |[.sl b off len e,.int _ (.ofNat i)]=>match ai σ b with
   |.rows s _=>bif IT s sz then (bif zAn i len then .ok (.sl b (off+i) (len-i) e) [b] []else bif IT i len then (bif IT sz 3 then .ok (.sl b (off+len) 0 e) [b] []else .ok (.aW false (zAn 0 len) sz []) [] [])else .stop)else .stop
   |_=>.stop
  |[.al,.int _ (.ofNat 0)]=>.ok .al [] []
  |_=>.stop
def YJ(sz:Nat)(xs:List aa)(σ:List ab):aN:=match xs with
  |[.aW e n s rows,.int _ (.ofNat i)]=>bif IT s sz&&zAR i rows.length then .ok (.aW false n sz (cut 0 i rows)) [] []else .stop
  |[.sl b off len e,.int _ (.ofNat i)]=>match ai σ b with
   |.rows s _=>bif IT s sz&&zAR i len then .ok (.sl b off i false) [b] []else .stop
   |_=>.stop
  |[.al,.int _ (.ofNat 0)]=>.ok .al [] []
  |_=>.stop
def XO(sz:Nat)(xs:List aa)(σ:List ab):aN:=match xs with
  |[.aW e n s rows,.int _ (.ofNat i),.int _ (.ofNat j)]=>bif IT s sz&&(zAR i j&&zAR j rows.length)then .ok (.aW false n sz (cut i j rows)) [] []else .stop
  |[.sl b off len e,.int _ (.ofNat i),.int _ (.ofNat j)]=>match ai σ b with
   |.rows s rs=>bif IT s sz&&((zAn i j||IT i 0)&&(zAR j len||(!(IT sz 0)&&zAR (off+j) rs.length)))then .ok (.sl b (off+i) (j-i) false) [b] []else .stop
   |_=>.stop
  |_=>.stop
def YF(xs:List aa)(σ:List ab):aN:=match xs with
  |[.str s,.int _ (.ofNat i),.int _ (.ofNat j)]=>bif zAR i j&&zAR j s.length then .ok (.str ((s.take j).drop i)) [] []else .stop
  |_=>.stop
def ZD(xs:List aa)(σ:List ab):aN:=match xs with
  |[.str s,.int _ (.ofNat i)]=>bif zAR i s.length then .ok (.str (s.drop i)) [] []else .stop
  |_=>.stop
def YD(xs:List aa)(σ:List ab):aN:=match xs with
  |[.str s,.int _ (.ofNat i)]=>bif zAR i s.length then .ok (.str (s.take i)) [] []else .stop
  |_=>.stop
def Rz(n:Nat)(by_:Nat)(z:List aa)(xs:List aa)(σ:List ab):aN:=match xs with
  |[.int _ (.ofNat len)]=>bif zAR (by_*len) (2 ^ 48)&&zAn len (2 ^ 62)then .ok (.sl σ.length 0 len true) [] [(σ.length,.rows n (zAf len z))]else .stop
  |_=>.stop
def YB(n by_:Nat)(σ:List ab)(rs:List (List aa))(kill:List (Nat×ab))(y:aa):aN:=match Zk n σ y with
 |some (ys,rd)=>bif aV ys&&zAR ((2*(rs.length+ys.length)+192)*by_) (2 ^ 48)then
   .ok (.sl σ.length 0 (rs.length+ys.length) false) rd (kill++[(σ.length,.rows n (rs++ys))])else .stop
 |none=>.stop
def Hi(n by_:Nat)(σ:List ab)(b off len:Nat)(rs:List (List aa))(y:aa):aN:=match Zk n σ y with
 | some (ys,rd)=>bif aV ys then (bif zAR (off + len + ys.length) rs.length then .ok (.sl b off (len + ys.length) false) rd [(b,.rows n (over (off + len) ys rs))]
   else bif IT off 0&&(zAR len rs.length&&(!(rd.contains b)&&zAR ((2*(len+ys.length)+192)*by_) (2 ^ 48)))then
    .ok (.sl σ.length 0 (len + ys.length) false) rd [(b,.dead),(σ.length,.rows n (rs.take len ++ ys))]else .stop)else .stop
 |none=>.stop
def Bd(n by_:Nat)(σ:List ab)(b len:Nat)(rs:List (List aa))(y:aa):aN:=match Zk n σ y with
 | some (ys,rd)=>bif aV ys && zAR ((2 * (len + ys.length) + 192) * by_) (2 ^ 48)then (bif zAR (len + ys.length) rs.length then .ok (.sl b 0 (len + ys.length) false) rd [(b,.full n (over len ys rs))]
   else bif zAR len rs.length then .ok (.sl σ.length 0 (len + ys.length) false) (b :: rd) [(σ.length,.rows n (rs.take len ++ ys))]else .stop)else .stop
 |none=>.stop
def zu:List (List aa)→Bool
 |[]=>true
 |r::rs=>gh r&&zu rs
theorem XbM:∀ {rs:List (List aa)},zu rs=true→∀(i:Nat) (row:List aa),rs[i]?=some row→∀(j:Nat) (x:aa),row[j]?=some x→x.ro=true
 |r::rs,h,0,row,e,j,x,ex=>by
  simp at e;subst e;simp only[zu,AI]at h;have:∀(l:List aa),gh l=true→∀(j:Nat) (x:aa),l[j]?=some x→x.ro=true:=by
   intro l
   induction l<;>grind [gh]
  exact this _ h.1 j x ex
 |r::rs,h,i+1,row,e,j,x,ex=>by
  simp only[zu,AI]at h;exact XbM h.2 i row (by simpa using e) j x ex
theorem YbA{P:Program}{GL:aw}(n by_:Nat)(z:List aa)(nn:Bool)(y:aa)(rs ys:List (List aa))(rd:List Nat)(h0:Hp)(sT:fG h0 n y ys rd)(ln:zu (rs++ys)=true)(bH:(2*(rs.length+ys.length)+192)*by_<=2 ^ 48) :
  aD P GL (.append n by_ z) [.aW true nn n rs,y] h0 (.aW false false n (rs++ys)) rd []:=by
 intro o os hc w0 L g h w a r hx cO _;generalize ho:o.op=op at hc;cases hc with
 |append t t' e ox oy _ _ v _ ht Al eN sM hz sa dN lF kS=>
  obtain⟨d,hd,pU⟩:=Al;obtain⟨d1,d2,_⟩:=hx;generalize j6:a.eval ox=u1 at d1;generalize qx:a.eval oy=u2 at d2;obtain⟨p1,nD,nP,e1,f1,Cp,_⟩:=ZL (P:=P) (h0:=h0) r.drew (.row true nn rs) (λb hb=>by cases hb) d1;obtain⟨p2,zG,newv,e2,f2,qH,_⟩:=ZL (P:=P) r sT cO d2;obtain⟨p2',Bv,nt,JV,J0,su,_⟩:=ZL (P:=P) r.drew sT cO d2;have fJ:(zCK u2).run P w=.ok ys.length w:=by rw[e2];rfl
  have pD:nD=rs.length:=by
   rw[e1]at d1;cases d1<;>simp_all
  subst pD;by_cases sc:ys=[]
  ·subst sc;have Af:newv.toList=[]:=by have:=qH.1;simp at this;simp[this]
   have bg:(zBG #[t,t'] o.type #[.slice p1 rs.length rs.length,u2]).run P w=.ok (.slice p1 rs.length rs.length) w:=by
    obtain⟨k1,k2⟩:=(QI ht hd pU eN sM hz lF (base:=p1) (len:=rs.length) (cap:=rs.length) (newv:=newv) fJ o.type).1 (by simp) f2;cases p1 with
    |none=>exact k1 rfl
    |some ad=>exact k2 ad w rfl (by rw[Af];rfl)
   rw[XI ho (by rw[j6];exact e1) qx bg];refine Out.here r ?_;rw[List.append_nil,←e1];cases d1 with
   |aW _ _ _ _ _ a' cap blk off f q1 q2 q3 q4 q5 q6 q7 q8=>exact .aW _ _ _ _ _ a' cap blk off f (λh=>by cases h) (λh=>by cases h) q3 q4 q5 q6 q7 q8
  ·have qt:0<ys.length:=List.length_pos_iff.2 sc;obtain⟨nc,xn,bg⟩:=(QI ht hd pU eN sM hz lF (base:=p1) (len:=rs.length) (cap:=rs.length) (newv:=nt) fJ o.type).2 (by omega) bH nP (by rw[←e1];exact f1) J0;rw[XI ho (by rw[j6];exact e1) qx bg];obtain⟨q1,q2⟩:=RB (c:=zAy v.cells (nc-(rs.length+ys.length))) Cp su;generalize oJ:nP++nt++zAy v.cells (nc-(rs.length+ys.length))=arr at q2;have Lj:(rs++ys).length*n<=arr.size:=by
    rw[←oJ];simp only[Array.size_append,Cp.1,su.1,By,zBX];omega
   obtain⟨hle,Ag⟩:=r.drew.vX (.cells arr e);refine⟨_,hle,Ag,?_⟩;have hl:rs.length+ys.length=(rs++ys).length:=(By).symm;rw[hl];refine .aW _ _ _ _ _ _ nc w.heap.size 0 (λi j=>(arr[i*n+j]?).getD undef) (λh=>by cases h) (λh=>by cases h) (λ_=>rfl) (λh=>by cases h) (by rw[←hl];exact xn) q1 (λi j hi hj=>?_) (λi row j x T7 JV=>?_)
   ·have cc:i*n+j<arr.size:=by
     have:(i+1)*n<=(rs++ys).length*n:=zAE n hi;rw[zBQ]at this;omega
    rw[IN];unfold iR;have:nT g.M w.drew.heap.size (.cells arr e) w.heap.size=some (.cells arr e):=by simp[nT]
    grind
   ·have hi:i<(rs++ys).length:=(gE T7).1;have hj:j<n:=by grind
    have cc:i*n+j<arr.size:=by
     have:(i+1)*n<=(rs++ys).length*n:=zAE n hi;rw[zBQ]at this;omega
    have hdn:=q2 i row j x arr[i*n+j] T7 JV (by simp[cc]);have:(arr[i*n+j]?).getD undef=arr[i*n+j]:=by simp[cc]
    show Den _ _ x ((arr[i*n+j]?).getD undef);rw[this];exact(Den.mono hle.m hdn (gD.refl _)).ro (XbM ln i row T7 j x JV) _
def Qf(n:Nat)(by_:Nat)(xs:List aa)(σ:List ab):aN:=match xs with
  |[.aW true false s rs,y]=>match Zk n σ y with
   |some (ys,rd)=>bif IT s n&&(zu (rs++ys)&&zAR ((2*(rs.length+ys.length)+192)*by_) (2 ^ 48))then .ok (.aW false false n (rs++ys)) rd []else .stop
   |none=>.stop
  |[x,y]=>match yA x with
   |.al=>YB n by_ σ [] [] y
   |.cY=>match Zk n σ y with
    |some ([],rd)=>bif Jd x then .ok x rd []else .stop
    |_=>YB n by_ σ [] [] y
   |.sl b off len _=>match ai σ b with
    |.rows s rs=>bif IT s n then (bif IT rs.length (len+off)then YB n by_ σ (rs.drop off) [(b,.dead)] y else Hi n by_ σ b off len rs y)else .stop
    |.full s rs=>bif IT s n&&IT off 0 then Bd n by_ σ b len rs y else .stop
    |_=>.stop
   |x=>match Zk n σ y with
    |some ([],rd)=>bif Jd x then .ok x rd []else .stop
    |_=>.stop
  |_=>.stop
def Y6(n:Nat)(z:List aa)(xs:List aa)(σ:List ab):aN:=match xs with
  |[.sl b off len _]=>match ai σ b with
   |.rows s rs=>bif IT s n&&zAR (off+len) rs.length then .ok .aQ [] [(b,.rows n (over off (zAf len z) rs))]else .stop
   |_=>.stop
  |[.al]=>.ok .aQ [] []
  |[.cY]=>.ok .aQ [] []
  |[.aW _ _ _ []]=>.ok .aQ [] []
  |_=>.stop
def XJ(xs:List aa)(σ:List ab):aN:=match xs with
  |[.sl _ _ len _,.int _ (.ofNat i),.int _ (.ofNat j),.int _ (.ofNat m)]=>bif zAR i j&&(zAR j m&&zAR m len)then .ok .aQ [] []else .stop
  |_=>.stop
def QH(sz:Nat)(xs:List aa)(σ:List ab):aN:=match xs with
  | [x,.int _ (.ofNat i),.int _ (.ofNat j)]=>bif IT i 0 && IT j 0 then (bif Jd x then .ok .cY [] []else .stop)else (match x with
   |.aW _ nn s rows=>bif IT s sz&&(IT i j&&zAR i rows.length)then .ok (.aW true nn s (cut 0 i rows)) [] []else .stop
   | _=>.stop)
  |_=>.stop
def Qy(str:Bool)(ok:Bool)(z:aa)(xs:List aa)(σ:List ab):aN:=match xs with
  | [m,q]=>bif zw str q then (match mapOf σ m with
   |some (es,rd)=>match jB q es with
    |some r=>.ok (lu ok z r) rd []
    |none=>.stop
   | none=>.stop)else .stop
  |_=>.stop
def YH(str:Bool)(xs:List aa)(σ:List ab):aN:=match xs with
  | [.map b,q,x]=>bif zw str q then (match ai σ b with
   |.map es=>match oi q x es with
    |some um=>.ok .aQ [] [(b,.map um)]
    |none=>.stop
   | _=>.stop)else .stop
  |_=>.stop
def Im(xs:List aa)(σ:List ab):aN:=match xs with
  |[.iter b]=>match ai σ b with
   |.fz s pos=>bif zAn pos s.length then .ok (.bp [.bool true,.int .i64 pos,.int .i32 (zBc ⟨s.toArray⟩ pos).1]) [] [(b,.fz s (pos+(zBc ⟨s.toArray⟩ pos).2))]
    else .ok (.bp [.bool false]) [b] []
   |_=>.stop
  |_=>.stop
def eZ(k:MK)(xs:List aa)(σ:List ab):aN:=
 match k with
 |.pick=>Yo xs σ
 |.fK sz=>Xi sz xs σ
 |.lM=>XQ xs σ
 |.load agg n=>Qe agg n xs σ
 |.store n=>Zj n xs σ
 |.cQ sz true false false=>Zz sz xs σ
 |.cQ sz false true false=>YJ sz xs σ
 |.cQ sz true true false=>XO sz xs σ
 |.cQ _ true true true=>XJ xs σ
 |.cQ sz false true true=>QH sz xs σ
 |.iN n z=>Y6 n z xs σ
 |.fj true true=>YF xs σ
 |.fj true false=>ZD xs σ
 |.fj false true=>YD xs σ
 |.sk n by_ z=>Rz n by_ z xs σ
 |.append n by_ _=>Qf n by_ xs σ
 |.lookup str ok z=>Qy str ok z xs σ
 |.lO str=>YH str xs σ
 |.next=>Im xs σ
 |k=>sn k xs σ
theorem Y_:∀ {l l':List α} {i:Nat} {c:α},YC i c l=some l'→l'=l.set i c
 |[],_,_,_,h=>by simp[YC]at h
 |x::l,l',0,c,h=>by simp[YC]at h;subst h;rfl
 |x::l,l',i+1,c,h=>by
  simp only[YC]at h;cases e:YC i c l with
  |none=>simp[e]at h
  |some r=>simp[e]at h;subst h;rw[Y_ e];rfl
theorem ZI(h:ai σ b=.rows sz rs):hp σ b=some (.rows sz rs):=X8 h (by simp)
theorem Rw{P:Program}{GL:aw}{kill:List (Nat×ab)}{rd:List Nat}(hx:m_ (hp σ) n x rs kill)(h:YB n by_ σ rs kill y=.ok v rd up):aD P GL (.append n by_ z) [x,y] (hp σ) v rd up:=by
 unfold YB at h;split at h
 ·rename_i hy
  replace h:=Qh h;obtain⟨hs,h⟩:=h
  simp only[AI]at hs
  grind [XbN,yx,YT,QX,iy]
 ·cases h
theorem Zdb{P:Program}{GL:aw}{rd:List Nat}(hb:hp σ b=some (.rows n rs))(h:Hi n by_ σ b off len rs y=.ok v rd up):aD P GL (.append n by_ z) [.sl b off len ex,y] (hp σ) v rd up:=by
 unfold Hi at h;split at h
 ·rename_i hy
  replace h:=Qh h;obtain⟨hc,h⟩:=h
  replace h:=QQ h
  rcases h with ⟨hs,h⟩|⟨_,h⟩
  ·grind [WV,YT,QX,iy]
  ·replace h:=Qh h;obtain⟨hs,h⟩:=h
   simp only[AI,zAg]at hs
   grind [fY,ZbA,yx,iy,YT,QX]
 ·cases h
theorem YcT{P:Program}{GL:aw}{rd:List Nat}(hb:hp σ b=some (.full n rs))(h:Bd n by_ σ b len rs y=.ok v rd up):aD P GL (.append n by_ z) [.sl b 0 len ex,y] (hp σ) v rd up:=by
 unfold Bd at h;split at h
 ·rename_i ys ly hy
  replace h:=Qh h;obtain⟨hc,h⟩:=h
  simp only[AI]at hc
  replace h:=QQ h
  rcases h with ⟨hs,h⟩|⟨hs,h⟩
  ·cases h;exact Ybu n by_ z y b len ex rs ys _ _ hb (YT hy) (QX hc.1) (iy hs)
  ·replace h:=Qh h;obtain⟨hl,h⟩:=h
   cases h;have hq:¬len+ys.length<=rs.length:=λq=>by rw[sh q]at hs;cases hs
   exact Xbu n by_ z y b len ex rs ys _ _ _ (yx σ) hb (YT hy) (QX hc.1) (iy hl) (Nat.lt_of_not_le hq) (iy hc.2)
 ·cases h
theorem Yco{P:Program}{GL:aw}{rd:List Nat}(h:Qf n by_ xs σ=.ok v rd up):aD P GL (.append n by_ z) xs (hp σ) v rd up:=by
 unfold Qf at h;split at h
 ·split at h
  ·rename_i hy
   replace h:=Qh h;obtain⟨hs,h⟩:=h
   simp only[AI]at hs
   grind [fY,YbA,YT,iy]
  ·cases h
 ·rename_i x y _;split at h
  ·rename_i hx;refine aD.dP (XY x) ?_;rw[hx];exact Rw .al h
  ·rename_i hx;split at h
   ·rename_i hy
    replace h:=Qh h;grind [Xax,PV,YT]
   ·refine aD.dP (XY x) ?_;rw[hx];exact Rw .cY h
  ·rename_i b off len ex hx;refine aD.dP (XY x) ?_;rw[hx];split at h
   ·rename_i s rs hg
    replace h:=Qh h;obtain⟨hs,h⟩:=h
    have:=fY hs;subst this
    replace h:=QQ h
    rcases h with ⟨hq,h⟩|⟨_,h⟩
    ·exact Rw (.own _ _ _ _ _ (ZI hg) ((fY hq).trans (zDu _ _))) h
    ·exact Zdb (ZI hg) h
   ·rename_i s rs hg
    replace h:=Qh h;obtain⟨hs,h⟩:=h
    simp only[AI]at hs;have h1:=fY hs.1;have h2:=fY hs.2;subst h1;subst h2;exact YcT (X8 hg (by simp)) h
   ·cases h
  ·refine aD.dP (XY x) ?_;split at h
   ·rename_i hy
    replace h:=Qh h;grind [Xax,PV,YT]
   ·cases h
 ·cases h
theorem ZcU{P:Program}{GL:aw}{rd:List Nat}(h:Y6 n z xs σ=.ok v rd up):aD P GL (.iN n z) xs (hp σ) v rd up:=by
 unfold Y6 at h;split at h
 ·split at h
  ·rename_i hg
   replace h:=Qh h;obtain⟨hs,h⟩:=h
   simp only[AI]at hs
   grind [fY,XdA,ZI,iy]
  ·cases h
 ·cases h;exact RA _ _ _ _ (.inl rfl)
 ·cases h;simp[RA]
 ·cases h;simp[RA]
 ·cases h
theorem Qb3{P:Program}{GL:aw}{rd:List Nat}(h:XJ xs σ=.ok v rd up):aD P GL (.cQ n true true true) xs (hp σ) v rd up:=by
 unfold XJ at h;split at h
 ·replace h:=Qh h;obtain⟨hs,h⟩:=h
  simp only[AI]at hs;cases h<;>simp_all [Ybv]
 ·cases h
theorem Zb4{P:Program}{GL:aw}{rd:List Nat}(h:QH n xs σ=.ok v rd up):aD P GL (.cQ n false true true) xs (hp σ) v rd up:=by
 unfold QH at h;split at h
 ·rename_i x k i k' j
  replace h:=QQ h
  rcases h with ⟨hq,h⟩|⟨_,h⟩
  ·simp only[AI]at hq;have h1:=fY hq.1;have h2:=fY hq.2;subst h1;subst h2
   replace h:=Qh h;grind [ZbB,PV]
  ·split at h
   ·replace h:=Qh h;obtain⟨hs,h⟩:=h
    simp only[AI]at hs;have h1:=fY hs.1;have h2:=fY hs.2.1;subst h1;subst h2;cases h;exact XbA _ _ _ _ _ _ (Int.ofNat i) (zAj _) (zBV.2 (iy hs.2.2)) _
   ·cases h
 ·cases h
theorem QJ{P:Program}{GL:aw}:CI P GL eZ:=by
 intro k xs σ v rd up h;unfold eZ at h;simp only[Yo,Xi,XQ,Qe,Zj,Zz,YJ,XO,YF,ZD,YD,Rz,Qy,YH,Im]at h;split at h
 ·split at h
  ·cases h;exact Qc2 _ _ _
  ·cases h;exact Zc3 _ _ _
  ·cases h
 ·split at h
  ·replace h:=Qh h;obtain⟨hs,h⟩:=h
   have:=fY hs;subst this;split at h
   ·rename_i hn;cases h;rw[Y3]at hn;exact Qa7 _ _ _ _ _ _ _ (zAj _) hn _
   ·cases h
  ·replace h:=Qh h;obtain⟨cc,h⟩:=h
   split at h
   ·rename_i hg
    replace h:=Qh h;obtain⟨hs,h⟩:=h
    have:=fY hs;subst this;cases h;exact Xa7 _ _ _ _ _ _ _ _ (zAj _) (zDh.2 (iy cc)) _ (ZI hg)
   ·cases h
  ·cases h
 ·split at h
  ·split at h
   ·rename_i hn;cases h;rw[Y3]at hn;exact Yc1 _ _ _ _ (zAj _) hn _
   ·cases h
  ·cases h
 ·split at h
  ·split at h
   ·rename_i hg;split at h
    ·rename_i hn;split at h
     ·rename_i hv;cases h;rw[Y3]at hn;exact XbZ _ _ _ _ _ _ _ _ _ _ (ZI hg) hn hv
     ·cases h
    ·cases h
   ·cases h
  ·exact PR h
 ·split at h
  ·split at h
   ·rename_i hg;split at h
    ·rename_i hn;split at h
     ·rename_i hc
      replace h:=Qh h;obtain⟨hl,h⟩:=h
      split at h
      ·rename_i hs;split at h
       ·rename_i ic;cases h;rw[Y3]at hn;exact YbB _ _ _ _ _ _ _ _ _ _ _ _ (ZI hg) hn hc (fY hl) hs (Y_ ic)
       ·cases h
      ·cases h
     ·cases h
    ·cases h
   ·cases h
  ·exact PR h
 ·split at h
  ·replace h:=Qh h;obtain⟨hs,h⟩:=h
   simp only[AI]at hs;have:=fY hs.1;subst this;cases h;exact Yci _ _ _ _ _ _ (zAj _) (zBV.2 (iy hs.2)) _
  ·split at h
   ·rename_i hg
    replace h:=Qh h;obtain⟨hs,h⟩:=h
    have:=fY hs;subst this
    replace h:=QQ h;rcases h with ⟨cc,h⟩|⟨_,h⟩
    ·cases h;exact Ya8 _ _ _ _ _ _ _ _ (zAj _) (zDh.2 (iy cc)) _ (ZI hg)
    ·replace h:=Qh h;obtain⟨he,h⟩:=h
     have:=fY he;subst this
     replace h:=QQ h;rcases h with ⟨h3,h⟩|⟨_,h⟩
     ·cases h;have:=fY h3;exact YaV _ _ _ _ _ _ _ _ rfl (by omega) _ (ZI hg)
     ·cases h;exact Za1 _ _ _ _ _ _ _ rfl _
   ·cases h
  ·cases h;exact Qa0 _ _ _
  ·cases h
 ·split at h
  ·replace h:=Qh h;obtain⟨hs,h⟩:=h
   simp only[AI]at hs;have:=fY hs.1;subst this;cases h;exact Zci _ _ _ _ _ _ (zAj _) (zBV.2 (iy hs.2)) _
  ·split at h
   ·rename_i hg
    replace h:=Qh h;obtain⟨hs,h⟩:=h
    simp only[AI]at hs;have:=fY hs.1;subst this;cases h;exact Za8 _ _ _ _ _ _ _ _ (zAj _) (zBV.2 (iy hs.2)) _ (ZI hg)
   ·cases h
  ·cases h;exact Xa0 _ _ _
  ·cases h
 ·split at h
  ·replace h:=Qh h;obtain⟨hs,h⟩:=h
   simp only[AI]at hs;have:=fY hs.1;subst this;cases h;exact QbA _ _ _ _ _ _ _ _ (zAj _) (zBV.2 (iy hs.2.1)) (zBV.2 (iy hs.2.2)) _
  ·split at h
   ·rename_i hg
    replace h:=Qh h;obtain⟨hs,h⟩:=h
    simp only[AI,zBS]at hs;have:=fY hs.1;subst this;cases h;refine ZaV _ _ _ _ _ _ _ _ _ _ (zAj _) ?_ ?_ _ (ZI hg)
    ·rcases hs.2.1 with q|q
     ·exact .inl (zDh.2 (iy q))
     ·have:=fY q;subst this;exact .inr ⟨rfl,zAj _⟩
    ·rcases hs.2.2 with q|q
     ·exact .inl (zBV.2 (iy q))
     ·simp only[AI,zAg]at q;exact .inr ⟨(λe0=>by rw[e0]at q;cases q.1),iy q.2⟩
   ·cases h
  ·cases h
 ·exact Qb3 h
 ·exact Zb4 h
 ·exact ZcU h
 ·split at h
  ·replace h:=Qh h;obtain⟨hs,h⟩:=h
   simp only[AI]at hs;cases h;exact Qch _ _ _ _ _ (zAj _) (zBV.2 (iy hs.1)) (zBV.2 (iy hs.2)) _
  ·cases h
 ·split at h
  ·replace h:=Qh h;obtain⟨hs,h⟩:=h
   cases h;exact Zbv _ _ _ (zAj _) (zBV.2 (iy hs)) _
  ·cases h
 ·split at h
  ·replace h:=Qh h;obtain⟨hs,h⟩:=h
   cases h;exact Qbu _ _ _ (zAj _) (zBV.2 (iy hs)) _
  ·cases h
 ·split at h
  ·replace h:=Qh h;obtain⟨hs,h⟩:=h
   simp only[AI]at hs;cases h;exact YdB _ _ _ _ _ (iy hs.1) (iy hs.2) _ _ (yx σ)
  ·cases h
 ·exact Yco h
 ·split at h
  ·replace h:=Qh h;obtain⟨hs,h⟩:=h
   split at h
   ·rename_i hm;split at h
    ·rename_i hl;cases h;exact Zc2 _ _ _ _ _ _ _ _ _ (QdV hm) (YbI hs) hl
    ·cases h
   ·cases h
  ·cases h
 ·split at h
  ·replace h:=Qh h;obtain⟨hs,h⟩:=h
   split at h
   ·rename_i hm;split at h
    ·rename_i hl;cases h;exact Yc2 _ _ _ _ _ _ _ (Ii hm) (YbI hs) hl
    ·cases h
   ·cases h
  ·cases h
 ·split at h
  ·split at h
   ·rename_i hg
    replace h:=QQ h;rcases h with ⟨cc,h⟩|⟨cc,h⟩
    ·cases h;exact(ZcQ _ _ _ _ (X8 hg (by simp))).1 (iy cc)
    ·cases h;refine(ZcQ _ _ _ _ (X8 hg (by simp))).2 ?_;exact Nat.le_of_not_lt (λq=>by rw[show zAn _ _=true from sh q]at cc;cases cc)
   ·cases h
  ·cases h
 ·exact PR h
def xp:List (Bool×Bool)→Bool
 |[]=>true
 |(true,true)::r=>xp r
 |(false,false)::r=>xp r
 |_=>false
def yw:Cons→Bool
 |[]=>true
 | (G,(x,y)) :: r=>(bif xp G then (match x,y with
  |true,true=>true
  |false,false=>true
  | _,_=>false)else gn G || false) && yw r
where gn:List (Bool×Bool)→Bool
 |[]=>false
 |(true,false)::_=>true
 |(false,true)::_=>true
 |_::r=>gn r
theorem S4:∀ {c:List (Bool×Bool)},yw.gn c=true→¬eG c
 |[],h=>by simp[yw.gn]at h
 |(true,false)::r,h=>λq=>by have:=q _ (zBP ..);cases this
 |(false,true)::r,h=>λq=>by have:=q _ (zBP ..);cases this
 |(true,true)::r,h=>λq=>S4 (c:=r) h (λp hp=>q p (zAr _ hp))
 |(false,false)::r,h=>λq=>S4 (c:=r) h (λp hp=>q p (zAr _ hp))
theorem Zo{H:Prop}:∀(xs:List aa),lX (zl H) xs xs
 |[]=>trivial
 |x::xs=>⟨.inl rfl,Zo xs⟩
end Go.Ah
end
section
namespace Go.Ah
def Loc(P:Program)(GL:aw)(m:aR)(ρ:Frame)(h0:Hp)(v:aa)(rd:List Nat)(up:List (Nat×ab)):Prop:=
 ∀(n:Nat) (ops:Array Oper) (o:Oper),gk P GL n ops o m→∀(ρ':Frame) (h:Hp) (w0:World) (L:Ln) (g:Gm) (w:World) (a:Act),
  (∀t∈iW m,bN ρ' t=bN ρ t)→(∀b∈rd,h b=h0 b)→(∀p∈up,h p.1=h0 p.1)→bx GL w0 L g h w→cX n g ρ' a →
  ∀(next:Act→World→Prop) (Q:Exit→Act→World→Prop),(∀g' w' u,g.Le g'→bx GL w0 L g' (cz h up) w'→cX n g' (cC m.dst v ρ') (a.put o.dst u)→next (a.put o.dst u) w') →
   if Region.wanted o (yielded ops a.tmps)then o.wp P a w next Q∨(o.asks P a w∧LetsOut Q)else next (a.put o.dst undef) w
section
variable {P:Program} {GL:aw}
variable{ρ:Frame}
variable{m:aR}
theorem SL{ρ':Frame}(h:∀t∈iW m,bN ρ' t=bN ρ t):m.xs.map (ev ρ')=m.xs.map (ev ρ):=by
 apply List.map_congr_left;intro x hx;cases x with
 |t n=>exact h n (zAF.2 (.inl (zCG.2 ⟨.t n,hx,rfl⟩)))
 |c v=>rfl
theorem I5{ρ':Frame}(h:∀t∈iW m,bN ρ' t=bN ρ t){cs:List (Bool×Bool)}(hg:dH ρ m.guard cs):dH ρ' m.guard cs:=by
 unfold iW at h;generalize m.guard=gd at hg h;cases hg with
 |none=>exact .none
 |bool s w c e=>exact .bool s w c (by rw[h s (by simp)];exact e)
 |when s w c cs e=>exact .when s w c cs (by rw[h s (by simp)];exact e)
theorem Xct{σ:List ab}{lg:Log}{K:Frame→List ab→Log→Prop}(s:eH true P GL m ρ σ lg K) :
  ∃v rd up σ',gC σ up=some σ'∧K (cC m.dst v ρ) σ' (lg++[(rd,up.map (·.1))])∧Loc P GL m ρ (hp σ) v rd up:=by
 cases s with
 |run cs ys v rd up σ' h1 h2 h3 h4 h5 h6=>
  refine⟨v,rd,up,σ',h5,h6,?_⟩;intro n ops o ok ρ' h w0 L g w a hu cO eo r d next Q hn;obtain⟨os,lj,vh⟩:=ok.op;have mq:=I4 r d vh;rw[aI ((Qt ok d (I5 hu h1)).1 h2)];left;have c_:=GB trivial h3 (by rw[←SL hu];exact mq);have ho:=h4 o os lj w0 L g h w a r c_ cO eo;refine ho.upon (λg' u w' hle hr hu=>hn g' w' u hle hr ?_);rw[ok.dst];exact(d.mono hle).cC ok.lt hu
 |skip cs h1 h2 h3=>
  refine⟨.aQ,[],[],σ,rfl,h3,?_⟩;intro n ops o ok ρ' h w0 L g w a hu cO eo r d next Q hn;rw[aB (by grind [Qt,I5])];refine hn g w undef (Gm.Le.refl g) r ?_;rw[ok.dst];exact d.cC ok.lt (.aQ _ _)
 |lazy cs ys v rd h1 h2 h3 h4=>
  refine⟨.when cs v,rd,[],σ,rfl,h4,?_⟩;intro n ops o ok ρ' h w0 L g w a hu cO eo r d next Q hn;obtain⟨os,lj,vh⟩:=ok.op;have mq:=I4 r d vh;by_cases hh:eG cs
  ·rw[aI ((Qt ok d (I5 hu h1)).1 hh)];left;have c_:=GB hh h2 (by rw[←SL hu];exact mq);have ho:=h3 hh o os lj w0 L g h w a r c_ cO eo;refine ho.upon (λg' u w' hle hr hu=>hn g' w' u hle hr ?_);rw[ok.dst];exact(d.mono hle).cC ok.lt (.when _ _ _ _ (λ_=>hu) (λh=>(h hh).elim))
  ·rw[aB (by grind [Qt,I5])];refine hn g w undef (Gm.Le.refl g) r ?_;rw[ok.dst];exact d.cC ok.lt (.when _ _ _ _ (λh=>(hh h).elim) (λ_=>rfl))
 |pick cs x y z c p q v h1 hk Ap hx hy hz hv h8=>
  refine⟨v,[],[],σ,rfl,h8,?_⟩;intro n ops o ok ρ' h w0 L g w a hu cO eo r d next Q hn;obtain⟨os,lj,vh⟩:=ok.op;have mq:=I4 r d vh;rw[SL hu,Ap]at mq;have uY:=I5 hu h1;have lG:=lj;rw[hk]at lG;generalize im:o.op=op at lG;cases lG with
  |pick oc oa ob=>
   obtain⟨d1,d2,d3,_⟩:=mq;by_cases hh:eG cs
   ·rw[aI ((Qt ok d uY).1 hh)];left;have e1:=YE (CO hh hx d1);have nN:g.den (.bool (bif c then p else q)) (if c then a.eval oa else a.eval ob):=by
     cases c
     ·exact CO ⟨hh,rfl⟩ hz d3
     ·exact CO ⟨hh,rfl⟩ hy d2
    have bg:(execOp a.eval o).run P w=.ok (.value (if c then a.eval oa else a.eval ob)) w:=by
     simp_all [execOp,asBool]
    unfold Oper.wp;rw[bg];refine hn g _ _ (Gm.Le.refl g) r ?_;rw[ok.dst];rcases hv with rfl|⟨rfl,rfl⟩
    ·exact d.cC ok.lt (.when _ _ _ _ (λ_=>nN) (λh=>(h hh).elim))
    ·exact d.cC ok.lt nN
   ·rw[aB (by rw[(Qt ok d uY).2 hh];simp)];refine hn g _ _ (Gm.Le.refl g) r ?_;rw[ok.dst];rcases hv with rfl|⟨rfl,rfl⟩
    ·exact d.cC ok.lt (.when _ _ _ _ (λh=>(hh h).elim) (λ_=>rfl))
    ·exact(hh (by simp[eG])).elim
 |rel cs ys R h0=>cases h0
structure TS where
 v:aa
 rd:List Nat
 up:List (Nat×ab)
def Tr(P:Program)(GL:aw):List aR→List TS→Frame→List ab→Log→(Frame→List ab→Log→Prop)→Prop
 |[],[],ρ,σ,lg,Q=>Q ρ σ lg
 |m::ms,t::ts,ρ,σ,lg,Q=>Loc P GL m ρ (hp σ) t.v t.rd t.up∧∃σ',gC σ t.up=some σ'∧Tr P GL ms ts (cC m.dst t.v ρ) σ' (lg++[(t.rd,t.up.map (·.1))]) Q
 |_,_,_,_,_,_=>False
theorem P9:∀(ms:List aR) (ρ:Frame) (σ:List ab) (lg:Log) (Q:Frame→List ab→Log→Prop),i7 true P GL ms ρ σ lg Q→∃ts,Tr P GL ms ts ρ σ lg Q
 |[],ρ,σ,lg,Q,h=>⟨[],h⟩
 |m::ms,ρ,σ,lg,Q,h=>by
  obtain⟨v,rd,up,σ',h1,h2,h3⟩:=Xct h;obtain⟨ts,ht⟩:=P9 ms _ _ _ Q h2;exact⟨⟨v,rd,up⟩::ts,h3,σ',h1,ht⟩
def kW(S:Nat→Bool):Nat→List aR→List TS→Frame→Frame
 |i,m::ms,t::ts,ρ=>kW S (i+1) ms ts (if S i then cC m.dst t.v ρ else ρ)
 |_,_,_,ρ=>ρ
def jO(S:Nat→Bool):Nat→List TS→Hp→Hp
 |i,t::ts,h=>jO S (i+1) ts (if S i then cz h t.up else h)
 |_,_,h=>h
theorem XZ{S S':Nat→Bool}{t:Nat}:∀(ms:List aR) (ts:List TS) (i:Nat) (ρ ρ':Frame),(∀(k:Nat) (m:aR),ms[k]?=some m→m.dst=some t→S (i+k)=S' (i+k))→bN ρ t=bN ρ' t→bN (kW S i ms ts ρ) t=bN (kW S' i ms ts ρ') t
 |[],_,_,_,_,_,h=>by simpa[kW]using h
 |_::_,[],_,_,_,_,h=>by simpa[kW]using h
 |m::ms,x::ts,i,ρ,ρ',hs,h=>by
  simp only[kW];refine XZ ms ts (i+1) _ _ (λk m' e1 e2=>by have:=hs (k+1) m' (by simpa using e1) e2;grind) ?_;by_cases hd:m.dst=some t
  ·have:=hs 0 m rfl hd;rw[zBj]at this
   grind [Y8]
  ·have e1:∀(b:Bool) (r:Frame),bN (if b then cC m.dst x.v r else r) t=bN r t:=by simp_all [Y8]
   rw[e1,e1,h]
theorem Ss:∀(up:List (Nat×ab)) (h h':Hp) (b:Nat),b∈up.map (·.1)→cz h up b=cz h' up b
 |[],_,_,_,e=>by cases e
 |(a,x)::up,h,h',b,e=>by
  by_cases hb:b∈up.map (·.1)
  ·exact Ss up _ _ b hb
  ·have:b=a:=by simp_all
   subst this;have out:∀(up:List (Nat×ab)) (h:Hp),b∉up.map (·.1)→cz h up b=h b:=by
    intro up
    induction up<;>simp_all [cz,Qq]
   simp_all [cz,Qs]
theorem NX:∀(up:List (Nat×ab)) (h:Hp) (b:Nat),b∉up.map (·.1)→cz h up b=h b
 |[],_,_,_=>rfl
 |(a,x)::up,h,b,hn=>by
  simp only[zAN,zAS,not_or]at hn;show cz (eo h a x) up b=h b;rw[NX up _ b hn.2,Qq _ _ hn.1]
theorem QZ{S S':Nat→Bool}{b:Nat}:∀(ts:List TS) (i:Nat) (h h':Hp),(∀(k:Nat) (t:TS),ts[k]?=some t→b∈t.up.map (·.1)→S (i+k)=S' (i+k))→h b=h' b→jO S i ts h b=jO S' i ts h' b
 |[],_,_,_,_,h=>by simpa[jO]using h
 |x::ts,i,h,h',hs,e=>by
  simp only[jO];refine QZ ts (i+1) _ _ (λk t e1 e2=>by have:=hs (k+1) t (by simpa using e1) e2;grind) ?_;by_cases hd:b∈x.up.map (·.1)
  ·have:=hs 0 x rfl hd;rw[zBj]at this
   grind [Ss]
  ·have e1:∀(c:Bool) (r:Hp),(if c then cz r x.up else r) b=r b:=by simp_all [NX]
   rw[e1,e1,e]
theorem Sr{S:Nat→Bool}{t:Nat}:∀(ms:List aR) (ts:List TS) (i:Nat) (ρ:Frame) (j:Nat) (m:aR) (x:TS),ms[j]?=some m→ts[j]?=some x→m.dst=some t→S (i+j)=true →
  (∀(k:Nat) (m':aR),ms[k]?=some m'→m'.dst=some t→S (i+k)=true→k<=j)→bN (kW S i ms ts ρ) t=x.v
 |m::ms,x::ts,i,ρ,0,m0,x0,e1,e2,e3,e4,hl=>by
  simp at e1 e2;subst e1 e2;rw[zBj]at e4;simp only[kW,e4,if_true];have:=XZ (S:=S) (S':=λ_=>false) (t:=t) ms ts (i + 1) (cC m.dst x.v ρ) (cC m.dst x.v ρ) (λk m' q1 q2=>by
   cases hS:S (i+1+k)with
   |false=>rfl
   | true=>have:=hl (k + 1) m' (by simpa using q1) q2 (by grind);omega) rfl
  rw[this];have g_:∀(ms:List aR) (ts:List TS) (i:Nat) (ρ:Frame),kW (λ_=>false) i ms ts ρ=ρ:=by
   intro ms
   induction ms with
   |nil=>intros;simp[kW]
   |cons m ms ih=>intro ts i ρ;cases ts<;>simp_all [kW]
  rw[g_,Y8,aI e3]
 |m::ms,x::ts,i,ρ,j+1,m0,x0,e1,e2,e3,e4,hl=>by
  simp only[kW];exact Sr ms ts (i + 1) _ j m0 x0 (by simpa using e1) (by simpa using e2) e3 (by rwa [show i + 1 + j=i + (j + 1) by omega]) (λk m' q1 q2 q3=>by
   have:=hl (k + 1) m' (by simpa using q1) q2 (by rwa [show i + (k + 1)=i + 1 + k by omega]);omega)
 |[],_,_,_,_,_,_,e1,_,_,_,_=>by simp at e1
 |_::_,[],_,_,_,_,_,_,e2,_,_,_=>by simp at e2
theorem S_{S:Nat→Bool}{b:Nat}:∀(ts:List TS) (i:Nat) (h:Hp) (j:Nat) (x:TS),ts[j]?=some x→b∈x.up.map (·.1)→S (i+j)=true →
  (∀(k:Nat) (x':TS),ts[k]?=some x'→b∈x'.up.map (·.1)→S (i+k)=true→k<=j)→∀h':Hp,jO S i ts h b=cz h' x.up b
 |x::ts,i,h,0,x0,e2,e3,e4,hl,h'=>by
  simp at e2;subst e2;rw[zBj]at e4;simp only[jO,e4,if_true];have:=QZ (S:=S) (S':=λ_=>false) (b:=b) ts (i + 1) (cz h x.up) (cz h' x.up) (λk m' q1 q2=>by
   cases hS:S (i+1+k)with
   |false=>rfl
   | true=>have:=hl (k + 1) m' (by simpa using q1) q2 (by grind);omega) (Ss _ _ _ _ e3)
  rw[this];have g_:∀(ts:List TS) (i:Nat) (h:Hp),jO (λ_=>false) i ts h=h:=by
   intro ts
   induction ts<;>grind [jO]
  rw[g_]
 |x::ts,i,h,j+1,x0,e2,e3,e4,hl,h'=>by
  simp only[jO];exact S_ ts (i + 1) _ j x0 (by simpa using e2) e3 (by rwa [show i + 1 + j=i + (j + 1) by omega]) (λk m' q1 q2 q3=>by
   have:=hl (k + 1) m' (by simpa using q1) q2 (by rwa [show i + (k + 1)=i + 1 + k by omega]);omega) h'
 |[],_,_,_,_,e2,_,_,_,_=>by simp at e2
theorem IA:∀(ms:List aR) (ts:List TS) (i:Nat) (ρ:Frame) (σ:List ab) (lg:Log) (Q:Frame→List ab→Log→Prop),Tr P GL ms ts ρ σ lg Q →
  ts.length=ms.length ∧
  (∀(j:Nat) (m:aR) (x:TS),ms[j]?=some m→ts[j]?=some x→∃ρ',(∀t,bN ρ' t=bN (kW (λk=>decide (k<i+j)) i ms ts ρ) t)∧Loc P GL m ρ' (jO (λk=>decide (k<i+j)) i ts (hp σ)) x.v x.rd x.up) ∧
  ∃ρ' σ',(∀t,bN ρ' t=bN (kW (λ_=>true) i ms ts ρ) t)∧hp σ'=jO (λ_=>true) i ts (hp σ)∧Q ρ' σ' (lg++ts.map λx=>(x.rd,x.up.map (·.1)))
 |[],[],i,ρ,σ,lg,Q,h=>⟨rfl,by simp,ρ,σ,by simp[kW],by simp[jO],by simpa[Tr]using h⟩
 |[],_::_,_,_,_,_,_,h=>h.elim
 |_::_,[],_,_,_,_,_,h=>h.elim
 |m::ms,x::ts,i,ρ,σ,lg,Q,h=>by
  obtain⟨h1,σ',h2,h3⟩:=h;obtain⟨k1,k2,ρ2,σ2,k3,k4,k5⟩:=IA ms ts (i+1) _ _ _ _ h3;have hu:=IF _ _ _ h2;refine⟨by simp[k1],λj m' x' e1 e2=>?_,ρ2,σ2,λt=>by rw[k3 t];simp[kW],by simp_all [jO],by simpa[zAb]using k5⟩;cases j with
  |zero=>
   simp at e1 e2;subst e1 e2;have hf:∀t,bN ρ t=bN (kW (λk=>decide (k<i+0)) i (m::ms) (x::ts) ρ) t:=by
    intro t;have:=XZ (S:=λk=>decide (k<i+0)) (S':=λ_=>false) (t:=t) (m::ms) (x::ts) i ρ ρ (λk _ _ _=>by simp) rfl;rw[this];have g_:∀(ms:List aR) (ts:List TS) (i:Nat) (ρ:Frame),kW (λ_=>false) i ms ts ρ=ρ:=by
     intro ms
     induction ms with
     |nil=>intros;simp[kW]
     |cons m ms ih=>intro ts i ρ;cases ts<;>simp_all [kW]
    rw[g_]
   have hh:jO (λk=>decide (k<i+0)) i (x::ts) (hp σ)=hp σ:=by
    funext b
    have:=QZ (S:=λk=>decide (k<i+0)) (S':=λ_=>false) (b:=b) (x::ts) i (hp σ) (hp σ) (λk _ _ _=>by simp) rfl;rw[this];have g_:∀(ts:List TS) (i:Nat) (h:Hp),jO (λ_=>false) i ts h=h:=by
     intro ts
     induction ts<;>simp_all [jO]
    rw[g_]
   grind
  |succ j=>
   grind [kW,jO]
end
end Go.Ah
end
section
namespace Go.Ah
theorem Hg:∀ {a b:List Nat},dS a b=true→∀x,x∈a→x∉b
 |[],_,_,x,h=>by cases h
 |y::a,b,hd,x,h=>by
  simp only[dS,AI,zAg]at hd;rcases zAS.1 h with rfl|h
  ·intro hb;have:=zBZ.2 hb;rw[hd.1]at this;cases this
  ·exact Hg hd.2 x h
theorem Sg{h:List Nat}{q:List Nat×List Nat}:∀ {lg:Log} {i:Nat},Xm h q i lg=true→∀(k:Nat) (p:List Nat×List Nat),lg[k]?=some p→(i+k)∈h∨cf p q=true
 |[],_,_,_,_,e=>by simp at e
 |p::lg,i,hh,0,p',e=>by
  simp_all [Xm]
 |p::lg,i,hh,k+1,p',e=>by
  simp only[Xm,AI]at hh;have:=Sg hh.2 k p' (by simpa using e)
  grind
def pN(S:Nat→Bool):Nat→Nat
 |0=>0
 |n+1=>pN S n+(if S n then 0 else 1)
theorem N_{S:Nat→Bool}:∀ {n:Nat},pN S n=0→∀k,k<n→S k=true
 |0,_,k,h=>by omega
 |n+1,e,k,h=>by
  simp only[pN]at e;by_cases hk:k=n
  ·simp_all
  ·exact N_ (S:=S) (n:=n) (by omega) k (by omega)
theorem QcD{S S':Nat→Bool}:∀ {n:Nat},(∀k,k<n→S' k=S k)→pN S' n=pN S n
 |0,_=>rfl
 |n+1,h=>by simp only[pN];rw[QcD (λk hk=>h k (by omega)),h n (by omega)]
theorem OO{S S':Nat→Bool}{j:Nat}:∀ {n:Nat},j<n→S j=false→S' j=true→(∀k,k<n→k≠j→S' k=S k)→pN S' n+1=pN S n
 |0,h,_,_,_=>by omega
 |n+1,h,h1,h2,h3=>by
  simp only[pN];by_cases hj:j=n
  ·grind [QcD]
  ·have:=OO (n:=n) (by omega) h1 h2 (λk hk cU=>h3 k (by omega) cU)
   grind
structure pH (ops:List Oper) (ms:List aR) (hd:List (List Nat)):Prop where
 len:ops.length=ms.length
 back:∀j,j<ms.length→∀i∈waits (ops.getD j default),i<j
 ahd:∀j,j<ms.length→∀i∈Xn hd j,i<j∧(i∈waits (ops.getD j default)∨∃k∈waits (ops.getD j default),i∈Xn hd k)
 nu:∀j,j<ms.length→∀i,i<j→i∈Xn hd j∨((∀t∈eL (ms.getD i default),t∉iW (ms.getD j default))∧(∀t∈eL (ms.getD i default),t∉eL (ms.getD j default))∧∀t∈iW (ms.getD i default),t∉eL (ms.getD j default))
variable{hd:List (List Nat)}
variable{ms:List aR}
theorem Nn{ops:List Oper}(h:zy ops ms hd=true):pH ops ms hd:=by
 unfold zy at h;simp only[AI,zAm,zBD,zBS,List.any_eq_true]at h;obtain⟨⟨⟨⟨h1,h2⟩,h3⟩,h4⟩,h5⟩:=h;refine⟨fY h1,λj hj i hi=>iy (h3 j hj i hi),λj hj i hi=>?_,λj hj i hi=>?_⟩
 ·simp_all
 grind [Hg]
section
variable {P:Program} {GL:aw}
theorem Ie{ops:List Oper}(D:pH ops ms hd){S:Nat→Bool}(hS:∀j,S j=true→j<ms.length∧∀i∈waits (ops.getD j default),S i=true) :
  ∀(j:Nat),j<ms.length→(∀i∈waits (ops.getD j default),S i=true)→∀i∈Xn hd j,S i=true:=by
 intro j
 induction j using zBu with
 |_ j ih=>
  intro hj hw i hi;rcases (D.ahd j hj i hi).2 with q|⟨k,q,q'⟩
  ·exact hw i q
  ·have hk:=hw k q;exact ih k (D.back j hj k q) (hS k hk).1 (hS k hk).2 i q'
theorem Hb{o:Oper}{i:Nat}:i∈waits o↔∃e∈o.after,Region.binds .any e=true∧e.on=i:=by
 grind [waits]
theorem YX(ops:Array Oper)(j:Nat){o:Oper}(h:ops[j]?=some o):ops.toList.getD j default=o:=by
 simp_all
theorem XcW{n:Nat}{ops:Array Oper}(eN:ops.size=ms.length)(bR:∀(j:Nat) (m:aR),ms[j]?=some m→∃o,ops[j]?=some o∧gk P GL n ops o m)(dY:zy ops.toList ms hd=true)
 {ρ:Frame}{σ:List ab}{ts:List TS}{K:Frame→List ab→Log→Prop}(Am:Tr P GL ms ts ρ σ [] K)(Dg:Qi hd (ts.map λx=>(x.rd,x.up.map (·.1)))=true)
 {w0:World}{L:Ln}{g:Gm}(Q:Exit→Act→World→Prop)(hQ:∀g' ρ' σ' a w,g.Le g'→bx GL w0 L g' (hp σ') w→cX n g' ρ' a→K ρ' σ' (ts.map λx=>(x.rd,x.up.map (·.1)))→Q .normal a w) :
  ∀(fuel:Nat) (listed:Array Bool) (a:Act) (w:World),listed.size=ms.length→(∀j,listed.getD j false=true→j<ms.length∧∀i∈waits (ops.toList.getD j default),listed.getD i false=true) →
   pN (λk=>listed.getD k false) ms.length<=fuel→(∃g' ρ',g.Le g'∧bx GL w0 L g' (jO (λk=>listed.getD k false) 0 ts (hp σ)) w∧cX n g' ρ' a∧∀t,bN ρ' t=bN (kW (λk=>listed.getD k false) 0 ms ts ρ) t) →
   wpAny P .any ops Q fuel listed a w:=by
 have D:=Nn dY;obtain⟨hlen,qV,ρf,σf,vb,UJ,wS⟩:=IA ms ts 0 ρ σ [] K Am;rw[zAL]at wS;have hA:∀j,j<ms.length→∀i,i<j→i∈Xn hd j∨cf (Yv (ts.map λx=>(x.rd,x.up.map (·.1))) i) (Yv (ts.map λx=>(x.rd,x.up.map (·.1))) j)=true:=by
  intro j hj i hi;unfold Qi at Dg;simp only[zAm,zBD,zAM]at Dg;have:=Sg (Dg j (by omega)) i (Yv (ts.map λx=>(x.rd,x.up.map (·.1))) i) (by
   grind [Yv])
  rwa [IN]at this
 have qq:∀j x,ts[j]?=some x→Yv (ts.map λx=>(x.rd,x.up.map (·.1))) j=(x.rd,x.up.map (·.1)):=by
  simp_all [Yv]
 have fin:∀(listed:Array Bool) (a:Act) (w:World),(∀k,k<ms.length→listed.getD k false=true)→(∃g' ρ',g.Le g'∧bx GL w0 L g' (jO (λk=>listed.getD k false) 0 ts (hp σ)) w∧cX n g' ρ' a∧∀t,bN ρ' t=bN (kW (λk=>listed.getD k false) 0 ms ts ρ) t)→Q .normal a w:=by
  rintro listed a w iP ⟨g',ρ',h1,h2,h3,h4⟩;refine hQ g' ρf σf a w h1 ?_ ?_ wS
  ·rw[UJ];have:jO (λk=>listed.getD k false) 0 ts (hp σ)=jO (λ_=>true) 0 ts (hp σ):=by
    funext b
    simp_all [QZ,List.getElem?_eq_some_iff]
   rw[←this];exact h2
  ·refine h3.dP (λt=>.inl ?_);rw[vb t,h4 t];refine XZ _ _ _ _ _ (λk m e _=>?_) rfl
   grind
 have rdy:∀(listed:Array Bool),listed.size=ms.length→zBk .any ops listed=[]→∀k,k<ms.length→listed.getD k false=true:=by
  intro listed hs hr k
  induction k using zBu with
  |_ k ih=>
   intro hk;cases hl:listed.getD k false with
   |true=>rfl
   |false=>
    exfalso;have KQ:ops[k]?=some ops[k]:=by simp
    have:k∈zBk .any ops listed:=by
     rw[mem_ready];refine⟨?_,ops[k],KQ,λe he hb=>?_⟩
     ·simp_all
     ·have hw:e.on∈waits (ops.toList.getD k default):=by rw[YX ops k KQ,Hb];exact⟨e,he,hb,rfl⟩
      have cc:=D.back k hk _ hw;exact ih e.on cc (by omega)
    rw[hr]at this;cases this
 intro fuel
 induction fuel with
 |zero=>
  intro listed a w hs hS hc ic;have iP:=N_ (zDp.1 hc);refine⟨?_,fin listed a w iP ic⟩;cases hr:zBk .any ops listed with
  |nil=>rfl
  |cons k r=>
   exfalso;have:k∈zBk .any ops listed:=by rw[hr];simp
   grind [mem_ready]
 |succ fuel ih=>
  intro listed a w hs hS hc ic;refine⟨λhr=>fin listed a w (rdy listed hs hr) ic,λj hj=>?_⟩;obtain⟨h1,o,ho,wQ⟩:=mem_ready.1 hj;have rQ:j<ms.length:=by grind
  have zO:listed.getD j false=false:=by
   grind
  have DS:∀i∈waits (ops.toList.getD j default),listed.getD i false=true:=by
   intro i hi;rw[YX ops j ho,Hb]at hi
   grind
  have hhd:=Ie D (S:=λk=>listed.getD k false) hS j rQ DS;have xl:ms[j]?=some ms[j]:=by simp
  have vl:ts[j]?=some (ts[j]'(by omega)):=by simp[show j<ts.length by omega]
  generalize hmd:ms[j]=m at xl;generalize hxd:(ts[j]'(by omega))=x at vl;have Va:ms.getD j default=m:=by grind
  obtain⟨o',fR,LS⟩:=bR j m xl;rw[ho]at fR;cases fR;obtain⟨ρj,q1,q2⟩:=qV j m x xl vl;simp only[IN]at q1 q2;obtain⟨g',ρ',s1,s2,s3,s4⟩:=ic;have key:∀k,k<ms.length→(k<j→k∈Xn hd j)→(j<k→j∈Xn hd k)→(k≠j)→(listed.getD k false=decide (k<j)):=by
   intro k hk ha hb cU;by_cases cc:k<j
   ·grind
   ·rw[gB cc];have sQ:j<k:=by omega
    cases hl:listed.getD k false with
    |false=>rfl
    |true=>
     have:listed.getD j false=true:=Ie D (S:=λk=>listed.getD k false) hS k hk (hS k hl).2 j (hb sQ);rw[zO]at this;cases this
  have lp:∀t,(t∈iW m)→∀k mk,ms[k]?=some mk→mk.dst=some t→k≠j→listed.getD k false=decide (k<j):=by
   intro t ht k mk hk Dt cU;have tw:k<ms.length:=(gE hk).1;have KK:ms.getD k default=mk:=by grind
   have UC:t∈eL mk:=by unfold eL;rw[Dt];simp
   refine key k tw (λcc=>?_) (λsQ=>?_) cU
   ·rcases D.nu j rQ k cc with q|⟨q,_,_⟩
    ·exact q
    grind
   ·rcases D.nu k tw j sQ with q|⟨_,_,q⟩
    ·exact q
    grind
  have iI:∀b,(b∈x.rd∨b∈x.up.map (·.1))→∀k xk,ts[k]?=some xk→b∈xk.up.map (·.1)→k≠j→listed.getD k false=decide (k<j):=by
   intro b hb k xk hk dc cU;have tw:k<ms.length:=by grind
   refine key k tw (λcc=>?_) (λsQ=>?_) cU
   ·rcases hA j rQ k cc with q|q
    ·exact q
    ·rw[qq k xk hk,qq j x vl]at q;simp only[cf,AI]at q
     grind [Hg]
   ·rcases hA k tw j sQ with q|q
    ·exact q
    ·rw[qq k xk hk,qq j x vl]at q;simp only[cf,AI]at q
     grind [Hg]
  have tv:∀k,k=j→listed.getD k false=decide (k<j):=by rintro k rfl;rw[zO];simp
  have heq:∀b,(b∈x.rd∨b∈x.up.map (·.1))→jO (λk=>listed.getD k false) 0 ts (hp σ) b=jO (λk=>decide (k<j)) 0 ts (hp σ) b:=by
   intro b hb;refine QZ _ _ _ _ (λk xk e1 e2=>?_) rfl
   grind
  unfold wpOp;simp only[ho];refine q2 n ops o LS ρ' _ w0 L g' w a (λt ht=>?_) (λb hb=>heq b (.inl hb)) (λp ia=>heq p.1 (.inr (zAh.2 ⟨p,ia,rfl⟩))) s2 s3 _ _ (λg2 w2 u hle hr sN=>?_)
  ·rw[s4 t,q1 t];refine XZ _ _ _ _ _ (λk mk e1 e2=>?_) rfl
   grind
  ·have Ak:∀k,k<ms.length→(listed.setIfInBounds j true).getD k false=if k=j then true else listed.getD k false:=by
    intro k hk;by_cases hY:k=j
    ·subst hY;simp[show k<listed.size by omega]
    ·rw[aB hY];simp[zBb (Ne.symm hY)]
   have dQ:∀k,(listed.setIfInBounds j true).getD k false=if k=j then true else listed.getD k false:=by
    intro k;by_cases hk:k<ms.length
    ·exact Ak k hk
    ·rw[aB (by omega)]
     grind
   refine ih _ _ _ (by simpa using hs) (λk hk=>?_) ?_ ⟨g2,cC m.dst x.v ρ',s1.trans hle,?_,sN,λt=>?_⟩
   ·rw[dQ]at hk;by_cases hY:k=j
    ·subst hY;refine⟨rQ,λi hi=>?_⟩;rw[dQ];split
     ·rfl
     ·exact DS i hi
    ·rw[aB hY]at hk;refine⟨(hS k hk).1,λi hi=>?_⟩;rw[dQ];split
     ·rfl
     ·exact(hS k hk).2 i hi
   ·have:=OO (S:=λk=>listed.getD k false) (S':=λk=>(listed.setIfInBounds j true).getD k false) (j:=j) (n:=ms.length) rQ zO (by simp only[dQ];simp) (λk hk cU=>by simp only[dQ];rw[aB cU]);omega
   ·have:jO (λk=>(listed.setIfInBounds j true).getD k false) 0 ts (hp σ)=cz (jO (λk=>listed.getD k false) 0 ts (hp σ)) x.up:=by
     funext b
     by_cases hb:b∈x.up.map (·.1)
     ·refine S_ ts 0 (hp σ) j x vl hb (by rw[IN,dQ,aI rfl]) (λk xk e1 e2 e3=>?_) _;rw[IN,dQ]at e3;by_cases hY:k=j
      ·omega
      grind
     ·rw[NX _ _ _ hb];refine QZ _ _ _ _ (λk xk e1 e2=>?_) rfl;rw[IN];simp only[dQ];have hY:k≠j:=by grind
      rw[aB hY]
    rw[this];exact hr
   ·rw[Y8];by_cases zX:m.dst=some t
    ·rw[aI zX];refine(Sr ms ts 0 ρ j m x xl vl zX (by rw[IN,dQ,aI rfl]) (λk mk e1 e2 e3=>?_)).symm;rw[IN,dQ]at e3;by_cases hY:k=j
     ·omega
     ·rw[aB hY]at e3;have tw:k<ms.length:=(gE e1).1;have KK:ms.getD k default=mk:=by grind
      have wO:t∈eL m:=by unfold eL;rw[zX];simp
      have wN:t∈eL mk:=by unfold eL;rw[e2];simp
      have:=key k tw (λcc=>by
       rcases D.nu j rQ k cc with q|⟨_,q,_⟩
       ·exact q
       grind) (λsQ=>by
       rcases D.nu k tw j sQ with q|⟨_,q,_⟩
       ·exact q
       grind) hY
      grind
    ·rw[aB zX,s4 t];refine XZ _ _ _ _ _ (λk mk e1 e2=>?_) rfl;rw[IN];simp only[dQ];have hY:k≠j:=by grind
     rw[aB hY]
theorem XcB(hP:P.follows .mixedOrders=true){n:Nat}{id:Nat}{ρ:Frame}{σ:List ab}{Q:eF}
 (h:i7 true P GL ms ρ σ [] (λρ' σ' lg=>Qi hd lg=true∧Q .normal ρ' σ')):iX P GL n (.region id ms (some hd)) ρ σ Q:=by
 intro c hc w0 L g a w r d;cases hc with
 |draw _ ops _ _ eN bR dY=>
  obtain⟨ts,Am⟩:=P9 ms ρ σ [] _ h;obtain⟨hlen,_,ρf,σf,_,_,wS⟩:=IA ms ts 0 ρ σ [] _ Am;rw[zAL]at wS;refine wp_region_any hP ?_;refine XcW (w0:=w0) (L:=L) (g:=g) eN bR dY Am wS.1 _ (λg' ρ' σ' a' w' k1 k2 k3 k4=>⟨g',ρ',σ',k1,k2,k3,k4.2⟩) ops.size _ a _ (by simp[eN]) (λj hj=>?_) ?_ ⟨g,ρ,Gm.Le.refl g,?_,d,λt=>?_⟩
  ·exfalso;rw[zBU,zBo]at hj;split at hj<;>simp at hj
  ·rw[eN];have:∀m,pN (λk=>(zBp ms.length false).getD k false) m<=m:=by
    intro m
    induction m<;>grind [pN]
   exact this _
  ·have hF:(λk=>(zBp ops.size false).getD k false)=λ_=>false:=by
    funext k;rw[zBU,zBo];split<;>rfl
   rw[hF];have g_:∀(ts:List TS) (i:Nat) (h:Hp),jO (λ_=>false) i ts h=h:=by
    intro ts
    induction ts<;>simp_all [jO]
   rw[g_];exact r.drew
  ·have hF:(λk=>(zBp ops.size false).getD k false)=λ_=>false:=by
    funext k;rw[zBU,zBo];split<;>rfl
   rw[hF];have g_:∀(ms:List aR) (ts:List TS) (i:Nat) (ρ:Frame),kW (λ_=>false) i ms ts ρ=ρ:=by
    intro ms
    induction ms with
    |nil=>intros;simp[kW]
    |cons m ms ih=>intro ts i ρ;cases ts<;>grind [kW]
   rw[g_]
end
end Go.Ah
end
section
namespace Go.Ah
theorem Steps.Aw{P:Program}{m m₁ t:Machine}(h:Steps P m t)(hs:step P m=.next m₁):t=m∨Steps P m₁ t:=by
 obtain⟨n,hn⟩:=h;cases n with
 |zero=>simp[runN]at hn;exact .inl hn.symm
 |succ n=>simp only[runN,hs]at hn;exact .inr ⟨n,hn⟩
theorem YbG:∀(k k':List Item) (id:Nat),exitTo id k=some k'→k'.length<=k.length
  |[],k',id,h=>by simp[exitTo]at h
  |x::k,k',id,h=>by
    have ih:=YbG k k' id;cases x<;>simp only[exitTo]at h<;>first
      |(have:=ih h;simp;omega)
      | (split at h
         · cases h;simp
         · have:=ih h;simp;omega)
variable{w:World}
variable{a:Act}
theorem Zcc{b:zDD}{a':Act}{k k':List Item}{cs:List zDD}{w':World}(h:lone (b.at a k) cs w=lone (b.at a' k') cs w'):k=k':=by
 simp_all [lone,Go.Frame.at]
theorem Qcb{b:zDD}{a':Act}{k k':List Item}{cs:List zDD}{w':World}{m:FrameMode}(hm:m≠.run)(h:lone { b.at a' k' with mode:=m } cs w'=lone (b.at a k) cs w):False:=by
 simp_all [lone,Go.Frame.at]
theorem Xdt{P:Program}{c:Code}{Q:Exit→Act→World→Prop}(hQ:∀a w,¬Q .outgrown a w)(Pg:∀l a w,¬Q (.goto l) a w)(h:(Code.loop c).wp P Q a w)(b:zDD)(k:List Item)(cs:List zDD) :
  ∃e a' w',Q e a' w'∧Arrives P (lone (b.at a (.code c::.inLoop c::k)) cs w) b k cs e a' w':=by
 obtain⟨e,a',w',hq,oJ⟩:=h b k cs;refine⟨e,a',w',hq,?_⟩;cases e with
 |normal=>
  rcases Steps.Aw oJ step_loop with e|e
  ·have:=Zcc e;have:=congrArg zCo this;simp at this
  ·exact e
 |exit id=>
  intro k' hk;rcases Steps.Aw (oJ k' hk) step_loop with e|e
  ·have:=Zcc e;have:=congrArg zCo this;have:=YbG _ _ _ hk;simp at *;omega
  ·exact e
 |goto l=>exact(Pg _ _ _ hq).elim
 |ret=>
  obtain⟨todo,hs⟩:=oJ;rcases Steps.Aw hs step_loop with e|e
  ·exact(Qcb (by simp) e).elim
  ·exact⟨todo,e⟩
 |panic ch=>
  obtain⟨todo,hs⟩:=oJ;rcases Steps.Aw hs step_loop with e|e
  ·exact(Qcb (by simp) e).elim
  ·exact⟨todo,e⟩
 |outgrown=>exact(hQ _ _ hq).elim
theorem XbB{P:Program}{c:Code}{Q:Exit→Act→World→Prop}(hQ:∀a w,¬Q .outgrown a w)(Pg:∀l a w,¬Q (.goto l) a w)
 (h:c.wp P (Exit.then (λa w=>(Code.loop c).wp P Q a w) Q) a w):(Code.loop c).wp P Q a w:=by
 intro b k cs;obtain⟨e,a₁,w₁,hq,oJ⟩:=h b (.inLoop c::k) cs;cases e with
 |normal=>
  obtain⟨e₂,a₂,w₂,La,zP⟩:=Xdt hQ Pg hq b k cs;exact⟨e₂,a₂,w₂,La,.of_steps (.one step_loop) (.of_steps (Steps.trans oJ (.one step_inLoop)) zP)⟩
 |exit id=>exact⟨_,a₁,w₁,hq,.of_steps (.one step_loop) (.pass (x:=.inLoop c) rfl (λ_ _=>.inl (by simp)) oJ)⟩
 |goto l=>exact(Pg _ _ _ hq).elim
 |ret=>exact⟨_,a₁,w₁,hq,.of_steps (.one step_loop) (.pass (x:=.inLoop c) rfl (λ_ _=>.inl (by simp)) oJ)⟩
 |panic ch=>exact⟨_,a₁,w₁,hq,.of_steps (.one step_loop) (.pass (x:=.inLoop c) rfl (λ_ _=>.inl (by simp)) oJ)⟩
 |outgrown=>exact(hQ _ _ hq).elim
theorem QcT{P:Program}{GL:aw}{n:Nat}{x:dB}{ρ:Frame}{σ:List ab}{Q:eF}(h:iX P GL n x ρ σ (eF.andThen (λρ σ=>iX P GL n (.loop x) ρ σ Q) Q)):iX P GL n (.loop x) ρ σ Q:=by
 intro c hc w0 L g a w r d;cases hc with
 |loop c1 _ h1=>
  refine XbB (λa w h=>h) (λl a w h=>h) (wp_mono (h c1 h1 w0 L g a w r d) (λe a' w' hl=>?_));cases e with
  |normal=>
   obtain⟨g',ρ',σ',k1,k2,k3,k4⟩:=hl;exact wp_mono (k4 (.loop c1) (.loop _ _ h1) w0 L g' a' w' k2 k3) (nW.mono k1 (λ_ _ _ q=>q))
  |_=>exact hl
section
variable (Wj:Bool→Nat→List aR→Frame→List ab→Log→Cons→PN)
def Ys:MK→List aa→Option (Nat×List aa)
 |.call f,xs=>some (f,xs)
 |.kf,.func (.func f) first captured::xs=>some (f,first++xs++captured)
 |.invoke _ pq,.iface t v::xs=>match Iw t pq with
  |some f=>some (f,v::xs)
  |none=>none
 |_,_=>none
end
section
variable {P:Program} {GL:aw}
theorem W_{F:vz}{f:FuncId}{k:MK}{xs ys:List aa}(hc:Ys k xs=some (f,ys))(hp:Zh P f=true)(ok:mL P GL f F)(hn:ys.length=F.np){σ:List ab}{R:KT}
 (h:iX P GL F.n F.body (eQ ys) σ (λe ρ σ'=>(e=.normal∨e=.ret)∧∃v,iK F.gP ρ σ'=some v∧R v σ')):nX P GL k xs σ R:=by
 have key:=S7 (P:=P) (GL:=GL) ok hn h;intro o os qo w0 L g w a r hx;unfold Ys at hc;split at hc
 ·cases hc;generalize ho:o.op=op at qo;cases qo with
  |call _ args ts _=>
   have bg:(execOp a.eval o).run P w=.ok (.enter f (args.map a.eval)) w:=by
    simp_all [execOp,resolve,Act.eval,zCl,invoke,X0]
   rw[bg];have:=key w0 L g w _ r hx
   rwa [←zBn,zCB]at this
 ·rename_i first captured AW
  cases hc;generalize ho:o.op=op at qo;cases qo with
  |kf x args ts=>
   obtain⟨d,dr⟩:=hx;generalize hu:a.eval x=u0 at d;cases d with
   |func _ _ _ _ vs ws h1 h2 h3 h4=>
    have bg:(execOp a.eval o).run P w=.ok (.enter f (vs++args.map a.eval++ws)) w:=by
     simp_all [execOp,resolve,zCl,invoke,X0]
    rw[bg];have hl:=dr.length;simp at hl;have:=key w0 L g w (vs ++ args.map a.eval ++ ws).toList r (dR.lR (by simp[h1,h2,hl]) (λi y u e1 e2=>by
     simp only[Array.toList_append]at e2;by_cases hi:i<first.length
     ·rw[zAb,zAU hi]at e1;rw[zAb,zAU (by simpa[h1]using hi)]at e2;exact h3 i y u e1 (by simpa using e2)
     ·by_cases uB:i<first.length+AW.length
      ·rw[zAb,zAO (by omega),zAU (by omega)]at e1;rw[zAb,zAO (by simp;omega),zAU (by simp;omega)]at e2;refine dr.get (i-first.length) y u e1 ?_;simpa[h1]using e2
      ·rw[zAO (by simp;omega)]at e1;rw[zAO (by simp;omega)]at e2;refine h4 (i - (first ++ AW).length) y u e1 ?_;simpa[h1,hl]using e2))
    rwa [zCB]at this
 ·rename_i name pq ty v AW;split at hc
  ·rename_i f' hl;cases hc;generalize ho:o.op=op at qo;cases qo with
   |invoke y _ args ts _ bR=>
    obtain⟨d,dr⟩:=hx;generalize hu:a.eval y=u0 at d;cases d with
    |iface _ _ _ vv Ls=>
     obtain⟨k1,k2⟩:=bR _ (Ru hl);have bg:(execOp a.eval o).run P w=.ok (.enter f (#[vv]++args.map a.eval)) w:=by
      simp only[execOp,ho,resolve,OF,hu,zAA,AS,invoke];have e0:(#[zBz ty vv]++args.map a.eval)[0]?=some (zBz ty vv):=by grind
      have e1:(#[zBz ty vv]++args.map a.eval).extract 1 (#[zBz ty vv]++args.map a.eval).size=args.map a.eval:=by
       simp
      grind [XbJ]
     rw[bg];have:=key w0 L g w (vv::(args.map a.eval).toList) r ⟨Ls,by rwa [zBn]⟩;have e2:(vv::(args.map a.eval).toList).toArray = #[vv]++args.map a.eval:=by apply Array.ext';simp
     rw[e2]at this;exact this
  ·cases hc
 ·cases hc
end
end Go.Ah
end
section
namespace Go.Ah
def xB:gj→Value→Bool
 |.ptr,.pointer none=>true
 |.slice,.slice none 0 0=>true
 |.iface,.nilIface=>true
 |.func,.nilFunc=>true
 |.map,.map none=>true
 |_,_=>false
theorem YdW{c:gj}{v:Value}(h:xB c v=true):v=kG c:=by
 unfold xB at h;split at h<;>first|rfl|cases h
def bP{α β:Type}(o:Option α)(f:α→Option β):Option β:=match o with
 |some a=>f a
 |none=>none
variable{α β:Type}
theorem Qd{o:Option α}{f:α→Option β}{b:β}(h:bP o f=some b):∃a,o=some a∧f a=some b:=by
 cases o with
 |none=>cases h
 |some a=>exact⟨a,rfl,h⟩
def Z3{β:Type}(c:Bool)(x:Option β):Option β:=match c with
 |true=>x
 |false=>none
theorem Qu{c:Bool}{x:Option β}{b:β}(h:Z3 c x=some b):c=true∧x=some b:=by
 cases c with
 |true=>exact⟨rfl,h⟩
 |false=>cases h
def mapM'{α β:Type}(f:α→Option β):List α→Option (List β)
 |[]=>some []
 |a::l=>bP (f a) λb=>bP (mapM' f l) λr=>some (b::r)
theorem YcL(f:α→Option β):∀(l:List α),l.mapM f=mapM' f l
 |[]=>rfl
 |a::l=>by
  rw[List.mapM_cons,YcL f l,mapM'];cases f a with
  |none=>rfl
  |some b=>cases mapM' f l<;>rfl
def zeroCells(P:Program)(t:TypeId):Option (List aa):=bP (eA P t) λv=>ZN v.cells.toList
def HZ(P:Program)(t:TypeId):Bool:=match P.underlying t with
 |some .bool=>true
 |_=>false
variable{t:TypeId}
theorem Ry{P:Program}(h:HZ P t=true):P.underlying t=some .bool:=by
 grind [HZ]
def SS(P:Program)(t:TypeId):Bool:=match P.underlying t with
 |some .string=>true
 |_=>false
theorem Xds{P:Program}(h:SS P t=true):P.underlying t=some .string:=by
 grind [SS]
def xy(P:Program)(t:TypeId):Option IntKind:=match P.underlying t with
 |some (.int k)=>some k
 |_=>none
theorem Xei{P:Program}{k:IntKind}(h:xy P t=some k):P.underlying t=some (.int k):=by
 grind [xy]
theorem XcH{P:Program}{e:TypeId}(h:fe P t=some e):P.underlying t=some (.slice e):=by
 grind [fe]
def sf(P:Program)(k:TypeId):Option Bool:=match P.underlying k with
 |some .string=>some true
 |some (.int _)=>some false
 |_=>none
theorem SM{P:Program}{k:TypeId}{s:Bool}(h:sf P k=some s):uR P k s:=by
 unfold sf at h;split at h
 ·rename_i e;cases h;exact e
 ·rename_i q e;cases h;exact⟨q,e⟩
 ·cases h
def Ou(c:gj):Operand→Bool
 |.const v=>xB c v
 |_=>false
variable{x:Operand}
theorem Zcd{c:gj}(h:Ou c x=true):x=.const (kG c):=by
 cases x<;>simp only[Ou]at h<;>first|cases h|rw[YdW h]
def C8:BinOp→Option Bool
 |.eql=>some false
 |.neq=>some true
 |_=>none
theorem Zeh{op:BinOp}{b:Bool}(h:C8 op=some b):op=if b then .neq else .eql:=by
 grind [C8]
def P'(P:Program)(op:BinOp)(t:TypeId)(x y:Operand):Option (MK×List Operand):=
 match C8 op with
 |none=>some (.bin op (HZ P t),[x,y])
 |some neq=>match uW P t with
  |some c=>match Ou c y with
   |true=>some (.oG c neq false,[x,y])
   |false=>match Ou c x with
    |true=>some (.oG c neq true,[x,y])
    |false=>some (.bin op (HZ P t),[x,y])
  |none=>match qB P t with
   |some ls=>Z3 (!P.stoodInHeld t && !P.eqGuardType P.depth t) (some (.BO neq ls,[x,y]))
   |none=>some (.bin op (HZ P t),[x,y])
def Sn(P:Program)(c:Call):Option (MK×List Operand):=
 match c.callee with
 |.value (.func f)=>Z3 (Zh P f) (some (.call f,c.args.toList))
 |.value x=>some (.kf,x::c.args.toList)
 |.invoke x name=>some (.invoke name (Zdv P name),x::c.args.toList)
 |.builtin .len=>match c.args.toList,c.argTypes.toList with
  |[x],[t]=>match P.underlying t with
   |some (.slice _)=>some (.sj,[x])
   |some .string=>some (.kE,[x])
   |some (.array n _)=>some (.sg n,[x])
   |some (.map _ _)=>some (.mV,[x])
   |_=>none
  |_,_=>none
 |.builtin .clear=>match c.args.toList,c.argTypes.toList with
  |[x],[t]=>bP (fe P t) λe=>bP (size? P e) λn=>bP (eA P e) λv=>bP (ZN v.cells.toList) λz=>
   Z3 (IT v.cells.size n && !(IT n 0)) (some (.iN n z,[x]))
  |_,_=>none
 |.builtin .min=>match c.args.toList with
  |[x,y]=>some (.min2,[x,y])
  |_=>none
 |.builtin .max=>match c.args.toList with
  |[x,y]=>some (.max2,[x,y])
  |_=>none
 |.builtin .append=>match c.args.toList,c.argTypes.toList with
  |[x,y],[t,t']=>bP (fe P t) λe=>bP (fe P t') λ_=>bP (size? P e) λn=>bP (eA P e) λv=>bP (ZN v.cells.toList) λz=>
   Z3 (IT v.cells.size n&&(!(IT (P.bytesOf e) 0) && !(IT n 0))) (some (.append n (P.bytesOf e) z,[x,y]))
  |_,_=>none
 |_=>none
def Tm:Operand→Operand→Bool
 |.tmp a,.tmp b=>IT a b
 |_,_=>false
theorem Qc0{y:Operand}(h:Tm x y=true):x=y:=by
 cases x<;>cases y<;>simp only[Tm]at h<;>first|cases h|rw[fY h]
def B'(P:Program)(ms:Array (String×TypeId))(t:TypeId):Bool:=match P.info? t with
 |some i=>match i.methods.size with
  |0=>false
  |_=>ms.toList.all λp=>i.methods.any λm=>m.name==p.1&&m.sig==p.2
 |none=>false
def Zds(P:Program)(ms:Array (String×TypeId)):List TypeId:=(zAB P.types.size).filter (B' P ms)
theorem YcY{P:Program}{ms:Array (String×TypeId)}{q:TypeId}(h:q∈Zds P ms):∃i,P.info? q=some i∧zDm ms i.methods=none:=by
 have h:=(List.mem_filter.1 h).2;unfold B' at h;split at h
 ·rename_i i hi;refine⟨i,hi,?_⟩;split at h
  ·cases h
  ·have e:(ms.toList.filter λ(x:String×TypeId)=>!i.methods.any λm=>m.name==x.1&&m.sig==x.2)=[]:=by
    grind [List.filter_eq_nil_iff]
   unfold zDm;simp only;rw[show (List.filter (λx=>match x with|(name,sig)=>!i.methods.any λm=>m.name==name&&m.sig==sig) ms.toList)=[] from e];rfl
 ·cases h
def Ri(P:Program):Op→Option (MK×List Operand)
 |.move x=>some (.mv,[x])
 |.assign x=>some (.mv,[x])
 |.pick c a b=>some (.pick,[c,a,b])
 |.alloc t=>bP (zeroCells P t) λz=>some (.alloc z,[])
 |.box _ x=>some (.box,[x])
 |.build t parts=>match P.underlying t with
  |some (.struct fs)=>bP (zeroCells P t) λz=>bP (mapM' (λf=>(P.info? f.type).map λi=>(f.offset,i.size)) fs.toList) λplaces=>
   bP (mapM' (λ(p:Nat×Operand)=>places[p.1]?) parts.toList) λps=>some (.build z ps,parts.toList.map (·.2))
  |some (.array _ e)=>bP (zeroCells P t) λz=>bP (size? P e) λsz=>some (.build z (parts.toList.map (λp=>(p.1*sz,sz))),parts.toList.map (·.2))
  |_=>none
 |.buildSlice t 0 parts=>bP (fe P t) λe=>bP (size? P e) λsz=>match parts.toList with
  |[]=>some (.lZ sz,[])
  |_=>none
 |.makeSlice t l c=>bP (fe P t) λe=>bP (size? P e) λn=>bP ((P.info? e).map (·.bytes)) λby_=>bP (eA P e) λv=>bP (ZN v.cells.toList) λz=>
  Z3 (!(IT n 0) && IT v.cells.size n) (match Tm l c with
   |true=>some (.sk n by_ z,[l])
   | false=>none)
 |.buildSlice t n parts=>bP (fe P t) λe=>bP (size? P e) λsz=>bP (eA P e) λv=>bP (ZN v.cells.toList) λz0=>
  Z3 (zAR (n*sz) (2 ^ 24)&&(!(IT (n*sz) 0)&&IT v.cells.size sz)) (some (.mP sz n (zAf n z0).flatten (parts.toList.map (λp=>(p.1*sz,sz))),parts.toList.map (·.2)))
 |.load t x=>bP (fV P t) λagg=>bP (size? P t) λn=>some (.load agg n,[x])
 |.store t x y=>bP (size? P t) λn=>some (.store n,[x,y])
 |.nilCheck x=>some (.nilCheck,[x])
 |.binOp op t x y _=>P' P op t x y
 |.unOp op _ x=>some (.un op,[x])
 |.convert s d x=>Z3 (P.underlying s).isSome (bP (xy P d) λk=>some (.conv k,[x]))
 |.makeInterface t x=>Z3 (P.concrete t) (some (.jl t,[x]))
 |.makeFunc fn xs ys=>some (.kF fn xs.size,xs.toList++ys.toList)
 |.makeMap _ none=>some (.makeMap,[])
 |.fieldAddr t x f=>match P.underlying t with
  |some (.struct fs)=>bP fs[f]? λfd=>bP (size? P fd.type) λn=>Z3 (!(IT n 0)) (some (.fieldAddr fd.offset,[x]))
  |_=>none
 |.field t x f=>match P.underlying t with
  |some (.struct fs)=>bP fs[f]? λfd=>bP (size? P fd.type) λn=>bP (fV P fd.type) λagg=>some (.field agg fd.offset n,[x])
  |_=>none
 |.indexAddr t x i=>match P.underlying t with
  |some (.array len e)=>bP (size? P e) λn=>some (.hZ len n,[x,i])
  |some (.slice e)=>bP (size? P e) λn=>some (.fK n,[x,i])
  |_=>none
 |.index t x i=>match P.underlying t with
  |some (.array len e)=>bP (size? P e) λn=>bP (fV P e) λagg=>some (.se agg len n,[x,i])
  |some .string=>some (.lM,[x,i])
  |_=>none
 |.extract x i=>some (.extract i,[x])
 |.slice t x lo hi mx=>match P.underlying t with
  |some (.slice e)=>bP (size? P e) λn=>some (.cQ n lo.isSome hi.isSome mx.isSome,[x]++lo.toList++hi.toList++mx.toList)
  |some .string=>match mx with
   |none=>some (.fj lo.isSome hi.isSome,[x]++lo.toList++hi.toList)
   |some _=>none
  |_=>none
 |.call c=>Sn P c
 |.lookup t x i ok=>match P.underlying t with
  |some (.map k e)=>bP (sf P k) λstr=>bP (eA P e) λv=>bP (qe v) λz=>some (.lookup str ok z,[x,i])
  |_=>none
 |.mapUpdate t x i y=>match P.underlying t with
  |some (.map k _)=>bP (sf P k) λstr=>some (.lO str,[x,i,y])
  |_=>none
 |.insert t x i y=>match P.underlying t with
  |some (.map k _)=>bP (sf P k) λstr=>some (.lO str,[x,i,y])
  |_=>none
 |.range t x=>Z3 (SS P t) (some (.range,[x]))
 |.next x true=>some (.next,[x])
 |.typeAssert x _ u ok=>match P.underlying u with
  |some (.interface ms)=>match ok,eA P u with
   |true,some .nilIface=>some (.gR (Zds P ms),[x])
   |_,_=>none
  |_=>Z3 (P.concrete u&&(P.underlying u).isSome) (bP (eA P u) λv=>bP (qe v) λz=>some (.fQ u ok z,[x]))
 |_=>none
section
variable {P:Program} {GL:aw}
variable{os:List Operand}
variable{k:MK}
theorem ZcV{op:BinOp}{t':TypeId}{y:Operand}(h:P' P op t x y=some (k,os)):cu P GL (.binOp op t x y t') k os:=by
 unfold P' at h;split at h
 ·cases h;exact .bin _ _ _ _ _ _ Ry
 ·rename_i neq heq;have im:=Zeh heq;split at h
  ·rename_i c hc;split at h
   ·rename_i hn;cases h;rw[im,Zcd hn];exact .wA _ _ _ _ _ hc
   ·split at h
    ·rename_i hn;cases h;rw[im,Zcd hn];exact .wz _ _ _ _ _ hc
    ·cases h;exact .bin _ _ _ _ _ _ Ry
  ·split at h
   ·rename_i ls hl;obtain⟨hg,h⟩:=Qu h;cases h;simp only[AI,zAg]at hg;rw[im];exact .BO _ _ _ _ _ _ hl hg.1 hg.2
   ·cases h;exact .bin _ _ _ _ _ _ Ry
theorem OC{a:Array α}{x:α}(h:a.toList=[x]):a = #[x]:=by
 cases a;simp at h;subst h;rfl
theorem Oa{a:Array α}{x y:α}(h:a.toList=[x,y]):a = #[x,y]:=by
 cases a;simp at h;subst h;rfl
theorem Zcq{c:Call}(h:Sn P c=some (k,os)):cu P GL (.call c) k os:=by
 unfold Sn at h;obtain⟨callee,args,ts⟩:=c;simp only at h;split at h
 ·obtain⟨hg,h⟩:=Qu h;cases h;exact .call _ _ _ hg
 ·cases h;exact .kf _ _ _
 ·cases h;refine .invoke _ _ _ _ _ (λp hp=>?_)
  grind [Zdv]
 ·split at h
  ·rename_i ha ht;have:=OC ha;subst this;have:=OC ht;subst this;split at h
   ·rename_i hu;cases h;exact .sj _ _ _ hu
   ·rename_i hu;cases h;exact .kE _ _ hu
   ·rename_i hu;cases h;exact .sg _ _ _ _ hu
   ·rename_i hu;cases h;exact .mV _ _ _ _ hu
   ·cases h
  ·cases h
 ·split at h
  ·rename_i ha ht;have:=OC ha;subst this;have:=OC ht;subst this;obtain⟨e,he,h⟩:=Qd h;obtain⟨n,hn,h⟩:=Qd h;obtain⟨v,hv,h⟩:=Qd h;obtain⟨z,hz,h⟩:=Qd h;obtain⟨hg,h⟩:=Qu h;simp only[AI,zAg]at hg;cases h;exact .iN _ e _ _ v _ he hn (λe0=>by rw[e0]at hg;cases hg.2) hv (fY hg.1) hz
  ·cases h
 ·split at h
  ·rename_i ha;have:=Oa ha;subst this;cases h;exact .min2 _ _ _
  ·cases h
 ·split at h
  ·rename_i ha;have:=Oa ha;subst this;cases h;exact .max2 _ _ _
  ·cases h
 ·split at h
  ·rename_i ha ht;have:=Oa ha;subst this;have:=Oa ht;subst this;obtain⟨e,he,h⟩:=Qd h;obtain⟨e',Pl,h⟩:=Qd h;obtain⟨n,hn,h⟩:=Qd h;obtain⟨v,hv,h⟩:=Qd h;obtain⟨z,hz,h⟩:=Qd h;obtain⟨hg,h⟩:=Qu h;simp only[AI,zAg]at hg;cases h;exact .append _ _ e _ _ _ _ v _ (XcH he) ⟨_,XcH Pl,by simp⟩ hn rfl hv (fY hg.1) hz (λe0=>by rw[e0]at hg;cases hg.2.1) (λe0=>by rw[e0]at hg;cases hg.2.2)
  ·cases h
 ·cases h
theorem Ycc{f:α→Option β}:∀ {l:List α} {r:List β},mapM' f l=some r→l.map f=r.map some
 |[],r,h=>by simp[mapM']at h;subst h;rfl
 |a::l,r,h=>by
  obtain⟨b,hb,h⟩:=Qd h;obtain⟨r',hr,h⟩:=Qd h;cases h;simp[hb,Ycc hr]
theorem Zdj{op:Op}(h:Ri P op=some (k,os)):cu P GL op k os:=by
 unfold Ri at h;split at h
 ·cases h;exact .move _
 ·cases h;exact .assign _
 ·cases h;exact .pick _ _ _
 ·obtain⟨z,hz,h⟩:=Qd h;obtain⟨v,hv,hz⟩:=Qd hz;cases h;exact .alloc _ v _ hv hz
 ·cases h;exact .box _ _
 ·split at h
  ·rename_i fs hu;obtain⟨z,hz,h⟩:=Qd h;obtain⟨v,hv,hz⟩:=Qd hz;obtain⟨places,hp,h⟩:=Qd h;obtain⟨ps,vi,h⟩:=Qd h;cases h;exact .buildStruct _ fs v _ _ places _ hu hv hz (by rw[YcL];exact hp) (Ycc vi)
  ·rename_i n e hu;obtain⟨z,hz,h⟩:=Qd h;obtain⟨v,hv,hz⟩:=Qd hz;obtain⟨sz,hs,h⟩:=Qd h;cases h;exact .oj _ n e v _ _ _ sz hu hv hz hs rfl
  ·cases h
 ·obtain⟨e,he,h⟩:=Qd h;obtain⟨sz,hs,h⟩:=Qd h;split at h
  ·rename_i hp;cases h;exact .na _ e _ _ he hs hp
  ·cases h
 ·obtain⟨e,he,h1⟩:=Qd h;obtain⟨n,hn,h2⟩:=Qd h1;obtain⟨b,hb,h3⟩:=Qd h2;obtain⟨v,hv,h4⟩:=Qd h3;obtain⟨z,hz,h5⟩:=Qd h4;obtain⟨hg,h6⟩:=Qu h5;clear h h1 h2 h3 h4 h5;simp only[AI,zAg]at hg;split at h6
  ·rename_i hs;have:=Qc0 hs;subst this;cases h6;exact .makeSlice _ _ e v _ _ _ he hn hb (λe0=>by rw[e0]at hg;cases hg.1) hv (fY hg.2) hz
  ·cases h6
 ·obtain⟨e,he,h⟩:=Qd h;obtain⟨sz,hs,h⟩:=Qd h;obtain⟨v,hv,h⟩:=Qd h;obtain⟨z0,hz,h⟩:=Qd h;obtain⟨hg,h⟩:=Qu h;simp only[AI,zAg]at hg;cases h;exact .buildSlice _ _ e v z0 _ _ _ _ he hs (iy hg.1) (λe0=>by rw[e0]at hg;cases hg.2.1) hv (fY hg.2.2) hz rfl rfl
 ·obtain⟨agg,ha,h⟩:=Qd h;obtain⟨n,hn,h⟩:=Qd h;cases h;exact .load _ _ _ _ ha hn
 ·obtain⟨n,hn,h⟩:=Qd h;cases h;exact .store _ _ _ _ hn
 ·cases h;exact .nilCheck _
 ·exact ZcV h
 ·cases h;exact .un _ _ _
 ·obtain⟨hg,h⟩:=Qu h;obtain⟨q,hq,h⟩:=Qd h;cases h;exact .conv _ _ _ _ hg (Xei hq)
 ·obtain⟨hg,h⟩:=Qu h;cases h;exact .jl _ _ hg
 ·cases h;exact .kF _ _ _
 ·cases h;exact .makeMap _
 ·split at h
  ·rename_i fs hu;obtain⟨fd,hf,h⟩:=Qd h;obtain⟨n,hn,h⟩:=Qd h;obtain⟨hg,h⟩:=Qu h;cases h;exact .fieldAddr _ _ _ fs fd n hu hf hn (λe0=>by rw[e0]at hg;cases hg)
  ·cases h
 ·split at h
  ·rename_i fs hu;obtain⟨fd,hf,h⟩:=Qd h;obtain⟨n,hn,h⟩:=Qd h;obtain⟨agg,ha,h⟩:=Qd h;cases h;exact .field _ _ _ fs fd _ _ hu hf hn ha
  ·cases h
 ·split at h
  ·rename_i len e hu;obtain⟨n,hn,h⟩:=Qd h;cases h;exact .hZ _ _ _ _ e _ hu hn
  ·rename_i e hu;obtain⟨n,hn,h⟩:=Qd h;cases h;exact .fK _ _ _ e _ hu hn
  ·cases h
 ·split at h
  ·rename_i len e hu;obtain⟨n,hn,h⟩:=Qd h;obtain⟨agg,ha,h⟩:=Qd h;cases h;exact .se _ _ _ _ e _ _ hu hn ha
  ·rename_i hu;cases h;exact .lM _ _ _ hu
  ·cases h
 ·cases h;exact .extract _ _
 ·split at h
  ·rename_i e hu;obtain⟨n,hn,h⟩:=Qd h;cases h;exact .cQ _ _ _ _ _ e _ hu hn
  ·rename_i hu;split at h
   ·cases h;exact .fj _ _ _ _ hu
   ·cases h
  ·cases h
 ·exact Zcq h
 ·split at h
  ·rename_i k e hu;obtain⟨s,hs,h⟩:=Qd h;obtain⟨v,hv,h⟩:=Qd h;obtain⟨z,hz,h⟩:=Qd h;cases h;exact .lookup _ k e _ _ _ _ v _ hu (SM hs) hv hz
  ·cases h
 ·split at h
  ·rename_i k e hu;obtain⟨s,hs,h⟩:=Qd h;cases h;exact .mapUpdate _ k e _ _ _ _ hu (SM hs)
  ·cases h
 ·split at h
  ·rename_i k e hu;obtain⟨s,hs,h⟩:=Qd h;cases h;exact .mapInsert _ k e _ _ _ _ hu (SM hs)
  ·cases h
 ·obtain⟨hg,h⟩:=Qu h;cases h;exact .range _ _ (Xds hg)
 ·cases h;exact .next _
 ·split at h
  ·rename_i hu;split at h
   ·rename_i hz;cases h;exact .gR _ _ _ _ _ hu hz (λq hq=>YcY hq)
   ·cases h
  ·obtain⟨hg,h⟩:=Qu h;simp only[AI]at hg;obtain⟨v,hv,h⟩:=Qd h;obtain⟨z,hz,h⟩:=Qd h;cases h;exact .fQ _ _ _ _ v _ hg.1 hg.2 hv hz
 ·cases h
end
end Go.Ah
end
section
namespace Go.Ah
def N1(g:Nat):aw→Option (List aa)
 |[]=>none
 |(q,row)::r=>match IT g q with
  |true=>some row
  |false=>N1 g r
theorem Zca{g:Nat}{row:List aa}:∀ {GL:aw},N1 g GL=some row→(g,row)∈GL
 |[],h=>by cases h
 |(q,r)::GL,h=>by
  simp only[N1]at h;split at h
  ·rename_i e;cases h;rw[fY e];simp
  ·exact zAr _ (Zca h)
def SK(GL:aw):Operand→Option sJ
 |.tmp t=>some (.t t)
 |.const v=>bP (qe v) λx=>some (.c x)
 |.global g=>bP (N1 g GL) λrow=>some (.c (.aq row 0))
 |.func f=>some (.c (.func (.func f) [] []))
variable{GL:aw}
theorem XbD{x:Operand}{y:sJ}(h:SK GL x=some y):k_ GL x y:=by
 cases x with
 |tmp t=>cases h;exact .tmp _
 |const v=>obtain⟨z,hz,h⟩:=Qd h;cases h;exact .const _ _ hz
 |global g=>obtain⟨z,hz,h⟩:=Qd h;cases h;exact .J6 _ _ (Zca hz)
 |func f=>cases h;exact .func _
variable{α β:Type}
theorem Nh{f:α→Option β}{R:α→β→Prop}(hR:∀ {a b},f a=some b→R a b):∀ {l:List α} {r:List β},mapM' f l=some r→lX R l r
 |[],r,h=>by simp[mapM']at h;subst h;trivial
 |a::l,r,h=>by
  obtain⟨b,hb,h⟩:=Qd h;obtain⟨r',hr,h⟩:=Qd h;cases h;exact⟨hR hb,Nh hR hr⟩
def JT(n:Nat):Option Nat→Bool
 |none=>true
 |some d=>zAn d n
def Xdi(ops:List Oper):Option (Nat×Bool)→Option (Option (Nat×Bool))
 |none=>some none
 |some (j,w)=>bP (nth ops j) λo=>bP o.dst λs=>some (some (s,w))
def ZcE(P:Program)(GL:aw)(o:Op):Option (MK×List sJ):=bP (Ri P o) λ(k,os)=>bP (mapM' (SK GL) os) λxs=>some (k,xs)
def Ig(P:Program)(GL:aw)(n:Nat)(ops:List Oper)(o:Oper):Option aR:=
 Z3 (JT n o.dst) (bP (Xdi ops o.guard) λg=>match ZcE P GL o.op with
  |some (k,xs)=>some ⟨o.dst,k,xs,g⟩
  | none=>some ⟨o.dst,.bad,[],g⟩)
variable{n:Nat}
variable{P:Program}
theorem R'{ops:Array Oper}{o:Oper}{m:aR}(h:Ig P GL n ops.toList o=some m):gk P GL n ops o m:=by
 unfold Ig at h;obtain⟨hd,h⟩:=Qu h;obtain⟨g,hg,h⟩:=Qd h;have hk:∃k xs,m=⟨o.dst,k,xs,g⟩∧∃os,cu P GL o.op k os∧lX (k_ GL) os xs:=by
  split at h
  ·rename_i k xs hk;cases h;unfold ZcE at hk;obtain⟨⟨k,os⟩,hc,hk⟩:=Qd hk;obtain⟨xs,hx,hk⟩:=Qd hk;cases hk;exact⟨_,_,rfl,os,Zdj hc,Nh XbD hx⟩
  ·cases h;exact⟨_,_,rfl,[],.bad _,trivial⟩
 obtain⟨k,xs,rfl,vh⟩:=hk;refine⟨rfl,λd e=>?_,vh,?_⟩
 ·simp only at e;rw[e]at hd;exact iy hd
 ·cases hog:o.guard with
  |none=>rw[hog]at hg;cases hg;trivial
  |some jw=>
   obtain⟨j,w⟩:=jw;rw[hog]at hg;obtain⟨o',fR,hg⟩:=Qd hg;obtain⟨s,hs,hg⟩:=Qd hg;cases hg<;>simp_all [Y3]
theorem Ij{l:List Nat}:kY l n=true↔n∈l:=by
 induction l with
 |nil=>simp[kY]
 |cons x l ih=>
  simp only[kY,zBS,ih,zAS]
  grind [fY,zBf]
def Jg{β:Type}:List Nat→List Nat→(List Nat→β)→β
 |[],l,k=>k l
 |x::xs,l,k=>match kY l x with
  |true=>Jg xs l k
  |false=>Jg xs (x::l) k
def j8:List (List Nat)→Nat→List Nat
 |[],_=>[]
 |x::_,0=>x
 |_::l,n+1=>j8 l n
def rC{β:Type}(acc:List (List Nat)):List Nat→List Nat→(List Nat→β)→β
 |[],s,k=>k s
 |i::r,s,k=>Jg (i::j8 acc i) s λs=>rC acc r s k
def pZ{β:Type}(s:List Nat):Nat→List Nat→(List Nat→β)→β
 |0,l,k=>k l
 |i+1,l,k=>match kY s i with
  |true=>pZ s i (i::l) k
  |false=>pZ s i l k
def Hj{β:Type}:List (List Nat)→Nat→List (List Nat)→(List (List Nat)→β)→β
 |[],_,acc,k=>k acc
 |w::r,j,acc,k=>rC acc w [] λs=>pZ s j [] λl=>vU (acc++[l]) λacc=>Hj r (j+1) acc k
def tc(p:Nat→Bool):Nat→Bool
 |0=>true
 |i+1=>p i&&tc p i
def td(p:Nat→Bool):List Nat→Bool
 |[]=>true
 |x::l=>p x&&td p l
def pP:List Nat→List Nat→Bool
 |[],_=>true
 |x::a,b=>!(kY b x)&&pP a b
def uk(n:Nat)(ws hd ds us:List (List Nat)):Bool:=
 tc (λj=>vU (j8 ws j) λwj=>vU (j8 hd j) λhj=>vU (j8 ds j) λdj=>vU (j8 us j) λuj=>
  td (λi=>zAn i j) wj && (td (λi=>zAn i j && (kY wj i || !(td (λk=>!(kY (j8 hd k) i)) wj))) hj &&
  tc (λi=>kY hj i || (pP (j8 ds i) uj && (pP (j8 ds i) dj && pP (j8 us i) dj))) j)) n
def pR{α β:Type}(f:α→List Nat):List α→(List (List Nat)→β)→β
 |[],k=>k []
 |x::r,k=>vU (f x) λl=>pR f r λr=>k (l::r)
theorem QcG(f:α→List Nat):∀(l:List α) (k:List (List Nat)→β),pR f l k=k (l.map f)
 |[],_=>rfl
 |x::r,k=>by simp only[pR,IL,QcG f r,zAN]
theorem GX:∀(l:List (List Nat)) (n:Nat),j8 l n=(l[n]?).getD []
 |[],_=>rfl
 |x::_,0=>rfl
 |_::l,n+1=>by simp[j8,GX l n]
theorem HS{p:Nat→Bool}:∀ {n:Nat},tc p n=true→∀i,i<n→p i=true
 |0,_,i,h=>by omega
 |n+1,h,i,hi=>by
  simp only[tc,AI]at h;by_cases e:i=n
  ·rw[e];exact h.1
  ·exact HS h.2 i (by omega)
theorem Sm{p:Nat→Bool}:∀ {l:List Nat},td p l=true↔∀i∈l,p i=true
 |[]=>by simp[td]
 |x::l=>by simp only[td,AI,Sm (l:=l),zAS,forall_eq_or_imp]
theorem YcF:∀ {a b:List Nat},pP a b=true→dS a b=true
 |[],_,_=>rfl
 |x::a,b,h=>by
  simp only[pP,dS,AI,zAg]at h ⊢;refine⟨?_,YcF h.2⟩;cases e:b.contains x with
  |false=>rfl
  |true=>rw[Ij.2 (zBZ.1 e)]at h;cases h.1
theorem QdR{ops:List Oper}{ms:List aR}{hd:List (List Nat)}(h1:IT ops.length ms.length=true)(h2:IT hd.length ms.length=true)(h:uk ms.length (ops.map waits) hd (ms.map eL) (ms.map iW)=true):zy ops ms hd=true:=by
 have e1:=fY h1;unfold uk at h;simp only[IL]at h;unfold zy;simp only[AI,zAm,zBD,zBS,List.any_eq_true];have key:=λj hj=>HS h j hj;simp only[AI,Sm]at key;have hw:∀j,j<ms.length→j8 (ops.map waits) j=waits (ops.getD j default):=by
  simp_all [GX]
 have pE:∀j,j8 hd j=Xn hd j:=λj=>GX _ _;have Ds:∀j,j<ms.length→j8 (ms.map eL) j=eL (ms.getD j default):=by
  simp_all [GX]
 have VA:∀j,j<ms.length→j8 (ms.map iW) j=iW (ms.getD j default):=by
  simp_all [GX]
 refine⟨⟨⟨⟨h1,h2⟩,λj hj i hi=>?_⟩,λj hj i hi=>?_⟩,λj hj i hi=>?_⟩
 ·simp_all
 ·have:=(key j hj).2.1 i (by rw[pE];exact hi);rw[hw j hj]at this;refine⟨this.1,?_⟩;have q:=this.2;simp only[zBS,Ij,zAg]at q
  grind [Sm,Ij]
 ·have:=HS (key j hj).2.2 i hi;rw[pE,Ds j hj,VA j hj,Ds i (by omega),VA i (by omega)]at this;simp only[zBS,AI,Ij]at this
  grind [YcF]
theorem Yca:∀(ws:List (List Nat)) (j:Nat) (acc:List (List Nat)) (k:List (List Nat)→β),∃hd,Hj ws j acc k=k hd
 |[],_,acc,_=>⟨acc,rfl⟩
 |w::r,j,acc,k=>by
  have hu:∀ {γ:Type} (xs l:List Nat) (k:List Nat→γ),∃s,Jg xs l k=k s:=by
   intro γ xs
   induction xs with
   |nil=>intro l k;exact⟨l,rfl⟩
   |cons x xs ih=>
    intro l k;unfold Jg;cases kY l x<;>simp_all
  have hc:∀ {γ:Type} (w s:List Nat) (k:List Nat→γ),∃s',rC acc w s k=k s':=by
   intro γ w
   induction w with
   |nil=>intro s k;exact⟨s,rfl⟩
   |cons i w ih=>
    intro s k;unfold rC;obtain⟨s1,h1⟩:=hu (i::j8 acc i) s (λs=>rC acc w s k);rw[h1];exact ih s1 k
  have hs:∀ {γ:Type} (s:List Nat) (j:Nat) (l:List Nat) (k:List Nat→γ),∃l',pZ s j l k=k l':=by
   intro γ s j
   induction j with
   |zero=>intro l k;exact⟨l,rfl⟩
   |succ j ih=>
    intro l k;unfold pZ;cases kY s j<;>simp_all
  unfold Hj;obtain⟨s,h1⟩:=hc w [] (λs=>pZ s j [] λl=>vU (acc++[l]) λacc=>Hj r (j+1) acc k);rw[h1];obtain⟨l,h2⟩:=hs s j [] (λl=>vU (acc++[l]) λacc=>Hj r (j+1) acc k);simp_all [IL,Yca]
def Yz(P:Program)(GL:aw)(n:Nat):Code→Option dB
 |.skip=>some .skip
 |.region id ops dr=>bP (mapM' (Ig P GL n ops.toList) ops.toList) λms=>match dr with
  |false=>some (.region id ms none)
  |true=>pR waits ops.toList λws=>Hj ws 0 [] λhd=>pR eL ms λds=>pR iW ms λus=>
   Z3 (IT ops.toList.length ms.length&&(IT hd.length ms.length&&uk ms.length ws hd ds us)) (some (.region id ms (some hd)))
 |.seq a b=>bP (Yz P GL n a) λx=>bP (Yz P GL n b) λy=>some (.seq x y)
 |.cond c a b=>bP (SK GL c) λd=>bP (Yz P GL n a) λx=>bP (Yz P GL n b) λy=>some (.cond d x y)
 |.block id a=>bP (Yz P GL n a) λx=>some (.block id x)
 |.loop a=>bP (Yz P GL n a) λx=>some (.loop x)
 |.scope a=>bP (Yz P GL n a) λx=>some (.scope x)
 |.exit id=>some (.exit id)
 |.label l=>some (.label l)
 |.ret=>some .ret
 |_=>none
theorem OG{f:α→Option β}:∀ {l:List α} {r:List β},mapM' f l=some r→l.length=r.length∧∀(j:Nat) (b:β),r[j]?=some b→∃a,l[j]?=some a∧f a=some b
 |[],r,h=>by simp[mapM']at h;subst h;simp
 |a::l,r,h=>by
  obtain⟨b,hb,h⟩:=Qd h;obtain⟨r',hr,h⟩:=Qd h;cases h;obtain⟨h1,h2⟩:=OG hr
  grind
theorem Y':∀ {c:Code} {m:dB},Yz P GL n c=some m→cG P GL n c m:=by
 intro c
 induction c with
 |skip=>intro m h;cases h;exact .skip
 |region id ops dr=>
  intro m h;simp only[Yz]at h;obtain⟨ms,hm,h⟩:=Qd h;obtain⟨h1,h2⟩:=OG hm;have bR:∀(j:Nat) (x:aR),ms[j]?=some x→∃o,ops[j]?=some o∧gk P GL n ops o x:=λj x e=>by
   grind [R']
  cases dr with
  |false=>cases h;exact .region _ _ _ (by simpa using h1) bR
  |true=>
   simp only[QcG]at h;obtain⟨hd,hh⟩:=Yca (ops.toList.map waits) 0 [] (λhd=>Z3 (IT ops.toList.length ms.length&&(IT hd.length ms.length&&uk ms.length (ops.toList.map waits) hd (ms.map eL) (ms.map iW))) (some (dB.region id ms (some hd))));rw[hh]at h;obtain⟨hg,h⟩:=Qu h;simp only[AI]at hg;cases h;exact .draw _ _ _ _ (by simpa using h1) bR (QdR hg.1 hg.2.1 hg.2.2)
 |seq a b VI VJ=>
  intro m h;simp only[Yz]at h;obtain⟨x,hx,h⟩:=Qd h;obtain⟨y,hy,h⟩:=Qd h;cases h;exact .seq _ _ _ _ (VI hx) (VJ hy)
 |cond c a b VI VJ=>
  intro m h;simp only[Yz]at h;obtain⟨d,hd,h⟩:=Qd h;obtain⟨x,hx,h⟩:=Qd h;obtain⟨y,hy,h⟩:=Qd h;cases h;exact .cond _ _ _ _ _ _ (XbD hd) (VI hx) (VJ hy)
 |block id a ih=>
  intro m h;simp only[Yz]at h;obtain⟨x,hx,h⟩:=Qd h;cases h;exact .block _ _ _ (ih hx)
 |loop a ih=>
  intro m h;simp only[Yz]at h;obtain⟨x,hx,h⟩:=Qd h;cases h;exact .loop _ _ (ih hx)
 |scope a ih=>
  intro m h;simp only[Yz]at h;obtain⟨x,hx,h⟩:=Qd h;cases h;exact .scope _ _ (ih hx)
 |exit id=>intro m h;cases h;exact .exit _
 |label l=>intro m h;cases h;exact .label _
 |ret=>intro m h;cases h;exact .ret
 |_=>intro m h;simp[Yz]at h
def RY(P:Program):ResultVar→Option RV
 |.tmp t=>some (.t t)
 |.cell s t=>bP (fV P t) λagg=>bP (size? P t) λn=>some (.c s agg n)
theorem W5{r:ResultVar}{v:RV}(h:RY P r=some v):sZ P r v:=by
 cases r with
 |tmp t=>cases h;exact .tmp _
 |cell s t=>
  obtain⟨agg,ha,h⟩:=Qd h;obtain⟨n,hn,h⟩:=Qd h;cases h;exact .cell _ _ _ _ ha hn
def Tq(P:Program)(GL:aw)(np:Nat)(f:FuncId):Option vz:=
 bP P.funcs[f]? λfn=>bP fn.body λc=>Z3 (zAR np fn.ntmps) (bP (Yz P GL fn.ntmps c) λm=>bP (mapM' (RY P) fn.results.toList) λrs=>some ⟨np,fn.ntmps,m,rs⟩)
theorem Ydi{np:Nat}{f:FuncId}{F:vz}(h:Tq P GL np f=some F):mL P GL f F:=by
 unfold Tq at h;obtain⟨fn,h1,h⟩:=Qd h;obtain⟨c,h2,h⟩:=Qd h;obtain⟨h3,h⟩:=Qu h;obtain⟨m,h4,h⟩:=Qd h;obtain⟨rs,h5,h⟩:=Qd h;cases h;exact⟨⟨fn,c,h1,h2,rfl,Y' h4,Nh W5 h5⟩,iy h3⟩
theorem aA.ptr{h0:Hp}{rd:List Nat}{b i j sz:Nat}{rs:List (List aa)}{row row':List aa}(hb:h0 b=some (.rows sz rs))(dc:b∈rd)(hi:rs[i]?=some row)(hr:bd h0 rd row row'):aA h0 rd (.ptr b i j) (.aq row' j):=by
 intro GL w0 L g h w M2 r hM cO v d;have cj:h b=some (.rows sz rs):=by rw[cO b dc];exact hb
 cases d with
 |ptr _ _ _ _ cb ec=>
 cases b_:cb.cR with
 |true=>
  have:=(r.h_ cj ec b_).2;subst this;simp at hi
 |false=>
 obtain⟨e1,arr,T,fR,hs,hle,ee,c_⟩:=r.fT cj ec b_;have hw:M2 cb.blk=some (.cells arr T (0,0)):=hM.2 b _ cb _ cj rfl ec b_ fR;have cc:i<rs.length:=(gE hi).1;have tB:=ee _ _ hi;have nL:∀k,k<sz→cb.base+i*sz+k<arr.size:=by
  intro k hk;have:(i+1)*sz<=rs.length*sz:=zAE sz cc;rw[zBQ]at this;omega
 obtain⟨k1,k2⟩:=hr.get r hM cO (vs:=(arr.extract (cb.base + i * sz) (cb.base + i * sz + sz)).toList) (by
  simp[tB];by_cases h0:sz=0
  ·subst h0;simp
  ·have:=nL (sz-1) (by omega);omega) (λk x v q3 q4=>by
  have hk:k<sz:=by rw[←tB];exact(gE q3).1
  have dO:=nL k hk;rw[zBO]at q4;obtain⟨_,q4⟩:=Array.getElem?_eq_some_iff.1 q4;rw[zBx]at q4;exact c_ _ row k x v hi q3 (by rw[zBF dO,q4]))
 have hlen:row'.length=sz:=by
  rw[k1];simp;by_cases h0:sz=0
  ·subst h0;simp
  ·have:=nL (sz-1) (by omega);omega
 rw[e1];refine .aq _ _ _ _ _ (λk=>(arr[cb.base+i*sz+k]?).getD undef) (λk hk=>?_) (λk x e=>?_)
 ·have wX:=nL k (by omega);simp[iR,hw,wX]
 ·have hk:k<sz:=by rw[←hlen];exact(gE e).1
  have dO:=nL k hk;simp only[zBF dO,zAt];refine k2 k x _ e ?_;rw[zBO,zBF (by simp;omega),zBx]
def Je(f:List aa→Option (List aa×List Nat)):List (List aa)→Option (List (List aa)×List Nat)
 |[]=>some ([],[])
 |r::rs=>match f r,Je f rs with
  |some (r',rd),some (rs',ly)=>some (r'::rs',rd++ly)
  |_,_=>none
def vr:List (aa×aa)→Bool
 |[]=>true
 |(k,v)::r=>k.ro&&(v.ro&&vr r)
def Xy(σ:List ab):Nat→List aa→Option (List aa×List Nat)
 |_,[]=>some ([],[])
 |0,_::_=>none
 |fuel+1,x::xs=>match Xy σ fuel xs with
  |none=>none
  |some (ys,rd)=>match x with
   |.ak b j=>match ai σ b with
    |.box row=>match Xy σ fuel row with
     |some (row',ly)=>some (.aq row' j::ys,b::ly++rd)
     |none=>none
    |_=>none
   |.ptr b i j=>match ai σ b with
    |.rows _ rs=>match nth rs i with
     |some row=>match Xy σ fuel row with
      |some (row',ly)=>some (.aq row' j::ys,b::ly++rd)
      |none=>none
     |none=>none
    |_=>none
   |.sl b off len ex=>match ai σ b with
    | .rows sz rs=>bif zAR (off + len) rs.length then (match Je (Xy σ fuel) (cut off (off + len) rs)with
     |some (rs',ly)=>some (.aW ex false sz rs'::ys,b::ly++rd)
     | none=>none)else none
    |_=>none
   |.map b=>match ai σ b with
    |.map es=>bif vr es then some (.fN es::ys,b::rd)else none
    |_=>none
   |.iface t v=>match Xy σ fuel [v]with
    |some ([v'],ly)=>some (.iface t v'::ys,ly++rd)
    |_=>none
   |.agg cs=>match Xy σ fuel cs with
    |some (BG,ly)=>some (.agg BG::ys,ly++rd)
    |_=>none
   |.func fn a b=>match Xy σ fuel a,Xy σ fuel b with
    |some (a',ly),some (b',Wf)=>some (.func fn a' b'::ys,ly++Wf++rd)
    |_,_=>none
   |x=>bif x.ro then some (x::ys,rd)else none
theorem R0:∀ {es:List (aa×aa)},vr es=true→∀p∈es,p.1.ro=true∧p.2.ro=true
 |[],_,_,h=>by cases h
 |(k,v)::r,h,p,hp=>by
  simp only[vr,AI]at h;rcases zAS.1 hp with rfl|hp
  ·exact⟨h.1,h.2.1⟩
  ·exact R0 h.2.2 p hp
theorem XbI{f:List aa→Option (List aa×List Nat)}:∀ {rs rs':List (List aa)} {rd:List Nat},Je f rs=some (rs',rd)→rs'.length=rs.length∧∀(i:Nat) (r r':List aa),rs[i]?=some r→rs'[i]?=some r'→∃ly,f r=some (r',ly)∧∀b∈ly,b∈rd
 |[],rs',rd,h=>by simp only[Je]at h;cases h;simp
 |r::rs,rs',rd,h=>by
  simp only[Je]at h;split at h
  ·rename_i r1 xF rs1 sv e1 e2;cases h;obtain⟨h1,h2⟩:=XbI e2;refine⟨by simp[h1],λi x x' q1 q2=>?_⟩;cases i with
   |zero=>simp at q1 q2;subst q1 q2;exact⟨xF,e1,λb hb=>zAF.2 (.inl hb)⟩
   |succ i=>
    simp at q1 q2;obtain⟨ly,k1,k2⟩:=h2 i x x' q1 q2;exact⟨ly,k1,λb hb=>zAF.2 (.inr (k2 b hb))⟩
  ·cases h
theorem X4{σ:List ab}:∀(fuel:Nat) (xs ys:List aa) (rd:List Nat),Xy σ fuel xs=some (ys,rd)→∀ly,(∀b∈rd,b∈ly)→bd (hp σ) ly xs ys:=by
 intro fuel
 induction fuel with
 |zero=>
  intro xs ys rd h ly hs;cases xs<;>simp_all [Xy,bd.nil]
 |succ fuel ih=>
  intro xs ys rd h ly hs;cases xs with
  |nil=>simp_all [Xy]
  |cons x xs=>
   simp only[Xy]at h;cases h0:Xy σ fuel xs with
   |none=>simp[h0]at h
   |some p=>
    obtain⟨ys0,rd0⟩:=p;simp only[h0]at h;split at h
    ·rename_i b j;split at h<;>grind [bd.cons,aA.box,ZR]
    ·rename_i b i j;split at h
     ·rename_i sz rs hg;split at h<;>grind [Y3,bd.cons,aA.ptr,ZI]
     ·cases h
    ·rename_i b off len ex;split at h
     ·rename_i sz rs hg
      replace h:=QF h
      obtain⟨hle,h⟩:=h;split at h
      ·rename_i rs' xF hr;cases h;obtain⟨m1,m2⟩:=XbI hr;have KU:=iy hle;refine bd.cons (aA.sl (ZI hg) (hs _ (by simp)) KU (by rw[m1,Il KU];omega) (λi r r' q1 q2=>?_)) (ih _ _ _ h0 ly (λq hq=>hs q (by simp[hq])));have hi:i<len:=by
        grind [Il]
       have hc:(cut off (off+len) rs)[i]?=some r:=by
        grind [cut]
       grind
      ·cases h
     ·cases h
    ·rename_i b;split at h
     ·rename_i es hg
      replace h:=QF h
      obtain⟨ln,h⟩:=h;cases h;exact bd.cons (aA.map (Ii hg) (hs _ (by simp)) (R0 ln)) (ih _ _ _ h0 ly (λq hq=>hs q (by simp[hq])))
     ·cases h
    ·split at h
     ·rename_i v' xF hr;cases h;have:=ih _ _ _ hr ly (λq hq=>hs q (by simp[hq]));refine bd.cons (aA.iface (λGL w0 L g h w M2 r hM cO v d=>?_)) (ih _ _ _ h0 ly (λq hq=>hs q (by simp[hq])));exact(this GL w0 L g h w M2 r hM cO [v] ⟨d,trivial⟩).1
     ·cases h
    ·grind [bd.cons,aA.agg]
    ·grind [bd.cons,aA.func]
    ·replace h:=QF h
     grind [bd.cons,aA.ro]
end Go.Ah
end
section
namespace Go.Ah
mutual
def aa.cx (m:Nat→Option Nat):aa→aa
 |.ak b j=>match m b with
  |some b'=>.ak b' j
  |none=>.aQ
 |.ptr b i j=>match m b with
  |some b'=>.ptr b' i j
  |none=>.aQ
 |.sl b off len ex=>match m b with
  |some b'=>.sl b' off len ex
  |none=>.aQ
 |.map b=>match m b with
  |some b'=>.map b'
  |none=>.aQ
 |.iter b=>match m b with
  |some b'=>.iter b'
  |none=>.aQ
 |.func fn xs ys=>.func fn (iu m xs) (iu m ys)
 |.iface t v=>.iface t (v.cx m)
 |.agg cs=>.agg (iu m cs)
 |.bp cs=>.bp (iu m cs)
 |.when cs x=>.when cs (x.cx m)
 |.aQ=>.aQ
 |.bool b=>.bool b
 |.int k n=>.int k n
 |.str s=>.str s
 |.fo=>.fo
 |.aq row j=>.aq row j
 |.al=>.al
 |.cY=>.cY
 |.aW a b c d=>.aW a b c d
 |.fN es=>.fN es
 |.cW=>.cW
 |.bK=>.bK
 |.dw=>.dw
def iu (m:Nat→Option Nat):List aa→List aa
 |[]=>[]
 |x::xs=>x.cx m::iu m xs
end
theorem Sv(m:Nat→Option Nat):∀xs:List aa,iu m xs=xs.map (aa.cx m)
 |[]=>rfl
 |x::xs=>by simp[iu,Sv m xs]
variable{xs:List aa}
theorem G9{m:Nat→Option Nat}{i:Nat}{y:aa}(h:(iu m xs)[i]?=some y):∃x,xs[i]?=some x∧y=x.cx m:=by
 rw[Sv,zAT]at h
 grind
theorem YA(m:Nat→Option Nat)(xs:List aa):(iu m xs).length=xs.length:=by rw[Sv];simp
variable{c:Own}
variable{M:Nat→Option Obj}
theorem Den.cx{m:Nat→Option Nat}{c':Own}{x:aa}{v:Value}(h:Den M c x v):(∀b b' cb,m b=some b'→c b=some cb→c' b'=some cb)→Den M c' (x.cx m) v:=by
 induction h with
 |aQ=>intro _;exact .aQ _ _
 |bool=>intro _;exact .bool _ _
 |int=>intro _;exact .int _ _ _
 |str=>intro _;exact .str _ _
 |fo=>intro _;exact .fo _
 |ak c b j cb e=>
  intro hm;simp only[aa.cx];cases hb:m b with
  |none=>exact .aQ _ _
  |some b'=>exact .ak _ _ _ _ (hm _ _ _ hb e)
 |ptr c b i j cb e=>
  intro hm;simp only[aa.cx];cases hb:m b with
  |none=>exact .aQ _ _
  |some b'=>exact .ptr _ _ _ _ _ (hm _ _ _ hb e)
 |aq c row j blk off f h1 h2 ih=>intro _;exact .aq _ _ _ _ _ f h1 h2
 |al=>intro _;exact .al _
 |cY=>intro _;exact .cY _ _
 |sl c b off len ex cb cap e h1 h2 h3 h4=>
  intro hm;simp only[aa.cx];cases hb:m b with
  |none=>exact .aQ _ _
  |some b'=>exact .sl _ _ _ _ _ _ _ (hm _ _ _ hb e) h1 h2 h3 h4
 |pg c b ex cb a e h1=>
  intro hm;simp only[aa.cx];cases hb:m b with
  |none=>exact .aQ _ _
  |some b'=>exact .pg _ _ _ _ _ (hm _ _ _ hb e) h1
 |sle c b off ex cb a e h1 h2 h3=>
  intro hm;simp only[aa.cx];cases hb:m b with
  |none=>exact .aQ _ _
  |some b'=>exact .sle _ _ _ _ _ _ (hm _ _ _ hb e) h1 h2 h3
 |aW c ex nn sz rows a cap blk off f h1 h2 h3 uZ h4 h5 h6 h7 ih=>intro _;exact .aW _ _ _ _ _ _ _ blk off f h1 h2 h3 uZ h4 h5 h6 h7
 |map c b cb e=>
  intro hm;simp only[aa.cx];cases hb:m b with
  |none=>exact .aQ _ _
  |some b'=>exact .map _ _ _ (hm _ _ _ hb e)
 |fN c es blk arr clock e h1 h2 h3 vo vp=>intro _;exact .fN _ _ _ _ _ e h1 h2 h3
 |cW=>intro _;exact .cW _
 |func c fn first captured vs ws h1 h2 h3 h4 vo vp=>
  intro hm;simp only[aa.cx];exact .func _ _ _ _ _ _ (by rw[YA];exact h1) (by rw[YA];exact h2)
   (λi y u e1 e2=>by obtain⟨x,q1,rfl⟩:=G9 e1;exact vo i x u q1 e2 hm) (λi y u e1 e2=>by obtain⟨x,q1,rfl⟩:=G9 e1;exact vp i x u q1 e2 hm)
 |bK=>intro _;exact .bK _
 |iface c t x v h ih=>intro hm;exact .iface _ _ _ _ (ih hm)
 |dw=>intro _;exact .dw _
 |agg c cs vs h1 h2 ih=>intro hm;simp only[aa.cx];exact .agg _ _ _ (by rw[YA];exact h1) (λi y u e1 e2=>by obtain⟨x,q1,rfl⟩:=G9 e1;exact ih i x u q1 e2 hm)
 |bp c cs vs h1 h2 ih=>intro hm;simp only[aa.cx];exact .bp _ _ _ (by rw[YA];exact h1) (λi y u e1 e2=>by obtain⟨x,q1,rfl⟩:=G9 e1;exact ih i x u q1 e2 hm)
 |when c cs x v h h2 ih=>intro hm;exact .when _ _ _ _ (λhp=>ih hp hm) h2
 |iter c b cb e=>
  intro hm;simp only[aa.cx];cases hb:m b with
  |none=>exact .aQ _ _
  |some b'=>exact .iter _ _ _ (hm _ _ _ hb e)
mutual
def aa.dz:aa→Bool
 |.aq _ _=>false
 |.aW _ _ _ (_::_)=>false
 |.fN _=>false
 |.func _ xs ys=>iC xs&&iC ys
 |.iface _ v=>v.dz
 |.agg cs=>iC cs
 |.bp cs=>iC cs
 |.when _ x=>x.dz
 |_=>true
def iC:List aa→Bool
 |[]=>true
 |x::xs=>x.dz&&iC xs
end
theorem IJ:∀ {xs:List aa} {i:Nat} {x:aa},iC xs=true→xs[i]?=some x→x.dz=true
 |[],i,x,_,e=>by simp at e
 |y::xs,0,x,h,e=>by simp_all [iC]
 |y::xs,i+1,x,h,e=>by simp[iC]at h;simp at e;exact IJ h.2 e
mutual
theorem aa.kI (m:Nat→Option Nat):∀(x:aa),x.dz=true→(x.cx m).dz=true
 |.ak b j,_=>by simp only[aa.cx];split<;>rfl
 |.ptr b i j,_=>by simp only[aa.cx];split<;>rfl
 |.sl b off len ex,_=>by simp only[aa.cx];split<;>rfl
 |.map b,_=>by simp only[aa.cx];split<;>rfl
 |.iter b,_=>by simp only[aa.cx];split<;>rfl
 |.func fn xs ys,h=>by
  simp only[aa.dz,AI]at h
  simp only[aa.cx,aa.dz,AI]
  exact⟨Iq m xs h.1,Iq m ys h.2⟩
 |.iface t v,h=>by simp only[aa.dz]at h;simp only[aa.cx,aa.dz];exact aa.kI m v h
 |.agg cs,h=>by simp only[aa.dz]at h;simp only[aa.cx,aa.dz];exact Iq m cs h
 |.bp cs,h=>by simp only[aa.dz]at h;simp only[aa.cx,aa.dz];exact Iq m cs h
 |.when cs x,h=>by simp only[aa.dz]at h;simp only[aa.cx,aa.dz];exact aa.kI m x h
 |.aQ,_=>rfl
 |.bool b,_=>rfl
 |.int k n,_=>rfl
 |.str s,_=>rfl
 |.fo,_=>rfl
 |.aq row j,h=>h
 |.al,_=>rfl
 |.cY,_=>rfl
 |.aW a b c d,h=>h
 |.fN es,h=>h
 |.cW,_=>rfl
 |.bK,_=>rfl
 |.dw,_=>rfl
theorem Iq (m:Nat→Option Nat):∀(xs:List aa),iC xs=true→iC (iu m xs)=true
 |[],_=>rfl
 |x::xs,h=>by
  simp only[iC,AI]at h
  simp only[iu,iC,AI]
  exact⟨aa.kI m x h.1,Iq m xs h.2⟩
end
def ab.dF(f:aa→aa):ab→ab
 |.dead=>.dead
 |.box row=>.box (row.map f)
 |.rows sz rs=>.rows sz (rs.map λr=>r.map f)
 |.map es=>.map (es.map λp=>(f p.1,f p.2))
 |.fz s p=>.fz s p
 |.full sz rs=>.full sz (rs.map λr=>r.map f)
def ab.sW(p:aa→Prop):ab→Prop
 |.dead=>True
 |.box row=>∀x∈row,p x
 |.rows _ rs=>∀r∈rs,∀x∈r,p x
 |.map es=>∀e∈es,p e.1∧p e.2
 |.fz _ _=>True
 |.full _ rs=>∀r∈rs,∀x∈r,p x
def Q3:List (List aa)→Bool
 |[]=>true
 |r::rs=>iC r&&Q3 rs
def NF:List (aa×aa)→Bool
 |[]=>true
 |(k,v)::r=>k.dz&&(v.dz&&NF r)
def ab.dz:ab→Bool
 |.dead=>true
 |.box row=>iC row
 |.rows _ rs=>Q3 rs
 |.map es=>NF es
 |.fz _ _=>true
 |.full _ rs=>Q3 rs
def yv:List ab→Bool
 |[]=>true
 |b::bs=>b.dz&&yv bs
theorem Te:∀ {xs:List aa},iC xs=true→∀x∈xs,x.dz=true
 |y::xs,h,x,hx=>by
  simp only[iC,AI]at h;rcases zAS.1 hx with rfl|hx
  ·exact h.1
  ·exact Te h.2 x hx
theorem P0:∀ {rs:List (List aa)},Q3 rs=true→∀r∈rs,∀x∈r,x.dz=true
 |y::rs,h,r,hr=>by
  simp only[Q3,AI]at h;rcases zAS.1 hr with rfl|hr
  ·exact Te h.1
  ·exact P0 h.2 r hr
theorem XbK:∀ {es:List (aa×aa)},NF es=true→∀e∈es,e.1.dz=true∧e.2.dz=true
 |(k,v)::r,h,e,he=>by
  simp only[NF,AI]at h;rcases zAS.1 he with rfl|he
  ·exact⟨h.1,h.2.1⟩
  ·exact XbK h.2.2 e he
theorem ab.xD{b:ab}(h:b.dz=true):b.sW (λx=>x.dz=true):=by
 cases b with
 |dead=>trivial
 |box row=>exact Te h
 |rows sz rs=>exact P0 h
 |map es=>exact XbK h
 |fz s q=>trivial
 |full sz rs=>exact P0 h
theorem YbK:∀ {bs:List ab},yv bs=true→∀b∈bs,b.sW (λx=>x.dz=true)
 |y::bs,h,b,hb=>by
  simp only[yv,AI]at h;rcases zAS.1 hb with rfl|hb
  ·exact ab.xD h.1
  ·exact YbK h.2 b hb
theorem ab.all_true(b:ab):b.sW (λ_=>True):=by
 cases b<;>simp[ab.sW]
theorem Den.dz{x:aa}{v:Value}(h:Den M c x v):x.dz=true→∀M',Den M' c x v:=by
 induction h with
 |aQ=>intro _ _;exact .aQ _ _
 |bool=>intro _ _;exact .bool _ _
 |int=>intro _ _;exact .int _ _ _
 |str=>intro _ _;exact .str _ _
 |fo=>intro _ _;exact .fo _
 |ak c b j cb e=>intro _ _;exact .ak _ _ _ _ e
 |ptr c b i j cb e=>intro _ _;exact .ptr _ _ _ _ _ e
 |aq=>intro h;simp[aa.dz]at h
 |al=>intro _ _;exact .al _
 |cY=>intro _ _;exact .cY _ _
 |sl c b off len ex cb cap e h1 h2 h3 h4=>intro _ _;exact .sl _ _ _ _ _ _ _ e h1 h2 h3 h4
 |pg c b ex cb a e h1=>intro _ _;exact .pg _ _ _ _ _ e h1
 |sle c b off ex cb a e h1 h2 h3=>intro _ _;exact .sle _ _ _ _ _ _ e h1 h2 h3
 |aW c ex nn sz rows a cap blk off f h1 h2 h3 uZ h4 h5 h6 h7 ih=>
  intro h M';cases rows with
  |nil=>exact .aW _ _ _ _ [] _ _ blk off f h1 h2 h3 uZ h4 h5 (by simp) (by simp)
  |cons r rs=>simp[aa.dz]at h
 |map c b cb e=>intro _ _;exact .map _ _ _ e
 |fN=>intro h;simp[aa.dz]at h
 |cW=>intro _ _;exact .cW _
 |func c fn first captured vs ws h1 h2 h3 h4 vo vp=>
  intro h M';simp[aa.dz]at h;exact .func _ _ _ _ _ _ h1 h2 (λi x v e1 e2=>vo i x v e1 e2 (IJ h.1 e1) M') (λi x v e1 e2=>vp i x v e1 e2 (IJ h.2 e1) M')
 |bK=>intro _ _;exact .bK _
 |iface c t x v h ih=>intro hr M';exact .iface _ _ _ _ (ih (by simpa[aa.dz]using hr) M')
 |dw=>intro _ _;exact .dw _
 |agg c cs vs h1 h2 ih=>intro h M';exact .agg _ _ _ h1 (λi x v e1 e2=>ih i x v e1 e2 (IJ (by simpa[aa.dz]using h) e1) M')
 |bp c cs vs h1 h2 ih=>intro h M';exact .bp _ _ _ h1 (λi x v e1 e2=>ih i x v e1 e2 (IJ (by simpa[aa.dz]using h) e1) M')
 |when c cs x v h h2 ih=>intro hr M';exact .when _ _ _ _ (λhp=>ih hp (by simpa[aa.dz]using hr) M') h2
 |iter c b cb e=>intro _ _;exact .iter _ _ _ e
theorem ab.bS(f:aa→aa)(b:ab):(b.dF f).live=b.live:=by cases b<;>rfl
theorem iL.dF{M':Nat→Option Obj}{c':Own}{f:aa→aa}{p:aa→Prop}(hf:∀x v,p x→Den M c x v→Den M' c' (f x) v){cb:CB}{o:Obj}{b:ab}(h:iL M c cb o b)(hp:b.sW p):iL M' c' cb o (b.dF f):=by
 cases b with
 |dead=>trivial
 |box row=>
  obtain⟨arr,T,h1,h2,h3⟩:=h;refine⟨arr,T,h1,by simpa using h2,λj x v e1 e2=>?_⟩;rw[zAT]at e1;cases hx:row[j]? with
  |none=>simp[hx]at e1
  |some y=>simp[hx]at e1;subst e1;exact hf y v (hp y (zAI hx)) (h3 j y v hx e2)
 |rows sz rows=>
  obtain⟨h0,arr,T,h1,h2,h3,h4,h5⟩:=h;refine⟨h0,arr,T,h1,h2,by simpa using h3,λi row e=>?_,λi row j x v e1 e2 e3=>?_⟩
  ·grind
  ·rw[zAT]at e1;cases hx:rows[i]? with
   |none=>simp[hx]at e1
   |some y=>
    simp[hx]at e1;subst e1;rw[zAT]at e2;cases hy:y[j]? with
    |none=>simp[hy]at e2
    |some z=>simp[hy]at e2;subst e2;exact hf z v (hp y (zAI hx) z (zAI hy)) (h5 i y j z v hx hy e3)
 |map es=>
  obtain⟨arr,clock,h1,h2,h3⟩:=h;refine⟨arr,clock,h1,by simpa using h2,λi k x e e1 e2=>?_⟩;rw[zAT]at e1;cases hx:es[i]? with
  |none=>simp[hx]at e1
  |some y=>
   simp[hx]at e1;obtain⟨rfl,rfl⟩:=e1;have:=h3 i y.1 y.2 e hx e2;have hpy:=hp y (zAI hx);simp_all
 |fz s q=>exact h
 |full sz rows=>
  obtain⟨hq,h0,arr,T,h1,h2,h3,h4,h5⟩:=h;refine⟨by simpa using hq,h0,arr,T,h1,h2,by simpa using h3,λi row e=>?_,λi row j x v e1 e2 e3=>?_⟩
  ·grind
  ·rw[zAT]at e1;cases hx:rows[i]? with
   |none=>simp[hx]at e1
   |some y=>
    simp[hx]at e1;subst e1;rw[zAT]at e2;cases hy:y[j]? with
    |none=>simp[hy]at e2
    |some z=>simp[hy]at e2;subst e2;exact hf z v (hp y (zAI hx) z (zAI hy)) (h5 i y j z v hx hy e3)
def QD(N:Nat):Nat→Option Nat:=λb=>some (b+N)
def QB(N:Nat):List ab→List (Nat×ab)
 |[]=>[]
 |b::bs=>(N,b)::QB (N+1) bs
theorem Xa4:∀(bs:List ab) (N:Nat) (h:Hp) (b:Nat),cz h (QB N bs) b=if N<=b∧b<N+bs.length then bs[b-N]? else h b
 |[],N,h,b=>by simp[QB,cz];intro h1 h2;omega
 |x::bs,N,h,b=>by
  simp only[QB,cz];rw[Xa4 bs (N+1)];by_cases h1:b=N
  ·subst h1;rw[aB (by omega),aI (by simp),Qs];simp
  ·by_cases h2:N+1<=b∧b<N+1+bs.length
   ·grind
   ·rw[aB h2,aB (by simp;omega),Qq _ _ h1]
section
variable {P:Program} {GL:aw}
def dh(P:Program)(GL:aw)(f:FuncId)(xs:List aa)(v:aa)(bs:List ab):Prop:=
 ∀(w:World) (M:Nat→Option Obj) (vs:List Value),(∀b o,M b=some o→w.heap[b]?=some o)→(∀p∈GL,Den M bA (.aq p.2 0) (.pointer (some ⟨p.1,0,none⟩)))→dR ⟨M,bA⟩ xs vs →
  Calls P f vs.toArray w λe w'=>∃u,e=.returned u∧∃g',i9 M g'.M∧bx GL w ⟨[],M⟩ g' (hp bs) w'∧g'.den v u
variable{v:aa}
variable{f:FuncId}
variable{bs:List ab}
theorem Za5{F:vz}(ok:mL P GL f F)(hn:xs.length=F.np)
 (h:iX P GL F.n F.body (eQ xs) [] (λe ρ σ=>(e=.normal∨e=.ret)∧iK F.gP ρ σ=some v∧σ=bs)):dh P GL f xs v bs:=by
 intro w M vs hM hg hx;obtain⟨fn,c,h1,h2,h3,h4,h5⟩:=ok.ok;have r0:=bx.start (GL:=GL) w M hM hg;have hh:hp []=pb:=by funext b;simp[hp,pb]
 rw[←hh]at r0;have d0:=Y5 hx (n:=F.n) (by rw[hn];exact ok.np);refine calls_of_wp h1 h2 ?_;rw[h3];refine wp_mono (h c h4 w ⟨[],M⟩ _ _ w r0 d0) (λe a' w' hl=>?_);have fin:∀g' ρ σ,(⟨M,bA⟩:Gm).Le g'→bx GL w ⟨[],M⟩ g' (hp σ) w'→cX F.n g' ρ a'→(iK F.gP ρ σ=some v∧σ=bs)→∃u,(results fn a'.tmps).run P w'=.ok u w'∧(∃u',zCV u=.returned u'∧∃g',i9 M g'.M∧bx GL w ⟨[],M⟩ g' (hp bs) w'∧g'.den v u'):=by
  rintro g' ρ σ hle hr hd ⟨oU,rfl⟩;obtain⟨u,k1,k2⟩:=GV hr hd h5 oU;exact⟨u,k1,u,rfl,g',hle.m,hr,k2⟩
 cases e with
 |normal=>obtain⟨g',ρ,σ,k1,k2,k3,k4⟩:=hl;exact⟨k3.defers,fin g' ρ σ k1 k2 k3 k4.2⟩
 |ret=>obtain⟨g',ρ,σ,k1,k2,k3,k4⟩:=hl;exact⟨k3.defers,fin g' ρ σ k1 k2 k3 k4.2⟩
 |exit id=>obtain⟨g',ρ,σ,k1,k2,k3,k4⟩:=hl;rcases k4.1 with q|q<;>cases q
 |_=>exact hl.elim
variable{N:Nat}
theorem bx.Ca{w0:World}{L:Ln}{g:Gm}{h:Hp}{w w':World}(r:bx GL w0 L g h w){g':Gm}{h':Hp}(r':bx GL w ⟨[],M⟩ g' h' w')(s:Nat)(hs:∀i,i<bs.length→h' (s+i)=bs[i]?)(m:Nat→Option Nat)(M2:Nat→Option Obj)(p:aa→Prop)
 (hM:i9 g.M M2)(ic:∀b o,M2 b=some o→w'.heap[b]?=some o)(j5:∀b o,M2 b=some o→g.M b=some o∨w.heap.size<=b)(tt:∀b,w.heap.size<=b→g'.M b=none→M2 b=none)
 (c_:∀c x v,p x→Den g'.M c x v→Den M2 c x v)(ia:∀b∈bs,b.sW p)(vk:∀x m,p x→p (aa.cx m x))(hN:∀i,i<bs.length→h (N+i)=none)
 (hm:∀b b' cb,m b=some b'→g'.c b=some cb→(∃i,i<bs.length∧b=s+i∧b'=N+i)∨(g.c b'=some cb)) :
  ∃c2,gD g.c c2∧(∀b b' cb,m b=some b'→g'.c b=some cb→c2 b'=some cb)∧bx GL w0 L ⟨M2,c2⟩ (cz h (QB N (bs.map (ab.dF (aa.cx m))))) w':=by
 let c2:Own:=λb=>if N<=b∧b<N+bs.length then g'.c (b-N+s)else g.c b
 have hc:gD g.c c2:=by
  intro b cb e;by_cases hb:N<=b∧b<N+bs.length
  ·have:=r.ed b (by have:=hN (b-N) (by omega);simp_all);rw[this]at e;cases e
  ·simp only[c2,aB hb];exact e
 have kX:∀b b' cb,m b=some b'→g'.c b=some cb→c2 b'=some cb:=by
  intro b b' cb e1 e2;rcases hm b b' cb e1 e2 with ⟨i,q1,q2,q3⟩|q
  ·grind
  ·exact hc _ _ q
 have hH:∀b,cz h (QB N (bs.map (ab.dF (aa.cx m)))) b=if N<=b∧b<N+bs.length then (bs[b-N]?).map (ab.dF (aa.cx m))else h b:=by
  intro b;rw[Xa4];simp
 have jG:∀b blk,cz h (QB N (bs.map (ab.dF (aa.cx m)))) b=some blk→(h b=some blk∧c2 b=g.c b)∨∃i blk0,i<bs.length∧b=i+N∧h' (s+i)=some blk0∧blk=blk0.dF (aa.cx m)∧c2 b=g'.c (s+i)∧blk0∈bs:=by
  grind
 have Lj:=r.keeps.size;refine⟨c2,hc,kX,?_⟩;refine { keeps:=r.keeps.trans' r'.keeps.os r'.keeps.tape r'.keeps.output r'.keeps.size (λb hb _=>r'.keeps.block b (by omega) (by simp)),aZ:=ic,src:=λb o e=>?_,cr:=λq hq=>(r.cr q hq).mono hM (gD.refl _),ed:=λb e=>?_,jy:=λb blk e=>?_,own:=λb blk cb e hl ec hv=>?_,bn:=λb blk cb e hl ec hv=>?_,inj:=λb b' blk blk' cb eP e e' hl ml ec gX hv sR hq=>?_ }
 ·rcases j5 b o e with q|q
  ·exact r.src b o q
  ·exact .inr (.inl (by omega))
 ·rw[hH]at e;show c2 b=none;by_cases hb:N<=b∧b<N+bs.length
  ·grind
  ·rw[aB hb]at e;simp only[c2];rw[aB hb];exact r.ed b e
 ·rcases jG b blk e with ⟨q1,q2⟩|⟨i,blk0,q1,q2,q3,q4,q5,q6⟩
  ·obtain⟨cb,k⟩:=r.jy b blk q1;simp_all
  ·obtain⟨cb,k⟩:=r'.jy (s+i) blk0 q3;simp_all
 ·replace ec:c2 b=some cb:=ec
  rcases jG b blk e with ⟨q1,q2⟩|⟨i,blk0,q1,q2,q3,q4,q5,q6⟩
  ·rw[q2]at ec;obtain⟨k1,k2,o,ho,bR⟩:=r.own b blk cb q1 hl ec hv;have cc:=r.d_ q1 hl ec hv;refine⟨?_,k2,o,by rw[r'.keeps.block _ cc (by simp)];exact ho,bR.mono hM hc⟩;show M2 cb.blk=none;cases qZ:M2 cb.blk<;>grind
  ·rw[q5]at ec;obtain⟨k1,k2,o,ho,bR⟩:=r'.own (s+i) blk0 cb q3 (by rw[q4,ab.bS]at hl;exact hl) ec hv;have vH:w.heap.size<=cb.blk:=by simp_all
   refine⟨tt _ vH k1,.inr (by omega),o,ho,?_⟩;rw[q4];refine bR.dF (p:=p) (λx v hx hd=>?_) (ia _ q6);exact c_ _ _ _ (vk _ _ hx) (hd.cx kX)
 ·replace ec:c2 b=some cb:=ec
  rcases jG b blk e with ⟨q1,q2⟩|⟨i,blk0,q1,q2,q3,q4,q5,q6⟩
  ·rw[q2]at ec;exact r.bn b blk cb q1 hl ec hv
  ·rw[q5]at ec;have:=r'.bn (s+i) blk0 cb q3 (by rw[q4,ab.bS]at hl;exact hl) ec hv;rw[q4,this];rfl
 ·replace ec:c2 b=some cb:=ec
  replace gX:c2 b'=some eP:=gX
  rcases jG b blk e with ⟨q1,q2⟩|⟨i,blk0,q1,q2,q3,q4,q5,q6⟩<;>rcases jG b' blk' e' with ⟨p1,p2⟩|⟨i',Bh,p1,p2,p3,p4,p5,p6⟩
  ·rw[q2]at ec;rw[p2]at gX;exact r.inj b b' blk blk' cb eP q1 p1 hl ml ec gX hv sR hq
  ·rw[q2]at ec;rw[p5]at gX;have h1:=r.d_ q1 hl ec hv;obtain⟨_,k2,_⟩:=r'.own (s+i') Bh eP p3 (by simp_all [ab.bS]) gX sR
   grind
  ·rw[q5]at ec;rw[p2]at gX;have h1:=r.d_ p1 ml gX sR;obtain⟨_,k2,_⟩:=r'.own (s+i) blk0 cb q3 (by rw[q4,ab.bS]at hl;exact hl) ec hv
   grind
  ·rw[q5]at ec;rw[p5]at gX;have:=r'.inj (s+i) (s+i') blk0 Bh cb eP q3 p3 (by rw[q4,ab.bS]at hl;exact hl) (by simp_all [ab.bS]) ec gX hv sR hq;omega
theorem bx.join{w0:World}{L:Ln}{g:Gm}{h:Hp}{w w':World}(r:bx GL w0 L g h w){g':Gm}(r':bx GL w ⟨[],M⟩ g' (hp bs) w')(M2:Nat→Option Obj)(p:aa→Prop)
 (hM:i9 g.M M2)(ic:∀b o,M2 b=some o→w'.heap[b]?=some o)(j5:∀b o,M2 b=some o→g.M b=some o∨w.heap.size<=b)(tt:∀b,w.heap.size<=b→g'.M b=none→M2 b=none)
 (c_:∀c x v,p x→Den g'.M c x v→Den M2 c x v)(ia:∀b∈bs,b.sW p)(vk:∀x m,p x→p (aa.cx m x))(hN:∀i,i<bs.length→h (N+i)=none) :
  ∃c2,gD g.c c2∧(∀b cb,b<bs.length→g'.c b=some cb→c2 (b+N)=some cb)∧bx GL w0 L ⟨M2,c2⟩ (cz h (QB N (bs.map (ab.dF (aa.cx (QD N)))))) w':=by
 obtain⟨c2,k1,k2,k3⟩:=r.Ca r' 0 (λi hi=>by simp[hp]) (QD N) M2 p hM ic j5 tt c_ ia vk hN (λb b' cb e1 e2=>by
  simp only[QD,zBl]at e1;subst e1;by_cases hb:b<bs.length
  ·exact .inl ⟨b,hb,by omega,by omega⟩
  ·have:=r'.ed b (by simp[hp];omega);rw[this]at e2;cases e2)
 exact⟨c2,k1,λb cb _ e=>k2 b (b+N) cb rfl e,k3⟩
def Zx(N:Nat)(bs:List ab):List ab:=bs.map (ab.dF (aa.cx (QD N)))
theorem Np:∀(bs:List ab) (N:Nat) (i:Nat),i<bs.length→∃b,(N+i,b)∈QB N bs
 |b::bs,N,0,_=>⟨b,by simp[QB]⟩
 |b::bs,N,i+1,h=>by
  obtain⟨x,hx⟩:=Np bs (N+1) i (by simpa using h);exact⟨x,by rw[show N+(i+1)=N+1+i by omega];exact zAr _ hx⟩
theorem dh.here(hc:dh P GL f xs v bs)(Ap:gh xs=true){h0:Hp}(hN:∀i,i<bs.length→h0 (N+i)=none):je P GL f xs h0 (v.cx (QD N)) [] (QB N (Zx N bs)):=by
 intro w0 L g h w vs r hx _ eo;refine(hc w g.M vs r.aZ r.cr (RJ Ap hx bA)).mono ?_;rintro e w' ⟨u,he,g',hle,r',hd⟩;obtain⟨c2,k1,k2,k3⟩:=r.join r' g'.M (λ_=>True) hle r'.aZ (λb o e=>by
  rcases r'.src b o e with q|q|q<;>simp_all) (λ_ _ e=>e) (λ_ _ _ _ d=>d) (λb _=>ab.all_true b) (λ_ _ _=>trivial) (N:=N) (λi hi=>by
   obtain⟨b,hb⟩:=Np (Zx N bs) N i (by simpa[Zx]using hi);rw[eo _ hb];exact hN i hi)
 refine⟨u,he,⟨g'.M,c2⟩,⟨hle,k1⟩,k3,hd.cx (λb b' cb e1 e2=>?_)⟩;simp only[QD,zBl]at e1;subst e1;refine k2 b cb ?_ e2;by_cases hb:b<bs.length
 ·exact hb
 ·have:=r'.ed b (by simp[hp];omega);rw[this]at e2;cases e2
theorem dh.qE{ys:List aa}{rd:List Nat}{h0:Hp}(hc:dh P GL f ys v bs)(hb:bd h0 rd xs ys)(hv:v.dz=true)(Dl:yv bs=true)(hN:∀i,i<bs.length→h0 (N+i)=none):je P GL f xs h0 (v.cx (QD N)) rd (QB N (Zx N bs)):=by
 intro w0 L g h w vs r hx cO eo;refine(hc w (World.all w) vs (λ_ _ e=>e) (λp hp=>(r.cr p hp).mono r.tF (gD.refl _)) (hb GL w0 L g h w _ r r.ui cO vs hx)).mono ?_;rintro e w' ⟨u,he,g',hle,r',hd⟩;obtain⟨c2,k1,k2,k3⟩:=r.join r' g.M (λx=>x.dz=true) (i9.refl _) (λb o e=>by rw[r'.keeps.block b (r.gQ e) (by simp)];exact r.aZ b o e) (λb o e=>.inl e) (λb vH e=>by
   cases hm:g.M b with
   |none=>rfl
   |some z=>have:=r.gQ hm;omega) (λ_ _ _ hn d=>d.dz hn _) (YbK Dl) (λx m hn=>aa.kI m x hn) (N:=N) (λi hi=>by
   obtain⟨b,hb⟩:=Np (Zx N bs) N i (by simpa[Zx]using hi);rw[eo _ hb];exact hN i hi)
 refine⟨u,he,⟨g.M,c2⟩,⟨i9.refl _,k1⟩,k3,?_⟩;refine(hd.cx (c':=c2) (m:=QD N) (λb b' cb e1 e2=>?_)).dz (aa.kI _ _ hv) _;simp only[QD,zBl]at e1;subst e1;refine k2 b cb ?_ e2;by_cases hb:b<bs.length
 ·exact hb
 ·have:=r'.ed b (by simp[hp];omega);rw[this]at e2;cases e2
def XN:List ab→List ab
 |[]=>[]
 |_::l=>.dead::XN l
theorem YW:∀(l:List ab) (i:Nat),(XN l)[i]?=if i<l.length then some .dead else none
 |[],i=>by simp[XN]
 |x::l,0=>by simp[XN]
 |x::l,i+1=>by simp[XN,YW l i]
theorem Ybz(l:List ab):(XN l).length=l.length:=by induction l<;>simp_all [XN]
def o8(n:Nat):Nat→Option Nat:=λb=>bif zAn b n then some b else none
def fw(ids:List Nat)(n k:Nat):Nat→Option Nat:=λb=>bif ids.contains b||(zAR n b&&zAn b (n+k))then some b else none
theorem YaM{F:vz}(ok:mL P GL f F)(hn:xs.length=F.np)(σ:List ab)(ids:List Nat)(pF:∀i∈ids,i<σ.length){news:List ab}(Dl:bs=news∨bs=[])
 (h:iX P GL F.n F.body (eQ (iu (o8 σ.length) xs)) (XN σ) (λe ρ σ'=>(e=.normal∨e=.ret)∧iK F.gP ρ σ'=some v∧σ'=XN σ++news)) :
  je P GL f xs (hp σ) (v.cx (fw ids σ.length bs.length)) ids (QB σ.length (bs.map (ab.dF (aa.cx (fw ids σ.length bs.length))))):=by
 intro w0 L g hq w vs r hx cO eo
 let dm:CB:=⟨0,0,0,true,0⟩
 let c':Own:=λb=>if b<σ.length then some ((g.c b).getD dm)else none
 have r0:bx GL w ⟨[],g.M⟩ ⟨g.M,c'⟩ (hp (XN σ)) w:={
  keeps:=jg.refl _ _,aZ:=r.aZ,src:=λb o e=>.inl e,cr:=r.cr
  ed:=λb e=>by
   show c' b=none;simp only[hp,YW]at e
   grind
  jy:=λb blk e=>by
   simp only[hp,YW]at e;split at e
   ·rename_i hb;exact⟨_,by show c' b=_;simp only[c'];rw[aI hb]⟩
   ·cases e
  own:=λb blk cb e hl _ _=>by
   simp only[hp,YW]at e;split at e
   ·cases e;cases hl
   ·cases e
  bn:=λb blk cb e hl _ _=>by
   simp only[hp,YW]at e;split at e
   ·cases e;cases hl
   ·cases e
  inj:=λb b' blk blk' cb eP e _ hl _ _ _ _ _ _=>by
   simp only[hp,YW]at e;split at e
   ·cases e;cases hl
   ·cases e }
 have DT:dR ⟨g.M,c'⟩ (iu (o8 σ.length) xs) vs:=by
  refine dR.lR (by rw[YA];exact hx.length) (λi y u e1 e2=>?_);obtain⟨x,q1,rfl⟩:=G9 e1;refine(hx.get i x u q1 e2).cx (λb b' cb k1 k2=>?_);unfold o8 at k1;obtain⟨k0,k1⟩:=QF k1;cases k1;have cc:b<σ.length:=iy k0
  grind
 obtain⟨fn,c,h1,h2,h3,h4,h5⟩:=ok.ok;have d0:=Y5 DT (n:=F.n) (by rw[YA,hn];exact ok.np);refine calls_of_wp h1 h2 ?_;rw[h3];refine wp_mono (h c h4 w ⟨[],g.M⟩ _ _ w r0 d0) (λe a' w' hl=>?_);have fin:∀g' ρ σ',(⟨g.M,c'⟩:Gm).Le g'→bx GL w ⟨[],g.M⟩ g' (hp σ') w'→cX F.n g' ρ a'→(iK F.gP ρ σ'=some v∧σ'=XN σ++news)→∃u,(results fn a'.tmps).run P w'=.ok u w'∧(∃u',zCV u=.returned u'∧∃g2,g.Le g2∧bx GL w0 L g2 (cz hq (QB σ.length (bs.map (ab.dF (aa.cx (fw ids σ.length bs.length)))))) w'∧g2.den (v.cx (fw ids σ.length bs.length)) u'):=by
  rintro g' ρ σ' hle hr hd ⟨oU,rfl⟩;obtain⟨u,k1,k2⟩:=GV hr hd h5 oU;obtain⟨c2,j1,j2,j3⟩:=r.Ca hr σ.length (bs:=bs) (λi hi=>by
    rcases Dl with rfl|rfl<;>simp_all [hp,Ybz]) (fw ids σ.length bs.length) g'.M (λ_=>True) hle.m hr.aZ (λb o e=>by
    rcases hr.src b o e with q|q|q<;>simp_all) (λ_ _ e=>e) (λ_ _ _ _ d=>d) (λb _=>ab.all_true b) (λ_ _ _=>trivial) (N:=σ.length) (λi hi=>by
    obtain⟨b,hb⟩:=Np (bs.map (ab.dF (aa.cx (fw ids σ.length bs.length)))) σ.length i (by simpa using hi);rw[eo _ hb];simp[hp]) (λb b' cb e1 e2=>by
    unfold fw at e1;obtain⟨e0,e1⟩:=QF e1;cases e1;by_cases dc:b∈ids∧b<σ.length
    ·right;obtain⟨dc,hb⟩:=dc;have cj:hq b=some (σ[b]):=by rw[cO b dc];simp[hp,hb]
     obtain⟨yB,u6⟩:=r.jy b _ cj;have:c' b=some yB:=by grind
     have:=hle.c b yB this;rw[e2]at this;cases this;exact u6
    ·left;simp only[zBS,AI]at e0;rcases e0 with q|⟨q1,q2⟩
     ·simp_all
     ·have:=iy q1;have:b < σ.length + bs.length:=iy q2;exact⟨b - σ.length,by omega,by omega,by omega⟩)
  exact⟨u,k1,u,rfl,⟨g'.M,c2⟩,⟨hle.m,j1⟩,j3,k2.cx j2⟩
 cases e with
 |normal=>obtain⟨g',ρ,σ,k1,k2,k3,k4⟩:=hl;exact⟨k3.defers,fin g' ρ σ k1 k2 k3 k4.2⟩
 |ret=>obtain⟨g',ρ,σ,k1,k2,k3,k4⟩:=hl;exact⟨k3.defers,fin g' ρ σ k1 k2 k3 k4.2⟩
 |exit id=>obtain⟨g',ρ,σ,k1,k2,k3,k4⟩:=hl;rcases k4.1 with q|q<;>cases q
 |_=>exact hl.elim
end
end Go.Ah
end
section
namespace Go.Ah
mutual
def aa.ids:aa→List Nat
 |.ak b _=>[b]
 |.ptr b _ _=>[b]
 |.sl b _ _ _=>[b]
 |.map b=>[b]
 |.iter b=>[b]
 |.func _ xs ys=>jb xs++jb ys
 |.iface _ v=>v.ids
 |.agg cs=>jb cs
 |.bp cs=>jb cs
 |.when _ x=>x.ids
 |_=>[]
def jb:List aa→List Nat
 |[]=>[]
 |x::xs=>x.ids++jb xs
end
def CU:Nat→List ab→Option (List ab)
 |0,l=>some l
 |n+1,.dead::l=>CU n l
 |_+1,_=>none
theorem Ya6:∀(σ l news:List ab),CU σ.length l=some news→l=XN σ++news
 |[],l,news,h=>by simp_all [CU,XN]
 |x::σ,l,news,h=>by
  cases l with
  |nil=>simp[CU]at h
  |cons y l=>
   cases y with
   |dead=>simp only[List.length_cons,CU]at h;rw[Ya6 σ l news h];rfl
   |_=>simp[CU]at h
def Yy(n:Nat):List Nat→Bool
 |[]=>true
 |x::xs=>zAn x n&&Yy n xs
theorem Oe{n:Nat}:∀ {l:List Nat},Yy n l=true→∀i∈l,i<n
 |x::xs,h,i,hi=>by
  simp only[Yy,AI]at h;rcases zAS.1 hi with rfl|hi
  ·exact iy h.1
  ·exact Oe h.2 i hi
def much:Nat:=1000000000
end Go.Ah
end
section
namespace Go.Ah
def zE(n:Nat)(hd:List (List Nat))(c:Nat):Bool:=tc (λj=>zAn j c||vU (j8 hd j) λh=>tc (λi=>kY h i) c) n
variable{hd:List (List Nat)}
variable{n lo:Nat}
theorem Ydc{c:Nat}(h:zE n hd c=true):∀j,j<n→c<=j→∀i,i<c→i∈Xn hd j:=by
 intro j hj hc i hi;have:=HS h j hj;simp only[IL,zBS]at this;rcases this with q|q
 ·have:j<c:=iy q;omega
 ·have:=Ij.1 (HS q i hi)
  rwa [GX]at this
def oN(hd:List (List Nat))(lo n:Nat):List (List Nat):=(zAB n).map λj=>(Xn hd (lo+j)).filterMap λi=>match zAR lo i with
 |true=>some (i-lo)
 |false=>none
theorem QdU{j i:Nat}(h:i∈Xn (oN hd lo n) j):lo+i∈Xn hd (lo+j):=by
 unfold oN Xn at h;rw[zAT]at h;cases e:(zAB n)[j]? with
 |none=>rw[e]at h;simp at h
 |some k=>
  rw[e]at h;have hk:k=j:=by
   grind
  subst hk;simp only[zCS,zAt,zCG]at h;obtain⟨x,hx,h⟩:=h;split at h
  ·rename_i hb;have:=iy hb;cases h
   rwa [show lo+(x-lo)=x by omega]
  ·cases h
section
variable {P:Program} {GL:aw}
variable{σ:List ab}
variable{ρ:Frame}
theorem YdS{ops:Array Oper}{ms:List aR}(eN:ops.size=ms.length)(bR:∀(j:Nat) (m:aR),ms[j]?=some m→∃o,ops[j]?=some o∧gk P GL n ops o m)(dY:zy ops.toList ms hd=true)
 {hi:Nat}{fy:List aR}(hlh:lo+fy.length=hi)(hhi:hi<=ms.length)(xw:∀j m,fy[j]?=some m→ms[lo+j]?=some m)(bhi:∀j,j<ms.length→hi<=j→∀i,i<hi→i∈Xn hd j)
 {ts:List TS}{K:Frame→List ab→Log→Prop}(Am:Tr P GL fy ts ρ σ [] K)(Dg:Qi (oN hd lo fy.length) (ts.map λx=>(x.rd,x.up.map (·.1)))=true)
 {w0:World}{L:Ln}{g:Gm}(Q:Exit→Act→World→Prop)
 (hQ:∀ g' ρ' σ' a w fuel (listed:Array Bool),g.Le g'→bx GL w0 L g' (hp σ') w→cX n g' ρ' a→K ρ' σ' (ts.map λx=>(x.rd,x.up.map (·.1)))→listed.size=ms.length→(∀ k,k < hi→listed.getD k false=true)→(∀ k,hi<=k→listed.getD k false=false) →
   pN (λk=>listed.getD k false) ms.length<=fuel→wpAny P .any ops Q fuel listed a w) :
  ∀(fuel:Nat) (listed:Array Bool) (a:Act) (w:World),listed.size=ms.length→(∀j,listed.getD j false=true→j<ms.length∧∀i∈waits (ops.toList.getD j default),listed.getD i false=true) →
   (∀k,k<lo→listed.getD k false=true)→(∀k,hi<=k→listed.getD k false=false) →
   pN (λk=>listed.getD k false) ms.length<=fuel→(∃g' ρ',g.Le g'∧bx GL w0 L g' (jO (λk=>listed.getD k false) lo ts (hp σ)) w∧cX n g' ρ' a∧∀t,bN ρ' t=bN (kW (λk=>listed.getD k false) lo fy ts ρ) t) →
   wpAny P .any ops Q fuel listed a w:=by
 have D:=Nn dY;obtain⟨hlen,qV,ρf,σf,vb,UJ,wS⟩:=IA fy ts lo ρ σ [] K Am;rw[zAL]at wS;have hA:∀j,j<fy.length→∀i,i<j→lo+i∈Xn hd (lo+j)∨cf (Yv (ts.map λx=>(x.rd,x.up.map (·.1))) i) (Yv (ts.map λx=>(x.rd,x.up.map (·.1))) j)=true:=by
  intro j hj i hi;unfold Qi at Dg;simp only[zAm,zBD,zAM]at Dg;have:=Sg (Dg j (by omega)) i (Yv (ts.map λx=>(x.rd,x.up.map (·.1))) i) (by
   grind [Yv])
  rw[IN]at this;exact this.imp QdU id
 have qq:∀j x,ts[j]?=some x→Yv (ts.map λx=>(x.rd,x.up.map (·.1))) j=(x.rd,x.up.map (·.1)):=by
  simp_all [Yv]
 have fin:∀(fuel:Nat) (listed:Array Bool) (a:Act) (w:World),listed.size=ms.length→(∀k,k<hi→listed.getD k false=true)→(∀k,hi<=k→listed.getD k false=false)→pN (λk=>listed.getD k false) ms.length<=fuel →
   (∃g' ρ',g.Le g'∧bx GL w0 L g' (jO (λk=>listed.getD k false) lo ts (hp σ)) w∧cX n g' ρ' a∧∀t,bN ρ' t=bN (kW (λk=>listed.getD k false) lo fy ts ρ) t)→wpAny P .any ops Q fuel listed a w:=by
  rintro fuel listed a w hs iP mn hc ⟨g',ρ',h1,h2,h3,h4⟩;refine hQ g' ρf σf a w fuel listed h1 ?_ ?_ wS hs iP mn hc
  ·rw[UJ];have:jO (λk=>listed.getD k false) lo ts (hp σ)=jO (λ_=>true) lo ts (hp σ):=by
    funext b
    refine QZ _ _ _ _ (λk t e _=>?_) rfl
    grind
   rw[←this];exact h2
  ·refine h3.dP (λt=>.inl ?_);rw[vb t,h4 t];refine XZ _ _ _ _ _ (λk m e _=>?_) rfl
   grind
 intro fuel
 induction fuel with
 |zero=>
  intro listed a w hs hS rU mn hc ic;exact fin 0 listed a w hs (λk hk=>N_ (zDp.1 hc) k (by omega)) mn hc ic
 |succ fuel ih=>
  intro listed a w hs hS rU mn hc ic;by_cases iP:∀k,k<hi→listed.getD k false=true
  ·grind
  refine⟨λhr=>?_,λj hj=>?_⟩
  ·exfalso;refine iP λk=>?_
   induction k using zBu with
   |_ k ihk=>
    intro hk;cases hl:listed.getD k false with
    |true=>rfl
    |false=>
     exfalso;have KQ:ops[k]?=some (ops[k]'(by omega)):=by simp[show k<ops.size by omega]
     have:k∈zBk .any ops listed:=by
      rw[mem_ready];refine⟨?_,_,KQ,λe he hb=>?_⟩
      ·grind
      ·have hw:e.on∈waits (ops.toList.getD k default):=by rw[YX ops k KQ,Hb];exact⟨e,he,hb,rfl⟩
       have cc:=D.back k (by omega) _ hw;exact ihk e.on cc (by omega)
     rw[hr]at this;cases this
  obtain⟨h1,o,ho,wQ⟩:=mem_ready.1 hj;have rQ:j<ms.length:=by grind
  have zO:listed.getD j false=false:=by
   grind
  have DS:∀i∈waits (ops.toList.getD j default),listed.getD i false=true:=by
   intro i hi;rw[YX ops j ho,Hb]at hi;obtain⟨e,he,hb,rfl⟩:=hi;exact wQ e he hb
  have hhd:=Ie D (S:=λk=>listed.getD k false) hS j rQ DS;have aay:lo<=j:=by
   grind
  have aax:j<hi:=by
   grind
  obtain⟨j,rfl⟩:∃q,j=lo+q:=⟨j-lo,by omega⟩;have hjs:j<fy.length:=by omega
  have xl:fy[j]?=some fy[j]:=by simp
  have vl:ts[j]?=some (ts[j]'(by omega)):=by simp[show j<ts.length by omega]
  generalize hmd:fy[j]=m at xl;generalize hxd:(ts[j]'(by omega))=x at vl;have hmJ:=xw j m xl;have Va:ms.getD (lo+j) default=m:=by grind
  obtain⟨o',fR,LS⟩:=bR (lo+j) m hmJ;rw[ho]at fR;cases fR;obtain⟨ρj,q1,q2⟩:=qV j m x xl vl;obtain⟨g',ρ',s1,s2,s3,s4⟩:=ic;have key:∀k,k<fy.length→(k<j→lo+k∈Xn hd (lo+j))→(j<k→lo+j∈Xn hd (lo+k))→(k≠j)→(listed.getD (lo+k) false=decide (lo+k<lo+j)):=by
   intro k hk ha hb cU;by_cases cc:k<j
   ·grind
   ·rw[gB (by omega)];have sQ:j<k:=by omega
    cases hl:listed.getD (lo+k) false with
    |false=>rfl
    |true=>
     have:listed.getD (lo+j) false=true:=Ie D (S:=λk=>listed.getD k false) hS (lo+k) (by omega) (hS (lo+k) hl).2 (lo+j) (hb sQ);rw[zO]at this;cases this
  have lp:∀t,(t∈iW m)→∀k mk,fy[k]?=some mk→mk.dst=some t→k≠j→listed.getD (lo+k) false=decide (lo+k<lo+j):=by
   intro t ht k mk hk Dt cU;have tw:k<fy.length:=(gE hk).1;have KK:ms.getD (lo+k) default=mk:=by rw[zDN,xw k mk hk];rfl
   have UC:t∈eL mk:=by unfold eL;rw[Dt];simp
   refine key k tw (λcc=>?_) (λsQ=>?_) cU
   ·rcases D.nu (lo+j) rQ (lo+k) (by omega)with q|⟨q,_,_⟩
    ·exact q
    grind
   ·rcases D.nu (lo+k) (by omega) (lo+j) (by omega)with q|⟨_,_,q⟩
    ·exact q
    grind
  have iI:∀b,(b∈x.rd∨b∈x.up.map (·.1))→∀k xk,ts[k]?=some xk→b∈xk.up.map (·.1)→k≠j→listed.getD (lo+k) false=decide (lo+k<lo+j):=by
   intro b hb k xk hk dc cU;have tw:k<fy.length:=by grind
   refine key k tw (λcc=>?_) (λsQ=>?_) cU
   ·rcases hA j hjs k cc with q|q
    ·exact q
    ·rw[qq k xk hk,qq j x vl]at q;simp only[cf,AI]at q
     grind [Hg]
   ·rcases hA k tw j sQ with q|q
    ·exact q
    ·rw[qq k xk hk,qq j x vl]at q;simp only[cf,AI]at q
     grind [Hg]
  have tv:∀k,k=j→listed.getD (lo+k) false=decide (lo+k<lo+j):=by rintro k rfl;rw[zO];simp
  have heq:∀b,(b∈x.rd∨b∈x.up.map (·.1))→jO (λk=>listed.getD k false) lo ts (hp σ) b=jO (λk=>decide (k<lo+j)) lo ts (hp σ) b:=by
   intro b hb;refine QZ _ _ _ _ (λk xk e1 e2=>?_) rfl;by_cases hY:k=j
   ·exact tv k hY
   ·exact iI b hb k xk e1 e2 hY
  unfold wpOp;simp only[ho];refine q2 n ops o LS ρ' _ w0 L g' w a (λt ht=>?_) (λb hb=>heq b (.inl hb)) (λp ia=>heq p.1 (.inr (zAh.2 ⟨p,ia,rfl⟩))) s2 s3 _ _ (λg2 w2 u hle hr sN=>?_)
  ·rw[s4 t,q1 t];refine XZ _ _ _ _ _ (λk mk e1 e2=>?_) rfl;by_cases hY:k=j
   ·exact tv k hY
   ·exact lp t ht k mk e1 e2 hY
  ·have dQ:∀k,(listed.setIfInBounds (lo+j) true).getD k false=if k=lo+j then true else listed.getD k false:=by
    intro k;by_cases hk:k<ms.length
    ·by_cases hY:k=lo+j
     ·subst hY;simp[show lo+j<listed.size by omega]
     ·rw[aB hY];simp[zBb (Ne.symm hY)]
    ·rw[aB (by omega)]
     grind
   refine ih _ _ _ (by simpa using hs) (λk hk=>?_) (λk hk=>?_) (λk hk=>?_) ?_ ⟨g2,cC m.dst x.v ρ',s1.trans hle,?_,sN,λt=>?_⟩
   ·rw[dQ]at hk;by_cases hY:k=lo+j
    ·subst hY;refine⟨rQ,λi hi=>?_⟩;rw[dQ];split
     ·rfl
     ·exact DS i hi
    ·rw[aB hY]at hk;refine⟨(hS k hk).1,λi hi=>?_⟩;rw[dQ];split
     ·rfl
     ·exact(hS k hk).2 i hi
   ·rw[dQ];split
    ·rfl
    ·exact rU k hk
   ·rw[dQ,aB (by omega)];exact mn k hk
   ·have:=OO (S:=λk=>listed.getD k false) (S':=λk=>(listed.setIfInBounds (lo+j) true).getD k false) (j:=lo+j) (n:=ms.length) rQ zO (by simp only[dQ];simp) (λk hk cU=>by simp only[dQ];rw[aB cU]);omega
   ·have:jO (λk=>(listed.setIfInBounds (lo+j) true).getD k false) lo ts (hp σ)=cz (jO (λk=>listed.getD k false) lo ts (hp σ)) x.up:=by
     funext b
     by_cases hb:b∈x.up.map (·.1)
     ·refine S_ ts lo (hp σ) j x vl hb (by rw[dQ,aI rfl]) (λk xk e1 e2 e3=>?_) _;rw[dQ]at e3;by_cases hY:k=j
      ·omega
      ·rw[aB (by omega)]at e3;rw[iI b (.inr hb) k xk e1 e2 hY]at e3;have:=of_decide_eq_true e3;omega
     ·rw[NX _ _ _ hb];refine QZ _ _ _ _ (λk xk e1 e2=>?_) rfl;simp only[dQ];have hY:k≠j:=by grind
      rw[aB (by omega)]
    rw[this];exact hr
   ·rw[Y8];by_cases zX:m.dst=some t
    ·rw[aI zX];refine(Sr fy ts lo ρ j m x xl vl zX (by rw[dQ,aI rfl]) (λk mk e1 e2 e3=>?_)).symm;rw[dQ]at e3;by_cases hY:k=j
     ·omega
     ·rw[aB (by omega)]at e3;have tw:k<fy.length:=(gE e1).1;have KK:ms.getD (lo+k) default=mk:=by rw[zDN,xw k mk e1];rfl
      have wO:t∈eL m:=by unfold eL;rw[zX];simp
      have wN:t∈eL mk:=by unfold eL;rw[e2];simp
      have:=key k tw (λcc=>by
       rcases D.nu (lo+j) rQ (lo+k) (by omega)with q|⟨_,q,_⟩
       ·exact q
       ·rw[KK,Va]at q;exact(q t wN wO).elim) (λsQ=>by
       rcases D.nu (lo+k) (by omega) (lo+j) (by omega)with q|⟨_,q,_⟩
       ·exact q
       ·rw[KK,Va]at q;exact(q t wO wN).elim) hY
      grind
    ·rw[aB zX,s4 t];refine XZ _ _ _ _ _ (λk mk e1 e2=>?_) rfl;simp only[dQ];have hY:k≠j:=by grind
     rw[aB (by omega)]
theorem ZdS{ops:Array Oper}{ms:List aR}(eN:ops.size=ms.length)(bR:∀(j:Nat) (m:aR),ms[j]?=some m→∃o,ops[j]?=some o∧gk P GL n ops o m)(dY:zy ops.toList ms hd=true)
 {m:aR}(hm:ms[lo]?=some m)(bhi:∀j,j<ms.length→lo+1<=j→∀i,i<lo+1→i∈Xn hd j)
 {K:Frame→List ab→Log→Prop}(ic:eH false P GL m ρ σ [] K)
 {w0:World}{L:Ln}{g:Gm}(Q:Exit→Act→World→Prop)
 (hQ:∀ g' ρ' σ' lg a w fuel (listed:Array Bool),g.Le g'→bx GL w0 L g' (hp σ') w→cX n g' ρ' a→K ρ' σ' lg→listed.size=ms.length→(∀ k,k < lo + 1→listed.getD k false=true)→(∀ k,lo + 1<=k→listed.getD k false=false) →
   pN (λk=>listed.getD k false) ms.length<=fuel→wpAny P .any ops Q fuel listed a w)
 (fuel:Nat)(listed:Array Bool)(a:Act)(w:World)(hs:listed.size=ms.length)(rU:∀k,k<lo→listed.getD k false=true)(mn:∀k,lo<=k→listed.getD k false=false)
 (hc:pN (λk=>listed.getD k false) ms.length<=fuel)(r:bx GL w0 L g (hp σ) w)(d:cX n g ρ a):wpAny P .any ops Q fuel listed a w:=by
 have D:=Nn dY;have jr:lo<ms.length:=(gE hm).1;have hS:∀j,listed.getD j false=true→j<ms.length∧∀i∈waits (ops.toList.getD j default),listed.getD i false=true:=by
  intro j hj;have uC:j<lo:=by
   grind
  exact⟨by omega,λi hi=>rU i (by have:=D.back j (by omega) i hi;omega)⟩
 obtain⟨o,ho,LS⟩:=bR lo m hm;cases fuel with
 |zero=>have:=N_ (zDp.1 hc) lo jr;grind
 |succ fuel=>
  refine⟨λhr=>?_,λj hj=>?_⟩
  ·exfalso;have:lo∈zBk .any ops listed:=by
    rw[mem_ready];refine⟨?_,o,ho,λe he hb=>?_⟩
    ·grind
    ·have hw:e.on∈waits (ops.toList.getD lo default):=by rw[YX ops lo ho,Hb];exact⟨e,he,hb,rfl⟩
     exact rU _ (D.back lo jr _ hw)
   rw[hr]at this;cases this
  ·obtain⟨h1,o',fR,wQ⟩:=mem_ready.1 hj;have rQ:j<ms.length:=by grind
   have zO:listed.getD j false=false:=by
    grind
   have DS:∀i∈waits (ops.toList.getD j default),listed.getD i false=true:=by
    intro i hi;rw[YX ops j fR,Hb]at hi
    grind
   have hhd:=Ie D (S:=λk=>listed.getD k false) hS j rQ DS;have uC:j=lo:=by
    grind
   subst uC;rw[ho]at fR;cases fR;unfold wpOp;simp only[ho];refine YbO LS ic r d _ Q (λa' w' ⟨g',ρ',σ',jP,hle,hr,pE,hk⟩=>?_);have dQ:∀k,(listed.setIfInBounds j true).getD k false=if k=j then true else listed.getD k false:=by
    intro k;by_cases hk:k<ms.length
    ·by_cases hY:k=j
     ·subst hY;simp[show k<listed.size by omega]
     ·rw[aB hY];simp[zBb (Ne.symm hY)]
    grind
   refine hQ g' ρ' σ' jP a' w' fuel _ hle hr pE hk (by simpa using hs) (λk hk=>?_) (λk hk=>?_) ?_
   ·grind
   ·grind
   ·have:=OO (S:=λk=>listed.getD k false) (S':=λk=>(listed.setIfInBounds j true).getD k false) (j:=j) (n:=ms.length) rQ zO (by simp only[dQ];simp) (λk hk cU=>by simp only[dQ];rw[aB cU]);omega
abbrev vP:=List (List aR×Bool)
def YI:vP→List aR
 |[]=>[]
 |p::r=>p.1++YI r
def pX(n:Nat)(hd:List (List Nat)):Nat→vP→Bool
 |_,[]=>true
 |lo,(fy,s)::r=>(!s||IT fy.length 1)&&(zE n hd (lo+fy.length)&&pX n hd (lo+fy.length) r)
def sX(P:Program)(GL:aw)(hd:List (List Nat)):Nat→vP→Frame→List ab→(Frame→List ab→Prop)→Prop
 |_,[],ρ,σ,K=>K ρ σ
 |lo,(fy,true)::r,ρ,σ,K=>i7 false P GL fy ρ σ [] λρ σ _=>sX P GL hd (lo+fy.length) r ρ σ K
 |lo,(fy,false)::r,ρ,σ,K=>i7 true P GL fy ρ σ [] λρ σ lg=>Qi (oN hd lo fy.length) lg=true∧sX P GL hd (lo+fy.length) r ρ σ K
theorem RP{n:Nat}{ops:Array Oper}{ms:List aR}{hd:List (List Nat)}(eN:ops.size=ms.length)(bR:∀(j:Nat) (m:aR),ms[j]?=some m→∃o,ops[j]?=some o∧gk P GL n ops o m)(dY:zy ops.toList ms hd=true)
 {w0:World}{L:Ln}{Q:Exit→Act→World→Prop}{K:Frame→List ab→Prop}:∀(ps:vP) (lo:Nat) (ρ:Frame) (σ:List ab) (g:Gm),pX ms.length hd lo ps=true→lo+(YI ps).length=ms.length→(∀j m,(YI ps)[j]?=some m→ms[lo+j]?=some m) →
  sX P GL hd lo ps ρ σ K→(∀g' ρ' σ' a w,g.Le g'→bx GL w0 L g' (hp σ') w→cX n g' ρ' a→K ρ' σ'→Q .normal a w) →
  ∀(fuel:Nat) (listed:Array Bool) (a:Act) (w:World),listed.size=ms.length→(∀k,k<lo→listed.getD k false=true)→(∀k,lo<=k→listed.getD k false=false)→pN (λk=>listed.getD k false) ms.length<=fuel→bx GL w0 L g (hp σ) w→cX n g ρ a→wpAny P .any ops Q fuel listed a w
 |[],lo,ρ,σ,g,_,hl,_,h,hQ,fuel,listed,a,w,hs,rU,mn,hc,r,d=>by
  have jr:lo=ms.length:=by simpa[YI]using hl
  have hq:Q .normal a w:=hQ g ρ σ a w (Gm.Le.refl g) r d h;have hr:zBk .any ops listed=[]:=by
   simp_all [zBk]
  cases fuel with
  |zero=>exact⟨hr,hq⟩
  |succ fuel=>exact⟨λ_=>hq,λi hi=>by rw[hr]at hi;cases hi⟩
 |(fy,true)::ps,lo,ρ,σ,g,ia,hl,Ad,h,hQ,fuel,listed,a,w,hs,rU,mn,hc,r,d=>by
  simp only[pX,AI,Bool.not_true,Bool.false_or]at ia;have h1:=fY ia.1;obtain⟨m,rfl⟩:=List.length_eq_one_iff.1 h1;simp only[YI,By,zBa]at hl;have hm:ms[lo]?=some m:=by have:=Ad 0 m (by simp[YI]);simpa using this
  have ic:eH false P GL m ρ σ [] (λρ' σ' _=>sX P GL hd (lo + 1) ps ρ' σ' K):=h;refine ZdS eN bR dY hm (λj hj hc i hi=>Ydc ia.2.1 j hj hc i hi) ic Q (λg' ρ' σ' lg a' w' wF qF k1 k2 k3 k4 k5 k6 k7 k8=>?_) fuel listed a w hs rU mn hc r d;exact RP eN bR dY ps (lo + 1) ρ' σ' g' ia.2.2 (by omega) (λj m' e=>by
   have:=Ad (j+1) m' (by simpa[YI]using e)
   grind) k4 (λg2 ρ2 σ2 a2 w2 q=>hQ g2 ρ2 σ2 a2 w2 (k1.trans q)) wF qF a' w' k5 k6 k7 k8 k2 k3
 |(fy,false)::ps,lo,ρ,σ,g,ia,hl,Ad,h,hQ,fuel,listed,a,w,hs,rU,mn,hc,r,d=>by
  simp only[pX,AI,Bool.not_false,Bool.true_or,true_and]at ia;simp only[YI,By]at hl;have xw:∀ j m,fy[j]?=some m→ms[lo + j]?=some m:=λj m e=>Ad j m (by
   grind [YI])
  have hw:i7 true P GL fy ρ σ [] (λρ' σ' lg=>Qi (oN hd lo fy.length) lg=true∧sX P GL hd (lo+fy.length) ps ρ' σ' K):=h;obtain⟨ts,Am⟩:=P9 fy ρ σ [] _ hw;obtain⟨hlen,_,ρf,σf,_,_,wS⟩:=IA fy ts lo ρ σ [] _ Am;rw[zAL]at wS;have D:=Nn dY;refine YdS (w0:=w0) (L:=L) (g:=g) eN bR dY rfl (by omega) xw (λj hj hc i hi=>Ydc ia.1 j hj hc i hi) Am wS.1 Q (λg' ρ' σ' a' w' wF qF k1 k2 k3 k4 k5 k6 k7 k8=>?_) fuel listed a w hs (λj hj=>?_) rU (λk hk=>mn k (by omega)) hc ⟨g,ρ,Gm.Le.refl g,?_,d,λt=>?_⟩
  ·exact RP eN bR dY ps (lo + fy.length) ρ' σ' g' ia.2 (by omega) (λj m' e=>by
    have:=Ad (fy.length+j) m' (by simp_all [YI,zAO])
    grind) k4.2 (λg2 ρ2 σ2 a2 w2 q=>hQ g2 ρ2 σ2 a2 w2 (k1.trans q)) wF qF a' w' k5 k6 k7 k8 k2 k3
  ·have uC:j<lo:=by
    grind
   exact⟨by omega,λi hi=>rU i (by have:=D.back j (by omega) i hi;omega)⟩
  ·have:jO (λk=>listed.getD k false) lo ts (hp σ)=jO (λ_=>false) lo ts (hp σ):=by
    funext b
    refine QZ _ _ _ _ (λk t e _=>mn _ (by omega)) rfl
   rw[this];have g_:∀(ts:List TS) (i:Nat) (h:Hp),jO (λ_=>false) i ts h=h:=by
    intro ts
    induction ts<;>simp_all [jO]
   rw[g_];exact r
  ·have g_:∀(ms:List aR) (ts:List TS) (i:Nat) (ρ:Frame),kW (λ_=>false) i ms ts ρ=ρ:=by
    intro ms
    induction ms with
    |nil=>intros;simp[kW]
    |cons m ms ih=>intro ts i ρ;cases ts<;>simp_all [kW]
   have:bN (kW (λk=>listed.getD k false) lo fy ts ρ) t=bN (kW (λ_=>false) lo fy ts ρ) t:=XZ _ _ _ _ _ (λk m e _=>mn _ (by omega)) rfl;rw[this,g_]
theorem Xeb(hP:P.follows .mixedOrders=true){id:Nat}{ps:vP}{Q:eF}(vi:pX (YI ps).length hd 0 ps=true)
 (h:sX P GL hd 0 ps ρ σ (λρ' σ'=>Q .normal ρ' σ')):iX P GL n (.region id (YI ps) (some hd)) ρ σ Q:=by
 intro c hc w0 L g a w r d;cases hc with
 |draw _ ops _ _ eN bR dY=>
  refine wp_region_any hP ?_;have hF:∀k,(zBp ops.size false).getD k false=false:=by
   intro k;rw[zBU,zBo];split<;>rfl
  refine RP (w0:=w0) (L:=L) eN bR dY ps 0 ρ σ g vi (by simp) (λj m e=>by simpa using e) h (λg' ρ' σ' a' w' k1 k2 k3 k4=>⟨g',ρ',σ',k1,k2,k3,k4⟩) ops.size _ a _ (by simp[eN]) (λk hk=>by omega) (λk _=>hF k) ?_ r.drew d;rw[eN];have:∀m,pN (λk=>(zBp (YI ps).length false).getD k false) m<=m:=by
   intro m
   induction m<;>simp_all [pN]
  exact this _
end
end Go.Ah
end
section
namespace Go.Ah
structure aE (α:Type) where
 stop:α
 call:MK→List aa→List ab→(aa→List ab→α)→α
 eV:MK→List aa→List ab→(aa→List Nat×List Nat→List ab→α)→α
 test:aa→α→α→α
 loop:((List aa→List ab→α)→List aa→List ab→α)→List aa→List ab→α
section
variable {α:Type}
def aE.rd(A:aE α)(r:aN)(K:aa→α):α:=match r with
 |.ok v _ []=>K v
 |_=>A.stop
def aE.pu(A:aE α)(r:aN)(K:aa→α):α:=match r with
 |.ok v [] []=>K v
 |_=>A.stop
def aE.wr(A:aE α)(r:aN)(σ:List ab)(K:aa→List ab→α):α:=match r with
 |.ok v _ up=>match gC σ up with
  |some σ'=>K v σ'
  |none=>A.stop
 |.stop=>A.stop
def aE.dr(A:aE α)(r:aN)(σ:List ab)(K:aa→List Nat×List Nat→List ab→α):α:=match r with
 |.ok v rd up=>match gC σ up with
  |some σ'=>K v (rd,up.map (·.1)) σ'
  |none=>A.stop
 |.stop=>A.stop
def aE.opt{β:Type}(A:aE α)(o:Option β)(K:β→α):α:=match o with
 |some v=>K v
 |none=>A.stop
def aE.gd(A:aE α)(b:Bool)(k:α):α:=match b with
 |true=>k
 |false=>A.stop
@[reducible] def tY(cs:List (Bool×Bool)):aa:=.when cs (.bool false)
def aE.gx(A:aE α)(c:aa)(w:Bool)(r:α)(s:List (Bool×Bool)→α):α:=match c with
 |.when cs (.bool q)=>match yw.gn cs with
  |true=>s (cs++[(q,w)])
  |false=>A.stop
 |c=>A.test c (bif w then r else s [(true,w)]) (bif w then s [(false,w)]else r)
def aE.gr(A:aE α)(c:aa)(w:Bool)(r:(aa→α)→α)(K:aa→α):α:=A.gx c w (r K) (λcs=>K (tY cs))
def aE.gw(A:aE α)(c:aa)(w:Bool)(r:(aa→List ab→α)→α)(σ:List ab)(K:aa→List ab→α):α:=A.gx c w (r K) (λcs=>K (tY cs) σ)
def aE.gl(A:aE α)(c:aa)(w:Bool)(r:(aa→List Nat×List Nat→List ab→α)→α)(σ:List ab)(K:aa→List Nat×List Nat→List ab→α):α:=
 A.gx c w (r K) (λcs=>K (tY cs) ([],[]) σ)
def cP(f:(List aa→List ab→α)→α)(k:List aa→List ab→α):α:=f k
inductive WN where
 |mv|pu|rd|wr|call
def ft:MK→WN
 |.mv=>.mv
 |.call _ | .kf | .invoke _ _=>.call
 |.alloc _ | .box | .mP _ _ _ _ | .store _ | .makeMap | .append _ _ _ | .lO _ | .range | .next | .sk _ _ _ | .iN _ _=>.wr
 |.load _ _ | .lookup _ _ _ | .mV | .cQ _ _ _ _ | .fK _=>.rd
 |_=>.pu
def wx(A:aE α)(o:aR)(ρ:Frame)(σ:List ab)(K:Frame→List ab→α):α:=
 match o.guard with
 |none=>match ft o.k with
  |.mv=>match o.xs with
   |[x]=>K (cC o.dst (ev ρ x) ρ) σ
   |_=>A.stop
  |.pu | .rd=>A.rd (eZ o.k (o.xs.map (ev ρ)) σ) λv=>K (cC o.dst v ρ) σ
  |.wr=>A.wr (eZ o.k (o.xs.map (ev ρ)) σ) σ λv σ=>K (cC o.dst v ρ) σ
  |.call=>A.call o.k (o.xs.map (ev ρ)) σ λv σ=>K (cC o.dst v ρ) σ
 |some (s,w)=>match ft o.k with
  |.mv | .pu | .rd=>A.gr (bN ρ s) w (λk=>A.rd (eZ o.k (o.xs.map (ev ρ)) σ) k) λv=>K (cC o.dst v ρ) σ
  |.wr=>A.gw (bN ρ s) w (λk=>A.wr (eZ o.k (o.xs.map (ev ρ)) σ) σ k) σ λv σ=>K (cC o.dst v ρ) σ
  |.call=>A.gw (bN ρ s) w (λk=>A.call o.k (o.xs.map (ev ρ)) σ k) σ λv σ=>K (cC o.dst v ρ) σ
def jD(A:aE α):List aR→Frame→List ab→(Frame→List ab→α)→α
 |[],ρ,σ,K=>K ρ σ
 |o::r,ρ,σ,K=>wx A o ρ σ λρ σ=>jD A r ρ σ K
def rG(A:aE α)(o:aR)(ρ:Frame)(σ:List ab)(lg:Log)(K:Frame→List ab→Log→α):α:=
 match o.guard with
 |none=>match ft o.k with
  |.mv=>match o.xs with
   |[x]=>K (cC o.dst (ev ρ x) ρ) σ (lg++[([],[])])
   |_=>A.stop
  |.pu=>A.pu (eZ o.k (o.xs.map (ev ρ)) σ) λv=>K (cC o.dst v ρ) σ (lg++[([],[])])
  |.rd | .wr=>A.dr (eZ o.k (o.xs.map (ev ρ)) σ) σ λv l σ=>K (cC o.dst v ρ) σ (lg++[l])
  |.call=>A.eV o.k (o.xs.map (ev ρ)) σ λv l σ=>K (cC o.dst v ρ) σ (lg++[l])
 |some (s,w)=>match ft o.k with
  |.mv | .pu=>A.gr (bN ρ s) w (λk=>A.pu (eZ o.k (o.xs.map (ev ρ)) σ) k) λv=>K (cC o.dst v ρ) σ (lg++[([],[])])
  |.rd | .wr=>A.gl (bN ρ s) w (λk=>A.dr (eZ o.k (o.xs.map (ev ρ)) σ) σ k) σ λv l σ=>K (cC o.dst v ρ) σ (lg++[l])
  |.call=>A.gl (bN ρ s) w (λk=>A.eV o.k (o.xs.map (ev ρ)) σ k) σ λv l σ=>K (cC o.dst v ρ) σ (lg++[l])
def CM(A:aE α):List aR→Frame→List ab→Log→(Frame→List ab→Log→α)→α
 |[],ρ,σ,lg,K=>K ρ σ lg
 |o::r,ρ,σ,lg,K=>rG A o ρ σ lg λρ σ lg=>CM A r ρ σ lg K
def mS:WN→Bool
 |.wr=>true
 |.call=>true
 |_=>false
def lQ:List aR→Bool
 |[]=>true
 |o::r=>!(mS (ft o.k))&&lQ r
inductive bM where
 |skip
 |region (id:Nat) (ms:List aR) (draw:Option (List (List Nat)))
 |iJ (id:Nat) (ps:vP) (hd:List (List Nat))
 |seq (a b:bM)
 |cond (c:sJ) (a b:bM)
 |join (lv:List Nat) (a:bM)
 |block (id:Nat) (a:bM)
 |loop (lv:List Nat) (a:bM)
 |exit (id:Nat)
 |scope (a:bM)
 |label (l:Nat)
 |ret
 deriving Inhabited
def bM.er:bM→dB
 |.skip=>.skip
 |.region id ms hd=>.region id ms hd
 |.iJ id ps hd=>.region id (YI ps) (some hd)
 |.seq a b=>.seq a.er b.er
 |.cond c a b=>.cond c a.er b.er
 |.join _ a=>a.er
 |.block id a=>.block id a.er
 |.loop _ a=>.loop a.er
 |.exit id=>.exit id
 |.scope a=>.scope a.er
 |.label l=>.label l
 |.ret=>.ret
def QE:List aR→List Nat
 |[]=>[]
 |o::r=>match o.dst with
  |some d=>d::QE r
  |none=>QE r
def bM.kU:bM→List Nat
 |.region _ ms _=>QE ms
 |.iJ _ ps _=>QE (YI ps)
 |.seq a b=>a.kU++b.kU
 |.cond _ a b=>a.kU++b.kU
 |.join _ a=>a.kU
 |.block _ a=>a.kU
 |.loop _ a=>a.kU
 |.scope a=>a.kU
 |_=>[]
def uI(x:Nat):List Nat→Bool
 |[]=>false
 |y::l=>IT x y||uI x l
def xK:List Nat→List Nat→Bool
 |[],_=>true
 |x::l,b=>uI x b&&xK l b
def bM.ok:bM→Bool
 |.iJ _ ps hd=>pX (YI ps).length hd 0 ps
 |.seq a b=>a.ok&&b.ok
 |.cond _ a b=>a.ok&&b.ok
 |.join lv a=>xK lv a.kU&&a.ok
 |.block _ a=>a.ok
 |.loop lv a=>xK lv a.kU&&a.ok
 |.scope a=>a.ok
 |_=>true
def qX:List aa→aa
 |[]=>.aQ
 |x::_=>x
def jM:List aa→List aa
 |[]=>[]
 |_::l=>l
def lU:List Nat→List aa→Frame→Frame
 |[],_,ρ=>ρ
 |k::ks,vs,ρ=>(k,qX vs)::lU ks (jM vs) ρ
def cZ(l:List Nat):Frame→Frame
 |[]=>[]
 |(k,v)::r=>match uI k l with
  |true=>cZ l r
  |false=>(k,v)::cZ l r
def iH(ρ:Frame):List Nat→List aa
 |[]=>[]
 |s::r=>bN ρ s::iH ρ r
def la(A:aE α)(hd:List (List Nat)):Nat→vP→Frame→List ab→(Frame→List ab→α)→α
 |_,[],ρ,σ,K=>K ρ σ
 |lo,(fy,true)::r,ρ,σ,K=>jD A fy ρ σ λρ σ=>la A hd (lo+fy.length) r ρ σ K
 |lo,(fy,false)::r,ρ,σ,K=>match lQ fy with
  |true=>jD A fy ρ σ λρ σ=>la A hd (lo+fy.length) r ρ σ K
  |false=>CM A fy ρ σ [] λρ σ lg=>A.gd (Qi (oN hd lo fy.length) lg) (la A hd (lo+fy.length) r ρ σ K)
def dn(A:aE α):bM→Frame→List ab→(Frame→List ab→α)→(Nat→Frame→List ab→α)→(Frame→List ab→α)→α
 |.skip,ρ,σ,K,_,_=>K ρ σ
 |.label _,ρ,σ,K,_,_=>K ρ σ
 |.region _ ms none,ρ,σ,K,_,_=>jD A ms ρ σ K
 |.region _ ms (some hd),ρ,σ,K,_,_=>match lQ ms with
  |true=>jD A ms ρ σ K
  |false=>CM A ms ρ σ [] λρ σ lg=>A.gd (Qi hd lg) (K ρ σ)
 |.iJ _ ps hd,ρ,σ,K,_,_=>la A hd 0 ps ρ σ K
 |.seq a b,ρ,σ,K,E,R=>dn A a ρ σ (λρ σ=>dn A b ρ σ K E R) E R
 |.cond c a b,ρ,σ,K,E,R=>A.test (ev ρ c) (dn A a ρ σ K E R) (dn A b ρ σ K E R)
 |.join lv a,ρ,σ,K,E,R=>cP (λk=>dn A a ρ σ (λρ' σ=>k (iH ρ' lv) σ) E R) (λvs σ=>K (lU lv vs (cZ a.kU ρ)) σ)
 | .block id a,ρ,σ,K,E,R=>dn A a ρ σ K (λi ρ σ=>match IT i id with
  |true=>K ρ σ
  | false=>E i ρ σ) R
 |.loop lv a,ρ,σ,_,E,R=>A.loop (λagain vs σ=>dn A a (lU lv vs (cZ a.kU ρ)) σ (λρ' σ=>again (iH ρ' lv) σ) E R) (iH ρ lv) σ
 |.exit id,ρ,σ,_,E,_=>E id ρ σ
 |.scope a,ρ,σ,K,E,R=>dn A a ρ σ K E R
 |.ret,ρ,σ,_,_,R=>R ρ σ
def iA(agg:Bool)(n:Nat)(x:aa)(σ:List ab):Option aa:=match x with
 |.ak b j=>match ai σ b with
  |.box row=>aK agg j n row
  |_=>none
 |_=>none
def ze(A:aE α):List RV→Frame→List ab→(List aa→α)→α
 |[],_,_,K=>K []
 |.t n::r,ρ,σ,K=>ze A r ρ σ λvs=>K (bN ρ n::vs)
 |.c s agg n::r,ρ,σ,K=>A.opt (iA agg n (bN ρ s) σ) λv=>ze A r ρ σ λvs=>K (v::vs)
structure vO where
 np:Nat
 n:Nat
 body:bM
 gP:List RV
 deriving Inhabited
def vO.fn(D:vO):vz:=⟨D.np,D.n,D.body.er,D.gP⟩
def wu(A:aE α)(D:vO)(xs:List aa)(σ:List ab)(ret:aa→List ab→α):α:=
 dn A D.body (eQ xs) σ (λρ σ=>ze A D.gP ρ σ λvs=>ret (pY vs) σ) (λ_ _ _=>A.stop) (λρ σ=>ze A D.gP ρ σ λvs=>ret (pY vs) σ)
def mu(stop:α):Nat→((List aa→List ab→α)→List aa→List ab→α)→List aa→List ab→α
 |0,_,_,_=>stop
 |n+1,F,vs,σ=>F (mu stop n F) vs σ
structure eS (P:Program) (GL:aw) (A:aE α) (hold:α→Prop):Prop where
 stop:¬hold A.stop
 call:∀ {k xs σ K},hold (A.call k xs σ K)→∃R,nX P GL k xs σ R∧∀v σ',R v σ'→hold (K v σ')
 eV:∀ {k xs σ K},hold (A.eV k xs σ K)→∃v rd up σ',aD P GL k xs (hp σ) v rd up∧gC σ up=some σ'∧hold (K v (rd,up.map (·.1)) σ')
 test:∀ {v a b},hold (A.test v a b)→∃c,v=.bool c∧(c=true→hold a)∧(c=false→hold b)
 loop:∀ {F vs σ},hold (A.loop F vs σ)→∃n,hold (mu A.stop n F vs σ)
section
variable {P:Program} {GL:aw} {A:aE α} {hold:α→Prop}
variable{r:aN}
theorem eS.rd(ok:eS P GL A hold){K:aa→α}(h:hold (A.rd r K)):∃v rd,r=.ok v rd []∧hold (K v):=by
 unfold aE.rd at h;split at h
 ·exact⟨_,_,rfl,h⟩
 ·exact(ok.stop h).elim
theorem eS.pu(ok:eS P GL A hold){K:aa→α}(h:hold (A.pu r K)):∃v,r=.ok v [] []∧hold (K v):=by
 unfold aE.pu at h;split at h
 ·exact⟨_,rfl,h⟩
 ·exact(ok.stop h).elim
variable{σ:List ab}
theorem eS.wr(ok:eS P GL A hold){K:aa→List ab→α}(h:hold (A.wr r σ K)):∃v rd up σ',r=.ok v rd up∧gC σ up=some σ'∧hold (K v σ'):=by
 unfold aE.wr at h;split at h
 ·split at h
  ·grind
  ·exact(ok.stop h).elim
 ·exact(ok.stop h).elim
theorem eS.dr(ok:eS P GL A hold){K:aa→List Nat×List Nat→List ab→α}(h:hold (A.dr r σ K)):∃v rd up σ',r=.ok v rd up∧gC σ up=some σ'∧hold (K v (rd,up.map (·.1)) σ'):=by
 unfold aE.dr at h;split at h
 ·split at h
  ·grind
  ·exact(ok.stop h).elim
 ·exact(ok.stop h).elim
theorem eS.gd(ok:eS P GL A hold){b:Bool}{k:α}(h:hold (A.gd b k)):b=true∧hold k:=by
 unfold aE.gd at h;split at h
 ·exact⟨rfl,h⟩
 ·exact(ok.stop h).elim
theorem eS.opt(ok:eS P GL A hold){β:Type}{o:Option β}{K:β→α}(h:hold (A.opt o K)):∃v,o=some v∧hold (K v):=by
 unfold aE.opt at h;split at h
 ·exact⟨_,rfl,h⟩
 ·exact(ok.stop h).elim
theorem Zg(σ:List ab):gC σ []=some σ:=by simp[gC]
variable{w fl:Bool}
variable{s:Nat}
variable{ρ:Frame}
theorem QcX{c:Bool}(h:bN ρ s=.bool c):dH ρ (some (s,w)) [(c,w)]:=.bool s w c h
theorem ZdV{c:Bool}:eG [(c,w)]↔c=w:=by simp[eG]
theorem He(ok:eS P GL A hold){r:α}{K:List (Bool×Bool)→α}(h:hold (A.gx (bN ρ s) w r K)):∃cs,dH ρ (some (s,w)) cs∧((eG cs∧hold r)∨(¬eG cs∧hold (K cs))):=by
 unfold aE.gx at h;split at h
 ·rename_i cs q hc;split at h
  ·rename_i hn;refine⟨_,.when s w q cs hc,.inr ⟨λq=>S4 hn (λp hp=>q p (by simp[hp])),h⟩⟩
  ·exact(ok.stop h).elim
 ·obtain⟨b,hb,h1,h2⟩:=ok.test h;refine⟨_,QcX hb,?_⟩
  grind [ZdV]
def Yj(l:List Nat)(ρ ρ':Frame):Prop:=∀s,s∉l→bN ρ' s=bN ρ s
theorem Yj.refl(l:List Nat)(ρ:Frame):Yj l ρ ρ:=λ_ _=>rfl
variable{l:List Nat}
theorem Yj.trans{l':List Nat}{a b c:Frame}(h:Yj l a b)(k:Yj l' b c):Yj (l++l') a c:=λs hs=>by
 simp only[zAF,not_or]at hs;rw[k s hs.2,h s hs.1]
theorem Yj.mono{l':List Nat}{a b:Frame}(h:Yj l a b)(hl:∀x∈l,x∈l'):Yj l' a b:=λs hs=>h s λe=>hs (hl s e)
variable{o:aR}
theorem Yj.put{v:aa}:Yj (QE [o]) ρ (cC o.dst v ρ):=by
 intro s hs;rw[Y8];cases hd:o.dst with
 |none=>simp
 |some d=>
  have:s≠d:=by rintro rfl;simp[QE,hd]at hs
  grind
theorem R_(o:aR)(r:List aR):QE (o::r)=QE [o]++QE r:=by
 cases hd:o.dst<;>simp[QE,hd]
variable{lg:Log}
theorem QcV(ok:eS P GL A hold){K:Frame→List ab→α}(rN:fl=true→mS (ft o.k)=false)(h:hold (wx A o ρ σ K)) :
  eH fl P GL o ρ σ lg (λρ' σ' jP=>hold (K ρ' σ')∧Yj (QE [o]) ρ ρ'∧((∃l,jP=lg++[l]∧(mS (ft o.k)=false→l.2=[])))):=by
 unfold wx at h;cases hg:o.guard with
 |none=>
  simp only[hg]at h;have gi:dH ρ o.guard []:=by rw[hg];exact .none
  have hh:eG []:=by simp[eG]
  have D6:hold (A.rd (eZ o.k (o.xs.map (ev ρ)) σ) λv=>K (cC o.dst v ρ) σ)→eH fl P GL o ρ σ lg (λρ' σ' jP=>hold (K ρ' σ')∧Yj (QE [o]) ρ ρ'∧((∃l,jP=lg++[l]∧(mS (ft o.k)=false→l.2=[])))):=by
   intro h;obtain⟨v,rd,e,h⟩:=ok.rd h;exact .run [] _ v rd [] σ gi hh (Zo _) (QJ e) (Zg σ) ⟨h,Yj.put,_,rfl,λ_=>rfl⟩
  cases hc:ft o.k with
  |mv=>
   simp only[hc]at h;split at h
   ·rename_i x hx;have hk:o.k=.mv:=by
     revert hc;unfold ft;split<;>simp_all
    refine .run [] [ev ρ x] (ev ρ x) [] [] σ gi hh (by rw[hx];exact Zo _) (by rw[hk];exact R2 _ _) (Zg σ) ⟨h,Yj.put,_,rfl,λ_=>rfl⟩
   ·exact(ok.stop h).elim
  |pu=>simp_all
  |rd=>simp_all
  |wr=>
   simp only[hc]at h;obtain⟨v,rd,up,σ',e,e2,h⟩:=ok.wr h;exact .run [] _ v rd up σ' gi hh (Zo _) (QJ e) e2 ⟨h,Yj.put,_,rfl,λq=>by simp[mS]at q⟩
  |call=>
   simp only[hc]at h;obtain⟨R,hR,hk⟩:=ok.call h;refine .rel [] _ R ?_ gi hh (Zo _) hR (λv σ' hv=>⟨hk v σ' hv,Yj.put,_,rfl,λq=>by simp[mS]at q⟩);simp_all [mS]
 |some p=>
  obtain⟨s,w⟩:=p;simp only[hg]at h;have gu:∀cs,dH ρ (some (s,w)) cs→¬eG cs→hold (K (cC o.dst (tY cs) ρ) σ)→eH fl P GL o ρ σ lg (λρ' σ' jP=>hold (K ρ' σ')∧Yj (QE [o]) ρ ρ'∧((∃l,jP=lg++[l]∧(mS (ft o.k)=false→l.2=[])))):=by
   intro cs hb cU h;exact .lazy cs _ (.bool false) [] (by rw[hg];exact hb) (Zo _) (λq=>(cU q).elim) ⟨h,Yj.put,_,rfl,λ_=>rfl⟩
  have D6:hold (A.gr (bN ρ s) w (λk=>A.rd (eZ o.k (o.xs.map (ev ρ)) σ) k) λv=>K (cC o.dst v ρ) σ)→eH fl P GL o ρ σ lg (λρ' σ' jP=>hold (K ρ' σ')∧Yj (QE [o]) ρ ρ'∧((∃l,jP=lg++[l]∧(mS (ft o.k)=false→l.2=[])))):=by
   intro h;obtain⟨cs,hb,⟨h0,h1⟩|⟨h0,h1⟩⟩:=He ok h
   ·obtain⟨v,rd,e,h⟩:=ok.rd h1;exact .run cs _ v rd [] σ (by rw[hg];exact hb) h0 (Zo _) (QJ e) (Zg σ) ⟨h,Yj.put,_,rfl,λ_=>rfl⟩
   ·exact gu cs hb h0 h1
  cases hc:ft o.k with
  |mv=>simp_all
  |pu=>simp_all
  |rd=>simp_all
  |wr=>
   simp only[hc]at h gu;obtain⟨cs,hb,⟨h0,h1⟩|⟨h0,h1⟩⟩:=He ok h
   ·obtain⟨v,rd,up,σ',e,e2,h⟩:=ok.wr h1;exact .run cs _ v rd up σ' (by rw[hg];exact hb) h0 (Zo _) (QJ e) e2 ⟨h,Yj.put,_,rfl,λq=>by simp[mS]at q⟩
   ·exact gu cs hb h0 h1
  |call=>
   simp only[hc]at h gu;obtain⟨cs,hb,⟨h0,h1⟩|⟨h0,h1⟩⟩:=He ok h
   ·obtain⟨R,hR,hk⟩:=ok.call h1;refine .rel cs _ R ?_ (by rw[hg];exact hb) h0 (Zo _) hR (λv σ' hv=>⟨hk v σ' hv,Yj.put,_,rfl,λq=>by simp[mS]at q⟩);simp_all [mS]
   ·exact gu cs hb h0 h1
theorem i7.mono:∀ {ms:List aR} {ρ:Frame} {σ:List ab} {lg:Log} {K K':Frame→List ab→Log→Prop},(∀ρ σ lg,K ρ σ lg→K' ρ σ lg)→i7 fl P GL ms ρ σ lg K→i7 fl P GL ms ρ σ lg K'
 |[],_,_,_,_,_,h,k=>h _ _ _ k
 |_::_,_,_,_,_,_,h,k=>eH.mono (λ_ _ _ q=>i7.mono h q) k
def ru(lg:Log):Prop:=∀l∈lg,l.2=[]
theorem XR(ok:eS P GL A hold):∀ {ms:List aR} {ρ:Frame} {σ:List ab} {lg:Log} {K:Frame→List ab→α},(fl=true→lQ ms=true)→hold (jD A ms ρ σ K) →
  i7 fl P GL ms ρ σ lg (λρ' σ' jP=>hold (K ρ' σ')∧Yj (QE ms) ρ ρ'∧(lQ ms=true→ru lg→ru jP))
 |[],ρ,σ,lg,K,_,h=>⟨h,Yj.refl _ _,λ_ q=>q⟩
 |o::r,ρ,σ,lg,K,rN,h=>by
  unfold jD at h;have UK:fl=true→mS (ft o.k)=false:=λe=>by simp_all [lQ]
  have UL:fl=true→lQ r=true:=λe=>by simp_all [lQ]
  refine eH.mono (λρ' σ' jP=>?_) (QcV ok (lg:=lg) UK h);rintro⟨k1,k2,l,hl,k3⟩;refine i7.mono (λWM fF V3=>?_) (XR ok UL k1);rintro⟨q1,q2,q3⟩;refine⟨q1,by rw[R_];exact k2.trans q2,λhn U1=>?_⟩;simp only[lQ,AI,zAg]at hn;refine q3 hn.2 ?_;rw[hl];intro x hx;simp only[zAF,List.mem_singleton]at hx;rcases hx with hx|hx
  ·exact U1 x hx
  ·rw[hx];exact k3 hn.1
theorem Zcr(ok:eS P GL A hold){K:Frame→List ab→Log→α}(h:hold (rG A o ρ σ lg K)) :
  eH true P GL o ρ σ lg (λρ' σ' jP=>hold (K ρ' σ' jP)∧Yj (QE [o]) ρ ρ'):=by
 unfold rG at h;cases hg:o.guard with
 |none=>
  simp only[hg]at h;have gi:dH ρ o.guard []:=by rw[hg];exact .none
  have hh:eG []:=by simp[eG]
  have oD:hold (A.dr (eZ o.k (o.xs.map (ev ρ)) σ) σ λv l σ=>K (cC o.dst v ρ) σ (lg++[l]))→eH true P GL o ρ σ lg (λρ' σ' jP=>hold (K ρ' σ' jP)∧Yj (QE [o]) ρ ρ'):=by
   intro h;obtain⟨v,rd,up,σ',e,e2,h⟩:=ok.dr h;exact .run [] _ v rd up σ' gi hh (Zo _) (QJ e) e2 ⟨h,Yj.put⟩
  cases hc:ft o.k with
  |mv=>
   simp only[hc]at h;split at h
   ·rename_i x hx;have hk:o.k=.mv:=by
     revert hc;unfold ft;split<;>simp_all
    refine .run [] [ev ρ x] (ev ρ x) [] [] σ gi hh (by rw[hx];exact Zo _) (by rw[hk];exact R2 _ _) (Zg σ) ⟨h,Yj.put⟩
   ·exact(ok.stop h).elim
  |pu=>
   simp only[hc]at h;obtain⟨v,e,h⟩:=ok.pu h;exact .run [] _ v [] [] σ gi hh (Zo _) (QJ e) (Zg σ) ⟨h,Yj.put⟩
  |rd=>simp only[hc]at h;exact oD h
  |wr=>simp only[hc]at h;exact oD h
  |call=>
   simp only[hc]at h;obtain⟨v,rd,up,σ',e,e2,h⟩:=ok.eV h;exact .run [] _ v rd up σ' gi hh (Zo _) e e2 ⟨h,Yj.put⟩
 |some p=>
  obtain⟨s,w⟩:=p;simp only[hg]at h;have gu:∀cs,dH ρ (some (s,w)) cs→¬eG cs→hold (K (cC o.dst (tY cs) ρ) σ (lg++[([],[])]))→eH true P GL o ρ σ lg (λρ' σ' jP=>hold (K ρ' σ' jP)∧Yj (QE [o]) ρ ρ'):=by
   intro cs hb cU h;exact .lazy cs _ (.bool false) [] (by rw[hg];exact hb) (Zo _) (λq=>(cU q).elim) ⟨h,Yj.put⟩
  have xE:hold (A.gr (bN ρ s) w (λk=>A.pu (eZ o.k (o.xs.map (ev ρ)) σ) k) λv=>K (cC o.dst v ρ) σ (lg++[([],[])]))→eH true P GL o ρ σ lg (λρ' σ' jP=>hold (K ρ' σ' jP)∧Yj (QE [o]) ρ ρ'):=by
   intro h;obtain⟨cs,hb,⟨h0,h1⟩|⟨h0,h1⟩⟩:=He ok h
   ·obtain⟨v,e,h⟩:=ok.pu h1;exact .run cs _ v [] [] σ (by rw[hg];exact hb) h0 (Zo _) (QJ e) (Zg σ) ⟨h,Yj.put⟩
   ·exact gu cs hb h0 h1
  have oD:hold (A.gl (bN ρ s) w (λk=>A.dr (eZ o.k (o.xs.map (ev ρ)) σ) σ k) σ λv l σ=>K (cC o.dst v ρ) σ (lg++[l]))→eH true P GL o ρ σ lg (λρ' σ' jP=>hold (K ρ' σ' jP)∧Yj (QE [o]) ρ ρ'):=by
   intro h;obtain⟨cs,hb,⟨h0,h1⟩|⟨h0,h1⟩⟩:=He ok h
   ·obtain⟨v,rd,up,σ',e,e2,h⟩:=ok.dr h1;exact .run cs _ v rd up σ' (by rw[hg];exact hb) h0 (Zo _) (QJ e) e2 ⟨h,Yj.put⟩
   ·exact gu cs hb h0 h1
  cases hc:ft o.k with
  |mv=>simp only[hc]at h;exact xE h
  |pu=>simp only[hc]at h;exact xE h
  |rd=>simp only[hc]at h;exact oD h
  |wr=>simp only[hc]at h;exact oD h
  |call=>
   simp only[hc]at h;obtain⟨cs,hb,⟨h0,h1⟩|⟨h0,h1⟩⟩:=He ok h
   ·obtain⟨v,rd,up,σ',e,e2,h⟩:=ok.eV h1;exact .run cs _ v rd up σ' (by rw[hg];exact hb) h0 (Zo _) e e2 ⟨h,Yj.put⟩
   ·exact gu cs hb h0 h1
theorem PZ(ok:eS P GL A hold):∀ {ms:List aR} {ρ:Frame} {σ:List ab} {lg:Log} {K:Frame→List ab→Log→α},hold (CM A ms ρ σ lg K) →
  i7 true P GL ms ρ σ lg (λρ' σ' jP=>hold (K ρ' σ' jP)∧Yj (QE ms) ρ ρ')
 |[],ρ,σ,lg,K,h=>⟨h,Yj.refl _ _⟩
 |o::r,ρ,σ,lg,K,h=>by
  unfold CM at h;refine eH.mono (λρ' σ' jP=>?_) (Zcr ok h);rintro⟨k1,k2⟩;refine i7.mono (λWM fF V3=>?_) (PZ ok k1);rintro⟨q1,q2⟩;exact⟨q1,by rw[R_];exact k2.trans q2⟩
theorem XcF:∀a:List Nat,dS a []=true
 |[]=>rfl
 |x::a=>by simp[dS,XcF a]
theorem S0{hd:List (List Nat)}(h:ru lg):Qi hd lg=true:=by
 have one:∀(h':List Nat) (q:List Nat×List Nat),q.2=[]→∀(l:Log) (i:Nat),ru l→Xm h' q i l=true:=by
  intro h' q hq l
  induction l with
  |nil=>intro i _;rfl
  |cons p r ih=>
   intro i hl;have hp:p.2=[]:=hl p (by simp);simp[Xm,cf,hq,hp,dS,XcF,ih (i+1) (λx hx=>hl x (by simp[hx]))]
 unfold Qi;rw[zAm];intro j _;refine one _ _ ?_ _ _ (λx hx=>h x (List.mem_of_mem_take hx));unfold Yv;cases hj:lg[j]? with
 |none=>rfl
 |some p=>exact h p (zAI hj)
theorem It{x:Nat}:∀ {l:List Nat},uI x l=true↔x∈l
 |[]=>by simp[uI]
 |y::l=>by simp[uI,It (l:=l)]
theorem RC:∀ {l b:List Nat},xK l b=true→∀x∈l,x∈b
 |[],_,_,x,h=>by simp at h
 |y::l,b,h,x,hx=>by
  simp only[xK,AI]at h;simp only[zAS]at hx;rcases hx with rfl|hx
  ·exact It.1 h.1
  ·exact RC h.2 x hx
theorem Ns(l:List Nat)(s:Nat):∀ρ:Frame,bN (cZ l ρ) s=if s∈l then .aQ else bN ρ s
 |[]=>by simp[cZ,bN]
 |(k,v)::r=>by
  unfold cZ;cases hk:uI k l with
  |true=>
   have hm:=It.1 hk;simp only;rw[Ns l s r];by_cases hs:s∈l
   ·simp[hs]
   ·have:s≠k:=by rintro rfl;exact hs hm
    simp_all [XT]
  |false=>
   have hm:k∉l:=λe=>by rw[It.2 e]at hk;cases hk
   simp only;rw[XT,XT,Ns l s r];by_cases hs:s=k
   ·subst hs;simp[hm]
   ·simp[hs]
theorem WU:∀ {lv:List Nat} {vs:List aa} {ρ:Frame},s∉lv→bN (lU lv vs ρ) s=bN ρ s
 |[],_,_,_=>rfl
 |k::ks,vs,ρ,h=>by
  simp only[zAS,not_or]at h;simp only[lU];rw[XT,aB h.1,WU h.2]
theorem SJ{lv:List Nat}{ρ1:Frame}(hl:∀x∈lv,x∈l)(h:Yj l ρ ρ1):vy (lU lv (iH ρ1 lv) (cZ l ρ)) ρ1:=by
 have key:∀(ks:List Nat) (ρ0:Frame),vy ρ0 ρ1→vy (lU ks (iH ρ1 ks) ρ0) ρ1:=by
  intro ks
  induction ks with
  |nil=>intro ρ0 h;exact h
  |cons k ks ih=>
   intro ρ0 h t;simp only[lU,iH,qX,jM];rw[XT];by_cases e:t=k
   ·simp_all
   ·rw[aB e];exact ih ρ0 h t
 refine key lv _ (λt=>?_);rw[Ns];by_cases ht:t∈l
 ·rw[aI ht];exact .inr rfl
 ·rw[aB ht];exact .inl (h t ht).symm
theorem Xcn{lv:List Nat}{vs:List aa}(hl:∀x∈lv,x∈l):Yj l ρ (lU lv vs (cZ l ρ)):=by
 intro s hs;rw[WU (λe=>hs (hl s e)),Ns,aB hs]
theorem QbP{n:Nat}{m:dB}{Q:eF}(h:iX P GL n m ρ σ (λe ρ1 σ1=>∃ρ2,vy ρ2 ρ1∧Q e ρ2 σ1)):iX P GL n m ρ σ Q:=by
 intro c hc w0 L g a w r d;refine wp_mono (h c hc w0 L g a w r d) (λe a' w' hl=>?_);cases e with
 |normal=>obtain⟨g',ρ',σ',k1,k2,k3,ρ2,k4,k5⟩:=hl;exact⟨g',ρ2,σ',k1,k2,k3.dP k4,k5⟩
 |exit id=>obtain⟨g',ρ',σ',k1,k2,k3,ρ2,k4,k5⟩:=hl;exact⟨g',ρ2,σ',k1,k2,k3.dP k4,k5⟩
 |ret=>obtain⟨g',ρ',σ',k1,k2,k3,ρ2,k4,k5⟩:=hl;exact⟨g',ρ2,σ',k1,k2,k3.dP k4,k5⟩
 |_=>exact hl.elim
theorem vy.refl(ρ:Frame):vy ρ ρ:=λ_=>.inl rfl
theorem XaN(a b:List aR):QE (a++b)=QE a++QE b:=by
 induction a with
 |nil=>rfl
 |cons o r ih=>grind [R_]
theorem OH(ok:eS P GL A hold){hd:List (List Nat)}:∀(ps:vP) (lo:Nat) {ρ:Frame} {σ:List ab} {K:Frame→List ab→α} {Q:Frame→List ab→Prop},(∀ρ' σ',Yj (QE (YI ps)) ρ ρ'→hold (K ρ' σ')→Q ρ' σ')→hold (la A hd lo ps ρ σ K)→sX P GL hd lo ps ρ σ Q
 |[],_,_,_,_,_,hQ,h=>hQ _ _ (Yj.refl _ _) h
 |(fy,true)::r,lo,ρ,σ,K,Q,hQ,h=>by
  unfold la at h;refine i7.mono (λρ' σ' jP=>?_) (XR ok (fl:=false) (λe=>by cases e) h);rintro⟨k1,k2,_⟩;exact OH ok r _ (λρ2 σ2 q=>hQ ρ2 σ2 (by rw[YI,XaN];exact k2.trans q)) k1
 |(fy,false)::r,lo,ρ,σ,K,Q,hQ,h=>by
  unfold la at h;have hQ':∀ρ',Yj (QE fy) ρ ρ'→∀ρ2 σ2,Yj (QE (YI r)) ρ' ρ2→hold (K ρ2 σ2)→Q ρ2 σ2:=λρ' k2 ρ2 σ2 q=>hQ ρ2 σ2 (by rw[YI,XaN];exact k2.trans q);cases hn:lQ fy with
  |true=>
   simp only[hn]at h;refine i7.mono (λρ' σ' jP=>?_) (XR ok (fl:=true) (λ_=>hn) h);rintro⟨k1,k2,k3⟩;exact⟨S0 (k3 hn (λ_ q=>by simp at q)),OH ok r _ (hQ' _ k2) k1⟩
  |false=>
   simp only[hn]at h;refine i7.mono (λρ' σ' jP=>?_) (PZ ok h);rintro⟨k1,k2⟩;obtain⟨q1,q2⟩:=ok.gd k1;exact⟨q1,OH ok r _ (hQ' _ k2) q2⟩
theorem ZZ(hP:P.follows .mixedOrders=true)(ok:eS P GL A hold){n:Nat}:∀(m:bM) {ρ:Frame} {σ:List ab} {K:Frame→List ab→α} {E:Nat→Frame→List ab→α} {R:Frame→List ab→α} {Q:eF},m.ok=true →
  (∀ρ' σ',Yj m.kU ρ ρ'→hold (K ρ' σ')→Q .normal ρ' σ')→(∀i ρ' σ',Yj m.kU ρ ρ'→hold (E i ρ' σ')→Q (.exit i) ρ' σ')→(∀ρ' σ',Yj m.kU ρ ρ'→hold (R ρ' σ')→Q .ret ρ' σ') →
  hold (dn A m ρ σ K E R)→iX P GL n m.er ρ σ Q
 |.skip,_,_,_,_,_,_,_,hK,_,_,h=>ZdN (hK _ _ (Yj.refl _ _) h)
 |.label _,_,_,_,_,_,_,_,hK,_,_,h=>Qdb (hK _ _ (Yj.refl _ _) h)
 |.exit id,_,_,_,_,_,_,_,_,hE,_,h=>QdM (hE _ _ _ (Yj.refl _ _) h)
 |.ret,_,_,_,_,_,_,_,_,_,hR,h=>Qeb (hR _ _ (Yj.refl _ _) h)
 |.scope a,_,_,_,_,_,_,hm,hK,hE,hR,h=>Zdc (ZZ hP ok a hm hK hE hR h)
 |.region id ms none,ρ,σ,K,E,R,Q,_,hK,_,_,h=>by
  refine XcT (i7.mono (λρ' σ' jP=>?_) (XR ok (fl:=false) (λe=>by cases e) h));rintro⟨k1,k2,_⟩;exact hK _ _ k2 k1
 |.region id ms (some hd),ρ,σ,K,E,R,Q,_,hK,_,_,h=>by
  unfold dn at h;cases hn:lQ ms with
  |true=>
   simp only[hn]at h;refine XcB hP (i7.mono (λρ' σ' jP=>?_) (XR ok (fl:=true) (λ_=>hn) h));rintro⟨k1,k2,k3⟩;exact⟨S0 (k3 hn (λ_ q=>by simp at q)),hK _ _ k2 k1⟩
  |false=>
   simp only[hn]at h;refine XcB hP (i7.mono (λρ' σ' jP=>?_) (PZ ok h));rintro⟨k1,k2⟩;obtain⟨q1,q2⟩:=ok.gd k1;exact⟨q1,hK _ _ k2 q2⟩
 |.iJ id ps hd,ρ,σ,K,E,R,Q,hm,hK,_,_,h=>Xeb hP hm (OH ok ps 0 (λρ' σ' q k=>hK _ _ q k) h)
 |.seq a b,ρ,σ,K,E,R,Q,hm,hK,hE,hR,h=>by
  simp only[bM.ok,AI]at hm;refine Zec (ZZ hP ok a hm.1 (Q:=eF.andThen (λρ σ=>iX P GL n b.er ρ σ Q) Q) (λρ' σ' hs hk=>?_) (λi ρ' σ' hs hk=>?_) (λρ' σ' hs hk=>?_) h)
  ·exact ZZ hP ok b hm.2 (λρ2 σ2 qw=>hK _ _ (hs.trans qw)) (λi ρ2 σ2 qw=>hE _ _ _ (hs.trans qw)) (λρ2 σ2 qw=>hR _ _ (hs.trans qw)) hk
  ·exact hE i ρ' σ' (hs.mono (λx hx=>by simp[bM.kU,hx])) hk
  ·exact hR ρ' σ' (hs.mono (λx hx=>by simp[bM.kU,hx])) hk
 |.cond c a b,ρ,σ,K,E,R,Q,hm,hK,hE,hR,h=>by
  simp only[bM.ok,AI]at hm;unfold dn at h;obtain⟨v,hv,h1,h2⟩:=ok.test h;have m1:∀ρ',Yj a.kU ρ ρ'→Yj (bM.cond c a b).kU ρ ρ':=λρ' q=>q.mono (λx hx=>by simp[bM.kU,hx]);have m2:∀ρ',Yj b.kU ρ ρ'→Yj (bM.cond c a b).kU ρ ρ':=λρ' q=>q.mono (λx hx=>by simp[bM.kU,hx]);refine XdM hv (λe=>?_) (λe=>?_)
  ·exact ZZ hP ok a hm.1 (λρ2 σ2 q=>hK _ _ (m1 _ q)) (λi ρ2 σ2 q=>hE _ _ _ (m1 _ q)) (λρ2 σ2 q=>hR _ _ (m1 _ q)) (h1 e)
  ·exact ZZ hP ok b hm.2 (λρ2 σ2 q=>hK _ _ (m2 _ q)) (λi ρ2 σ2 q=>hE _ _ _ (m2 _ q)) (λρ2 σ2 q=>hR _ _ (m2 _ q)) (h2 e)
 |.join lv a,ρ,σ,K,E,R,Q,hm,hK,hE,hR,h=>by
  simp only[bM.ok,AI]at hm;have B2:=RC hm.1;refine QbP (ZZ hP ok a hm.2 (K:=λρ' σ=>K (lU lv (iH ρ' lv) (cZ a.kU ρ)) σ) (E:=E) (R:=R) (λρ' σ' hs hk=>?_) (λi ρ' σ' hs hk=>⟨ρ',vy.refl _,hE i ρ' σ' hs hk⟩) (λρ' σ' hs hk=>⟨ρ',vy.refl _,hR ρ' σ' hs hk⟩) h);exact⟨_,SJ B2 hs,hK _ _ (Xcn B2) hk⟩
 |.block id a,ρ,σ,K,E,R,Q,hm,hK,hE,hR,h=>by
  refine Xdb (ZZ hP ok a hm (Q:=eF.inBlock id Q) hK (λi ρ' σ' hs hk=>?_) hR h);show (if i=id then Q .normal ρ' σ' else Q (.exit i) ρ' σ');by_cases hi:i=id
  ·subst hi;rw[aI rfl];have hb:IT i i=true:=zBf i;simp only[hb]at hk;exact hK _ _ hs hk
  ·rw[aB hi];have hb:IT i id=false:=by
    grind [fY]
   simp only[hb]at hk;exact hE _ _ _ hs hk
 |.loop lv a,ρ,σ,K,E,R,Q,hm,hK,hE,hR,h=>by
  simp only[bM.ok,AI]at hm;have B2:=RC hm.1;unfold dn at h;obtain⟨k,hk⟩:=ok.loop h;have key:∀(k:Nat) (vs:List aa) (σ:List ab) (ρ1:Frame),vy (lU lv vs (cZ a.kU ρ)) ρ1 →
    hold (mu A.stop k (λagain vs σ=>dn A a (lU lv vs (cZ a.kU ρ)) σ (λρ' σ=>again (iH ρ' lv) σ) E R) vs σ)→iX P GL n (.loop a.er) ρ1 σ Q:=by
   intro k
   induction k with
   |zero=>intro vs σ ρ1 _ hk;exact(ok.stop hk).elim
   |succ k ih=>
    intro vs σ ρ1 hle hk;have hz:Yj a.kU ρ (lU lv vs (cZ a.kU ρ)):=Xcn B2;have mJ:∀ρ',Yj a.kU (lU lv vs (cZ a.kU ρ)) ρ'→Yj a.kU ρ ρ':=λρ' q=>(hz.trans q).mono (λx hx=>by simpa using hx);refine YdN hle (QcT (ZZ hP ok a hm.2 (Q:=eF.andThen (λρ σ=>iX P GL n (.loop a.er) ρ σ Q) Q) (λρ' σ' hs hk=>?_) (λi ρ' σ' hs hk=>?_) (λρ' σ' hs hk=>?_) hk))
    ·exact ih _ _ ρ' (SJ B2 (mJ _ hs)) hk
    ·exact hE i ρ' σ' (mJ _ hs) hk
    ·exact hR ρ' σ' (mJ _ hs) hk
  exact key k _ σ ρ (SJ B2 (Yj.refl _ _)) hk
theorem NR(ok:eS P GL A hold):∀ {rs:List RV} {ρ:Frame} {σ:List ab} {K:List aa→α},hold (ze A rs ρ σ K)→∃vs,pe ρ σ rs=some vs∧hold (K vs)
 |[],_,_,_,h=>⟨[],rfl,h⟩
 |.t n::r,ρ,σ,K,h=>by
  obtain⟨vs,h1,h2⟩:=NR ok (rs:=r) h;exact⟨bN ρ n::vs,by simp[pe,sy,h1],h2⟩
 |.c s agg n::r,ρ,σ,K,h=>by
  unfold ze at h;obtain⟨v,hv,h⟩:=ok.opt h;obtain⟨vs,h1,h2⟩:=NR ok (rs:=r) h;have sR:sy ρ σ (.c s agg n)=some v:=by
   unfold iA at hv;unfold sy;exact hv
  exact⟨v::vs,by simp[pe,sR,h1],h2⟩
theorem XcV(hP:P.follows .mixedOrders=true)(ok:eS P GL A hold){D:vO}(hD:D.body.ok=true){xs:List aa}{ret:aa→List ab→α}(h:hold (wu A D xs σ ret)) :
  iX P GL D.n D.body.er (eQ xs) σ (λe ρ σ'=>(e=.normal∨e=.ret)∧∃v,iK D.gP ρ σ'=some v∧hold (ret v σ')):=by
 refine ZZ hP ok D.body hD (λρ' σ' _ hk=>?_) (λi ρ' σ' _ hk=>(ok.stop hk).elim) (λρ' σ' _ hk=>?_) h
 ·obtain⟨vs,h1,h2⟩:=NR ok hk;simp_all [iK]
 ·obtain⟨vs,h1,h2⟩:=NR ok hk;simp_all [iK]
end
end
end Go.Ah
end
section
namespace Go.Ah
abbrev gU:=∀ {α:Type},aE α→List aa→List ab→(aa→List ab→α)→α
structure mM (P:Program) (GL:aw) (f:FuncId) (np:Nat) (g:gU):Prop where
 plain:Zh P f=true
 ex:∃D:vO,D.np=np∧mL P GL f D.fn∧D.body.ok=true∧∀(α:Type) (A:aE α) (xs:List aa) (σ:List ab) (ret:aa→List ab→α),xs.length=np→g A xs σ ret=wu A D xs σ ret
def fZ:dB→List (Option (List Nat))→bM×List (Option (List Nat))
 |.skip,l=>(.skip,l)
 |.region id ms hd,l=>(.region id ms hd,l)
 |.seq a b,l=>match fZ a l with
  |(a',l)=>match fZ b l with
   |(b',l)=>(.seq a' b',l)
 |.cond c a b,l=>match fZ a l.tail with
  |(a',l2)=>match fZ b l2 with
   |(b',l3)=>match l with
    |some lv::_=>(.join lv (.cond c a' b'),l3)
    |_=>(.cond c a' b',l3)
 |.block id a,l=>match fZ a l.tail with
  |(a',l2)=>match l with
   |some lv::_=>(.join lv (.block id a'),l2)
   |_=>(.block id a',l2)
 |.loop a,l=>match fZ a l.tail with
  |(a',l2)=>match l with
   |some lv::_=>(.loop lv a',l2)
   |_=>(.loop [] a',l2)
 |.exit id,l=>(.exit id,l)
 |.scope a,l=>match fZ a l with
  |(a',l)=>(.scope a',l)
 |.label n,l=>(.label n,l)
 |.ret,l=>(.ret,l)
theorem YQ:∀(m:dB) (l:List (Option (List Nat))),(fZ m l).1.er=m
 |.skip,_=>rfl
 |.region ..,_=>rfl
 |.seq a b,l=>by simp only[fZ,bM.er,YQ a,YQ b]
 |.cond c a b,l=>by
  simp only[fZ];split<;>simp only[bM.er,YQ a,YQ b]
 |.block id a,l=>by
  simp only[fZ];split<;>simp only[bM.er,YQ a]
 |.loop a,l=>by
  simp only[fZ];split<;>simp only[bM.er,YQ a]
 |.exit _,_=>rfl
 |.scope a,l=>by simp only[fZ,bM.er,YQ a]
 |.label _,_=>rfl
 |.ret,_=>rfl
def y_(n:Nat)(hd:List (List Nat)):Nat→List aR→List aR→vP
 |_,[],[]=>[]
 |_,[],o::c=>[(o::c,false)]
 |i,o::r,c=>match ft o.k,o.guard with
  |.call,none=>match zE n hd i&&zE n hd (i+1)with
   |true=>match c with
    |[]=>([o],true)::y_ n hd (i+1) r []
    |x::c=>(x::c,false)::([o],true)::y_ n hd (i+1) r []
   |false=>y_ n hd (i+1) r (c++[o])
  |_,_=>y_ n hd (i+1) r (c++[o])
theorem Og(n:Nat)(hd:List (List Nat)):∀(i:Nat) (l c:List aR),YI (y_ n hd i l c)=c++l
 |_,[],[]=>rfl
 |_,[],o::c=>by simp[y_,YI]
 |i,o::r,c=>by
  have h1:YI (y_ n hd (i+1) r (c++[o]))=c++o::r:=by rw[Og];simp
  unfold y_;split
  ·split
   ·split
    ·simp[YI,Og]
    ·simp[YI,Og]
   ·exact h1
  ·exact h1
def Y1:bM→bM
 |.region id ms (some hd)=>.iJ id (y_ ms.length hd 0 ms []) hd
 |.seq a b=>.seq (Y1 a) (Y1 b)
 |.cond c a b=>.cond c (Y1 a) (Y1 b)
 |.join lv a=>.join lv (Y1 a)
 |.block id a=>.block id (Y1 a)
 |.loop lv a=>.loop lv (Y1 a)
 |.scope a=>.scope (Y1 a)
 |D=>D
theorem XU:∀D:bM,(Y1 D).er=D.er
 |.region id ms (some hd)=>by simp[Y1,bM.er,Og]
 |.region id ms none=>rfl
 |.iJ ..=>rfl
 |.seq a b=>by simp only[Y1,bM.er,XU a,XU b]
 |.cond c a b=>by simp only[Y1,bM.er,XU a,XU b]
 |.join lv a=>by simp only[Y1,bM.er,XU a]
 |.block id a=>by simp only[Y1,bM.er,XU a]
 |.loop lv a=>by simp only[Y1,bM.er,XU a]
 |.scope a=>by simp only[Y1,bM.er,XU a]
 |.skip=>rfl
 |.label _=>rfl
 |.exit _=>rfl
 |.ret=>rfl
def I_(m:dB)(l:List (Option (List Nat))):bM:=match l with
 |some [k]::r=>match IT k 999 with
  |true=>Y1 (fZ m r).1
  |false=>(fZ m l).1
 |_=>(fZ m l).1
theorem Qda(m:dB)(l:List (Option (List Nat))):(I_ m l).er=m:=by
 unfold I_
 grind [XU,YQ]
def eK(P:Program)(GL:aw)(np:Nat)(f:FuncId)(l:List (Option (List Nat))):Option vO:=match Tq P GL np f with
 |some F=>bif (I_ F.body l).ok&&(Zh P f&&IT F.np np)then some ⟨np,F.n,I_ F.body l,F.gP⟩else none
 |none=>none
theorem QeA{P:Program}{GL:aw}{np:Nat}{f:FuncId}{l:List (Option (List Nat))}{g:gU}{D:vO}(hD:eK P GL np f l=some D)(h:∀(α:Type) (A:aE α) (xs:List aa) (σ:List ab) (ret:aa→List ab→α),xs.length=np→g A xs σ ret=wu A D xs σ ret):mM P GL f np g:=by
 unfold eK at hD;split at hD
 ·rename_i F hF;obtain⟨hb,hD⟩:=QF hD;simp only[AI]at hb;cases hD;have Hz:=fY hb.2.2;refine⟨hb.2.1,_,rfl,?_,hb.1,h⟩;have yL:vO.fn ⟨np,F.n,I_ F.body l,F.gP⟩=F:=by
   cases F<;>simp_all [vO.fn,Qda]
  rw[yL];exact Ydi hF
 ·cases hD
end Go.Ah
end
section
namespace Go.Ah
theorem Yq{σ:List ab}{b:Nat}{x:ab}(h:σ[b]?=some x):ai σ b=x:=by
 induction σ generalizing b with
 |nil=>simp at h
 |cons y σ ih=>cases b<;>simp_all [ai]
theorem SC{σ:List ab}{b:Nat}(h:b<σ.length):σ[b]?=some (ai σ b):=by
 simp_all [Yq]
def GM(fp:List Nat)(n:Nat):Nat→List ab→List ab
 |_,[]=>[]
 |i,x::l=>(bif uI i fp then x.dF (aa.cx (o8 n))else .dead)::GM fp n (i+1) l
def my(fp:List Nat)(σ:List ab):List ab:=GM fp σ.length 0 σ
theorem ZbJ(fp:List Nat)(n:Nat):∀(l:List ab) (i j:Nat),(GM fp n i l)[j]?=(l[j]?).map λx=>bif uI (i+j) fp then x.dF (aa.cx (o8 n))else .dead
 |[],i,j=>by simp[GM]
 |x::l,i,0=>by simp[GM]
 |x::l,i,j+1=>by
  simp only[GM,List.getElem?_cons_succ];rw[ZbJ fp n l (i+1) j,show i+1+j=i+(j+1) by omega]
theorem SE(fp:List Nat)(σ:List ab)(j:Nat):(my fp σ)[j]?=(σ[j]?).map λx=>bif uI j fp then x.dF (aa.cx (o8 σ.length))else .dead:=by
 rw[my,ZbJ,IN]
theorem ZcK(F:Nat→ab):∀(keys:List Nat) (h:Hp) (b:Nat),cz h (keys.map λb=>(b,F b)) b=if b∈keys then some (F b)else h b
 |[],h,b=>by simp[cz]
 |x::keys,h,b=>by
  simp only[zAN,cz];rw[ZcK F keys]
  grind [eo]
section
variable {P:Program} {GL:aw}
theorem Za3{f:FuncId}{F:vz}(ok:mL P GL f F){xs AW:List aa}(hn:xs.length=F.np)(σ:List ab)(fp ids:List Nat)(z_:∀b∈fp,b∈ids)(pF:∀b∈ids,b<σ.length){v:aa}{k:Nat}{τ τ':List ab}
 (Ap:iu (o8 σ.length) xs=AW)(hτ:my fp σ=τ)(h:iX P GL F.n F.body (eQ AW) τ (λe ρ s=>(e=.normal∨e=.ret)∧iK F.gP ρ s=some v∧s=τ'))(hk:τ'.length=σ.length+k) :
  je P GL f xs (hp σ) (v.cx (fw ids σ.length k)) ids ((fp++zBI σ.length k).map λb=>(b,(ai τ' b).dF (aa.cx (fw ids σ.length k)))):=by
 intro w0 L g hq w vs r hx cO eo;subst Ap;subst hτ
 let dm:CB:=⟨0,0,0,true,0⟩
 let c':Own:=λb=>if b<σ.length then some ((g.c b).getD dm)else none
 let lb:List Nat:=fp.filterMap λb=>match g.c b,σ[b]? with
  |some cb,some x=>bif x.live && !cb.cR then some cb.blk else none
  |_,_=>none
 have lH:∀b∈ids,∃cb,g.c b=some cb∧c' b=some cb∧hq b=σ[b]?:=by
  intro b hb;have hl:=pF b hb;have e1:hq b=σ[b]?:=cO b hb;obtain⟨cb,u6⟩:=r.jy b σ[b] (by rw[e1];simp[hl]);exact⟨cb,u6,by simp only[c'];rw[aI hl,u6];rfl,e1⟩
 have hlb:∀b∈fp,∀cb y,g.c b=some cb→σ[b]?=some y→y.live=true→cb.cR=false→cb.blk∈lb:=by
  intro b hb cb y u6 hy hl hv;simp only[lb,zCG];exact⟨b,hb,by rw[u6,hy];simp[hl,hv]⟩
 have cc:∀b x,(my fp σ)[b]?=some x→b<σ.length:=by
  intro b x e;rw[SE]at e;cases hs:σ[b]? with
  |none=>rw[hs]at e;cases e
  |some y=>exact(gE hs).1
 have uF:∀b x,(my fp σ)[b]?=some x→x.live=true→b∈fp∧∃y,σ[b]?=some y∧x=y.dF (aa.cx (o8 σ.length)):=by
  intro b x e hl;rw[SE]at e;cases hs:σ[b]? with
  |none=>rw[hs]at e;cases e
  |some y=>
   rw[hs]at e;simp only[zCS,zBl]at e;cases hi:uI b fp with
   |false=>rw[hi]at e;subst e;cases hl
   |true=>rw[hi]at e;exact⟨It.1 hi,y,rfl,e.symm⟩
 have vk:∀x u,g.den x u→Den g.M c' (x.cx (o8 σ.length)) u:=by
  intro x u d;refine d.cx (λb b' cb k1 k2=>?_);unfold o8 at k1;obtain⟨k0,k1⟩:=QF k1;cases k1;have hl:b<σ.length:=iy k0;simp only[c'];rw[aI hl,k2];rfl
 have r0:bx GL w ⟨lb,g.M⟩ ⟨g.M,c'⟩ (hp (my fp σ)) w:={
  keeps:=jg.refl _ _,aZ:=r.aZ,src:=λb o e=>.inl e,cr:=r.cr
  ed:=λb e=>by
   have e':(my fp σ)[b]?=none:=e;rw[SE]at e';show c' b=none;simp only[c'];rw[aB];intro hb;simp[hb]at e'
  jy:=λb blk e=>by
   have:=cc b blk e;exact⟨_,by show c' b=_;simp only[c'];rw[aI this]⟩
  own:=λb blk cb e hl ec hv=>by
   obtain⟨hb,y,hy,rfl⟩:=uF b blk e hl;obtain⟨yB,q1,q2,q3⟩:=lH b (z_ b hb);have gX:c' b=some cb:=ec;rw[q2]at gX;cases gX;rw[ab.bS]at hl;obtain⟨p1,p2,o,p3,p4⟩:=r.own b y _ (by rw[q3];exact hy) hl q1 hv;exact⟨p1,.inl (hlb b hb _ y q1 hy hl hv),o,p3,p4.dF (p:=λ_=>True) (λx u _ d=>vk x u d) (ab.all_true _)⟩
  bn:=λb blk cb e hl ec hv=>by
   obtain⟨hb,y,hy,rfl⟩:=uF b blk e hl;obtain⟨yB,q1,q2,q3⟩:=lH b (z_ b hb);have gX:c' b=some cb:=ec;rw[q2]at gX;cases gX;rw[ab.bS]at hl;have:=r.bn b y _ (by rw[q3];exact hy) hl q1 hv;subst this;rfl
  inj:=λb b' blk blk' cb eP e1 e2 l1 l2 c1 c2 v1 v2 iI=>by
   obtain⟨hb,y,hy,rfl⟩:=uF b blk e1 l1;obtain⟨cj,y',hy',rfl⟩:=uF b' blk' e2 l2;obtain⟨yB,q1,q2,q3⟩:=lH b (z_ b hb);obtain⟨aaq,q1',q2',q3'⟩:=lH b' (z_ b' cj);have tf:c' b=some cb:=c1;have rA:c' b'=some eP:=c2;rw[q2]at tf;cases tf;rw[q2']at rA;cases rA;rw[ab.bS]at l1 l2;exact r.inj b b' y y' _ _ (by rw[q3];exact hy) (by rw[q3'];exact hy') l1 l2 q1 q1' v1 v2 iI }
 have DT:dR ⟨g.M,c'⟩ (iu (o8 σ.length) xs) vs:=by
  refine dR.lR (by rw[YA];exact hx.length) (λi y u e1 e2=>?_);obtain⟨x,q1,rfl⟩:=G9 e1;exact vk x u (hx.get i x u q1 e2)
 obtain⟨fn,c,h1,h2,h3,h4,h5⟩:=ok.ok;have d0:=Y5 DT (n:=F.n) (by rw[YA,hn];exact ok.np);refine calls_of_wp h1 h2 ?_;rw[h3];refine wp_mono (h c h4 w ⟨lb,g.M⟩ _ _ w r0 d0) (λe a' w' hl=>?_);have fin:∀ g' ρ σ',(⟨g.M,c'⟩:Gm).Le g'→bx GL w ⟨lb,g.M⟩ g' (hp σ') w'→cX F.n g' ρ a'→(iK F.gP ρ σ'=some v∧σ'=τ')→∃ u,(results fn a'.tmps).run P w'=.ok u w'∧(∃ u',zCV u=.returned u'∧∃ g2,g.Le g2 ∧
   bx GL w0 L g2 (cz hq ((fp ++ zBI σ.length k).map λb=>(b,(ai τ' b).dF (aa.cx (fw ids σ.length k))))) w'∧g2.den (v.cx (fw ids σ.length k)) u'):=by
  rintro g' ρ σ' hle hr hd ⟨oU,rfl⟩;obtain⟨u,k1,k2⟩:=GV hr hd h5 oU
  let keys:=fp++zBI σ.length k
  have uD:∀b,b∈keys↔b∈fp∨(σ.length<=b∧b<σ.length+k):=by
   intro b;simp only[keys,zAF,List.mem_range'_1]
  let cF:Own:=λb=>if b∈keys then g'.c b else g.c b
  have lW:∀b∈keys,b<σ'.length:=by
   intro b hb;rcases (uD b).1 hb with q|q
   ·have:=pF b (z_ b q);omega
   ·omega
  have UR:∀b cb,g.c b=some cb→cF b=some cb:=by
   intro b cb e;simp only[cF];split
   ·rename_i hb;rcases (uD b).1 hb with q|q
    ·obtain⟨yB,q1,q2,q3⟩:=lH b (z_ b q);rw[q1]at e;cases e;exact hle.c b _ q2
    ·have hn:hq b=none:=by
      have:=eo (b,_) (zAh.2 ⟨b,hb,rfl⟩);rw[this];simp[hp];omega
     rw[r.ed b hn]at e;cases e
   ·exact e
  have B6:∀x u,g'.den x u→Den g'.M cF (x.cx (fw ids σ.length k)) u:=by
   intro x u d;refine d.cx (λb b' cb e1 e2=>?_);unfold fw at e1;obtain⟨e0,e1⟩:=QF e1;cases e1;by_cases hb:b∈keys
   ·simp only[cF];rw[aI hb];exact e2
   ·simp only[zBS,AI]at e0;rcases e0 with q|⟨q1,q2⟩
    ·obtain⟨yB,p1,p2,p3⟩:=lH b (zBZ.1 q);have:=hle.c b yB p2;rw[e2]at this;cases this;exact UR b _ p1
    ·have:=iy q1;have:b<σ.length+k:=iy q2;exact(hb ((uD b).2 (.inr (by omega)))).elim
  have hF:∀b,cz hq (keys.map λb=>(b,(ai σ' b).dF (aa.cx (fw ids σ.length k)))) b=if b∈keys then some ((ai σ' b).dF (aa.cx (fw ids σ.length k)))else hq b:=ZcK _ keys hq
  have wZ:∀q∈lb,∃b∈fp,∃cb y,g.c b=some cb∧hq b=some y∧y.live=true∧cb.cR=false∧q=cb.blk:=by
   intro q Pu;simp only[lb,zCG]at Pu;obtain⟨b,hb,e⟩:=Pu;obtain⟨yB,q1,_,q3⟩:=lH b (z_ b hb);rw[q1]at e;cases hs:σ[b]? with
   |none=>rw[hs]at e;cases e
   |some y=>
    rw[hs]at e;obtain⟨e1,e2⟩:=QF e;simp only[AI,zAg]at e1;cases e2;exact⟨b,hb,yB,y,q1,by rw[q3];exact hs,e1.1,e1.2,rfl⟩
  have DF:∀q∈lb,g.M q=none∧(q∈L.l∨w0.heap.size<=q):=by
   intro q Pu;obtain⟨b,hb,cb,y,q1,q2,q3,q4,rfl⟩:=wZ q Pu;obtain⟨p1,p2,_⟩:=r.own b y cb q2 q3 q1 q4;exact⟨p1,p2⟩
  have oS:∀b blk cb,b∉keys→hq b=some blk→blk.live=true→g.c b=some cb→cb.cR=false→cb.blk∉lb:=by
   intro b blk cb hb e hl ec hv dc;obtain⟨b2,mi,cb2,y,q1,q2,q3,q4,q5⟩:=wZ _ dc;have:=r.inj b b2 blk y cb cb2 e q2 hl q3 ec q1 hv q4 q5;subst this;exact hb ((uD b).2 (.inl mi))
  have eN:=r.keeps.size;have u5:∀b,b∈keys→cF b=g'.c b:=λb hb=>by simp only[cF];rw[aI hb]
  have tm:∀b,b∉keys→cF b=g.c b:=λb hb=>by simp only[cF];rw[aB hb]
  have qV:∀ b,b∈keys→hp σ' b=some (ai σ' b):=λb hb=>SC (lW b hb);refine⟨u,k1,u,rfl,⟨g'.M,cF⟩,⟨hle.m,λb cb e=>UR b cb e⟩,?_,B6 v u k2⟩;exact {
   keeps:=r.keeps.trans' hr.keeps.os hr.keeps.tape hr.keeps.output hr.keeps.size (λj hj uC=>hr.keeps.block j (by omega) (λdc=>by
    rcases (DF j dc).2 with q|q
    ·exact uC q
    ·omega))
   aZ:=hr.aZ
   src:=λb o e=>by
    rcases hr.src b o e with q|q|q
    ·exact r.src b o q
    ·exact .inr (.inl (by omega))
    ·rcases (DF b q).2 with q|q
     ·exact .inr (.inr q)
     ·exact .inr (.inl q)
   cr:=λp ia=>(r.cr p ia).mono hle.m (gD.refl _)
   ed:=λb e=>by
    rw[hF]at e;split at e
    ·cases e
    ·rename_i hb;show cF b=none;rw[tm b hb];exact r.ed b e
   jy:=λb blk e=>by
    rw[hF]at e;show ∃cb,cF b=some cb;split at e
    ·rename_i hb;rw[u5 b hb];exact hr.jy b _ (qV b hb)
    ·rename_i hb;rw[tm b hb];exact r.jy b blk e
   own:=λb blk cb e hl ec hv=>by
    rw[hF]at e;have gX:cF b=some cb:=ec;split at e
    ·rename_i hb;cases e;rw[ab.bS]at hl;rw[u5 b hb]at gX;obtain⟨p1,p2,o,p3,p4⟩:=hr.own b _ cb (qV b hb) hl gX hv;refine⟨p1,?_,o,p3,p4.dF (p:=λ_=>True) (λx u _ d=>B6 x u d) (ab.all_true _)⟩;rcases p2 with q|q
     ·exact(DF _ q).2
     ·exact .inr (by omega)
    ·rename_i hb;rw[tm b hb]at gX;obtain⟨p1,p2,o,p3,p4⟩:=r.own b blk cb e hl gX hv;have Ac:=r.d_ e hl gX hv;have Ae:=oS b blk cb hb e hl gX hv;refine⟨?_,p2,o,by rw[hr.keeps.block _ Ac Ae];exact p3,p4.mono hle.m (λb cb e=>UR b cb e)⟩;show g'.M cb.blk=none;cases hm:g'.M cb.blk with
     |none=>rfl
     |some x=>
      rcases hr.src _ _ hm with q|q|q
      ·have q:g.M cb.blk=some x:=q;rw[p1]at q;cases q
      ·omega
      ·exact(Ae q).elim
   bn:=λb blk cb e hl ec hv=>by
    rw[hF]at e;have gX:cF b=some cb:=ec;split at e
    ·rename_i hb;cases e;rw[ab.bS]at hl;rw[u5 b hb]at gX;rw[hr.bn b _ cb (qV b hb) hl gX hv];rfl
    ·rename_i hb;rw[tm b hb]at gX;exact r.bn b blk cb e hl gX hv
   inj:=λb b' blk blk' cb eP e1 e2 l1 l2 c1 c2 v1 v2 iI=>by
    rw[hF]at e1 e2;have tf:cF b=some cb:=c1;have rA:cF b'=some eP:=c2;have BF:∀b b' blk' cb eP,b∈keys→b'∉keys→(ai σ' b).live=true→g'.c b=some cb→cb.cR=false→hq b'=some blk'→blk'.live=true→g.c b'=some eP→eP.cR=false→cb.blk=eP.blk→False:=by
     intro b b' blk' cb eP hb cj hl hc hv e' ml yJ sR he;obtain⟨_,p2,_⟩:=hr.own b _ cb (qV b hb) hl hc hv;have Ac:=r.d_ e' ml yJ sR;have Ae:=oS b' blk' eP cj e' ml yJ sR;rcases p2 with q|q
     ·rw[he]at q;exact Ae q
     ·omega
    split at e1
    ·rename_i hb;cases e1;rw[ab.bS]at l1;rw[u5 b hb]at tf;split at e2
     ·rename_i cj;cases e2;rw[ab.bS]at l2;rw[u5 b' cj]at rA;exact hr.inj b b' _ _ cb eP (qV b hb) (qV b' cj) l1 l2 tf rA v1 v2 iI
     ·rename_i cj;rw[tm b' cj]at rA;exact(BF b b' blk' cb eP hb cj l1 tf v1 e2 l2 rA v2 iI).elim
    ·rename_i hb;rw[tm b hb]at tf;split at e2
     ·rename_i cj;cases e2;rw[ab.bS]at l2;rw[u5 b' cj]at rA;exact(BF b' b blk eP cb cj hb l2 rA v2 e1 l1 tf v1 iI.symm).elim
     ·rename_i cj;rw[tm b' cj]at rA;exact r.inj b b' blk blk' cb eP e1 e2 l1 l2 tf rA v1 v2 iI }
 cases e with
 |normal=>obtain⟨g',ρ,σ,k1,k2,k3,k4⟩:=hl;exact⟨k3.defers,fin g' ρ σ k1 k2 k3 k4.2⟩
 |ret=>obtain⟨g',ρ,σ,k1,k2,k3,k4⟩:=hl;exact⟨k3.defers,fin g' ρ σ k1 k2 k3 k4.2⟩
 |exit id=>obtain⟨g',ρ,σ,k1,k2,k3,k4⟩:=hl;rcases k4.1 with q|q<;>cases q
 |_=>exact hl.elim
end
end Go.Ah
end
section
namespace Go.Ah
def W(P:Program)(GL:aw):aE Prop where
 stop:=False
 call k xs σ K:=∃R,nX P GL k xs σ R∧∀v σ',R v σ'→K v σ'
 eV k xs σ K:=∃v rd up σ',aD P GL k xs (hp σ) v rd up∧gC σ up=some σ'∧K v (rd,up.map (·.1)) σ'
 test v a b:=match v with
  |.bool c=>(c=true→a)∧(c=false→b)
  |_=>False
 loop F vs σ:=∃n,mu False n F vs σ
theorem zx(P:Program)(GL:aw):eS P GL (W P GL) (λp=>p) where
 stop:=λh=>h
 call:=λh=>h
 eV:=λh=>h
 test:=λ{v a b} h=>by
  simp only[W]at h
  grind
 loop:=λh=>h
variable{up:List (Nat×ab)}
variable{k:MK}
variable{σ bs σ':List ab}
variable{v y:aa}
variable{f:FuncId}
variable{xs ys:List aa}
section
variable {P:Program} {GL:aw}
variable{g:gU}
variable{np:Nat}
theorem mM.C3(hP:P.follows .mixedOrders=true){α:Type}{A:aE α}{hold:α→Prop}(ok:eS P GL A hold)(hg:mM P GL f np g)(hn:xs.length=np){ret:aa→List ab→α}(h:hold (g A xs σ ret)) :
  ∃F,mL P GL f F∧F.np=np∧iX P GL F.n F.body (eQ xs) σ (λe ρ σ'=>(e=.normal∨e=.ret)∧∃v,iK F.gP ρ σ'=some v∧hold (ret v σ')):=by
 obtain⟨D,h1,h2,h3,h4⟩:=hg.ex;rw[h4 α A xs σ ret hn]at h;exact⟨D.fn,h2,h1,XcV hP ok h3 h⟩
theorem Xa(hP:P.follows .mixedOrders=true)(hg:mM P GL f np g)(hn:xs.length=np)(hv:v.ro=true)(h:g (W P GL) xs [] (λv' _=>v'=v)):di P GL f xs v:=by
 obtain⟨F,h1,h2,h3⟩:=hg.C3 hP (zx P GL) hn h;refine Xa5 h1 (hn.trans h2.symm) hv (h3.mono λe ρ σ k=>?_);simp_all
theorem ZcZ(hP:P.follows .mixedOrders=true)(hg:mM P GL f np g)(hn:xs.length=np)(h:g (W P GL) xs [] (λv' σ=>v'=v∧σ=bs)):dh P GL f xs v bs:=by
 obtain⟨F,h1,h2,h3⟩:=hg.C3 hP (zx P GL) hn h;refine Za5 h1 (hn.trans h2.symm) (h3.mono λe ρ σ k=>?_)
 grind
def Hn(σ:List ab)(v:aa):Option aa:=match v with
 |.bp vs=>match Xy σ 1000 vs with
  |some (ys,_)=>some (.bp ys)
  |none=>none
 |v=>match Xy σ 1000 [v]with
  |some ([y],_)=>some y
  |_=>none
theorem Xeh(hy:Hn σ v=some y){w0:World}{L:Ln}{g:Gm}{w:World}{M2:Nat→Option Obj}(r:bx GL w0 L g (hp σ) w)(qR:yq g (hp σ) w M2){u:Value}(hd:g.den v u):Den M2 bA y u:=by
 unfold Hn at hy;split at hy
 ·rename_i vs;split at hy
  ·rename_i ys rd hb;cases hy;have mR:=X4 _ _ _ _ hb rd (λ_ q=>q);cases hd with
   |bp _ _ us hs hd=>
    have sN:=mR GL w0 L g (hp σ) w M2 r qR (λ_ _=>rfl) us.toList (dR.lR (by simp[hs]) (λi x v e1 e2=>hd i x v e1 (by simpa using e2)));exact .bp _ _ _ (by have:=sN.length;simpa using this.symm) (λi x v e1 e2=>sN.get i x v e1 (by simpa using e2))
  ·cases hy
 ·split at hy
  ·rename_i y' rd hb;cases hy;have mR:=X4 _ _ _ _ hb rd (λ_ q=>q);exact(mR GL w0 L g (hp σ) w M2 r qR (λ_ _=>rfl) [u] ⟨hd,trivial⟩).1
  ·cases hy
theorem WT(h:dh P GL f xs v bs)(hy:Hn bs v=some y):di P GL f xs y:=by
 intro w M vs hM hg hx;refine(h w M vs hM hg hx).mono ?_;rintro e w' ⟨u,he,g',hle,r,hd⟩
 let M2:Nat→Option Obj:=λb=>if b<w.heap.size then g'.M b else w'.heap[b]?
 have qR:yq g' (hp bs) w' M2:=by
  refine⟨λb o e=>?_,λb blk cb o e1 e2 e3 e4 e5=>?_⟩
  ·show (if b<w.heap.size then g'.M b else w'.heap[b]?)=some o;split
   ·exact e
   ·exact r.aZ b o e
  ·obtain⟨_,dc,_⟩:=r.own b blk cb e1 e2 e3 e4
   grind
 have sN:=Xeh hy r qR hd;refine⟨u,he,r.keeps,M2,λb o e=>qR.1 b o (hle b o e),λb o e=>?_,λb o e=>?_,sN⟩
 ·have e':(if b<w.heap.size then g'.M b else w'.heap[b]?)=some o:=e;split at e'
  ·exact r.aZ b o e'
  ·exact e'
 ·have e':(if b<w.heap.size then g'.M b else w'.heap[b]?)=some o:=e;split at e'
  ·rcases r.src b o e' with q|q|q<;>simp_all
  ·exact .inr (by omega)
theorem SG(hP:P.follows .mixedOrders=true)(hg:mM P GL f np g)(hn:xs.length=np)(h:∃v bs,Hn bs v=some y∧g (W P GL) xs [] (λv' σ=>v'=v∧σ=bs)):di P GL f xs y:=by
 obtain⟨v,bs,h1,h2⟩:=h;exact WT (ZcZ hP hg hn h2) h1
theorem Zce{rd:List Nat}(h:aD P GL k xs (hp σ) v rd up)(hu:gC σ up=some σ'):nX P GL k xs σ (λv' s=>v'=v∧s=σ'):=by
 intro o os hc w0 L g w a r hx;have:=h o os hc w0 L g (hp σ) w a r hx (λ_ _=>rfl) (λ_ _=>rfl);rw[IF _ _ _ hu]at this;generalize (execOp a.eval o).run P w=res at this;cases res with
 |ok nx w'=>
  cases nx with
  |value u=>obtain⟨g',k1,k2,k3⟩:=this;exact⟨g',v,σ',⟨rfl,rfl⟩,k1,k2,k3⟩
  |skip=>obtain⟨g',k1,k2,k3⟩:=this;exact⟨g',σ',⟨k3.symm,rfl⟩,k1,k2⟩
  |enter f args=>
   refine Calls.mono this ?_
   grind
  |_=>exact this.elim
 |_=>exact this.elim
theorem XM(hc:Ys k xs=some (f,ys))(ia:Zh P f=true){rd:List Nat}(h:je P GL f ys (hp σ) v rd up):aD P GL k xs (hp σ) v rd up:=by
 unfold Ys at hc
 grind [QdZ,YdA,Xc1]
variable{K:KT}
theorem Bc(hc:Ys k xs=some (f,ys))(ia:Zh P f=true){rd:List Nat}(h:je P GL f ys (hp σ) v rd up)(hu:gC σ up=some σ')(hK:K v σ'):(W P GL).call k xs σ K:=
 ⟨_,Zce (XM hc ia h) hu,by rintro _ _ ⟨rfl,rfl⟩;exact hK⟩
theorem HU(hc:Ys k xs=some (f,ys))(ia:Zh P f=true){rd:List Nat}(h:je P GL f ys (hp σ) v rd up)(hu:gC σ up=some σ'){K:aa→List Nat×List Nat→List ab→Prop}(hK:K v (rd,up.map (·.1)) σ'):(W P GL).eV k xs σ K:=
 ⟨v,rd,up,σ',XM hc ia h,hu,hK⟩
theorem Xd(hP:P.follows .mixedOrders=true)(hc:Ys k xs=some (f,ys))(hg:mM P GL f np g)(hn:ys.length=np)(h:g (W P GL) ys σ K):(W P GL).call k xs σ K:=by
 obtain⟨F,h1,h2,h3⟩:=hg.C3 hP (zx P GL) hn h;exact⟨K,W_ hc hg.plain h1 (hn.trans h2.symm) h3,λ_ _ q=>q⟩
theorem Qo(h:di P GL f ys v)(hc:Ys k xs=some (f,ys))(ia:Zh P f=true)(ln:gh ys=true)(hK:K v σ):(W P GL).call k xs σ K:=
 Bc hc ia (h.here ln (hp σ)) (Zg σ) hK
theorem Xt(h:di P GL f ys v)(hc:Ys k xs=some (f,ys))(ia:Zh P f=true)(ln:gh ys=true){K:aa→List Nat×List Nat→List ab→Prop}(hK:K v ([],[]) σ):(W P GL).eV k xs σ K:=
 HU hc ia (h.here ln (hp σ)) (Zg σ) hK
theorem ZH{zs:List aa}{rd:List Nat}(h:di P GL f zs v)(hc:Ys k xs=some (f,ys))(ia:Zh P f=true)(hb:Xy σ 1000 ys=some (zs,rd))(hv:v.flat=true)(hK:K v σ):(W P GL).call k xs σ K:=
 Bc hc ia (h.qE (X4 _ _ _ _ hb _ (λ_ q=>q)) hv) (Zg σ) hK
theorem Xg{ι:Type}(I:ι→nA)(μ:ι→Nat){F:(nA)→nA}(i0:ι){vs:List aa}(h0:I i0 vs σ)
 (round:∀i vs σ again,I i vs σ→(∀j M9 σ',μ j<μ i→I j M9 σ'→again M9 σ')→F again vs σ):(W P GL).loop F vs σ:=by
 have key:∀(m:Nat) (i:ι) (vs:List aa) (σ:List ab),μ i<m→I i vs σ→mu False m F vs σ:=by
  intro m
  induction m with
  |zero=>intro i vs σ h;omega
  |succ m ih=>
   intro i vs σ h hI;exact round i vs σ _ hI (λj M9 σ' cc hj=>ih j M9 σ' (by omega) hj)
 exact⟨_,key (μ i0+1) i0 vs σ (by omega) h0⟩
end
section
variable {P:Program} {GL:aw}
theorem A0(c:Bool)(a b:Prop):(W P GL).test (.bool c) a b=((c=true→a)∧(c=false→b)):=rfl
end
section
variable {α:Type} (A:aE α)
theorem vC(v:aa)(rd:List Nat)(K:aa→α):A.rd (.ok v rd []) K=K v:=rfl
theorem L1(v:aa)(K:aa→α):A.pu (.ok v [] []) K=K v:=rfl
theorem SX(v:aa)(rd:List Nat)(up:List (Nat×ab))(σ:List ab)(K:aa→List ab→α):A.wr (.ok v rd up) σ K=A.opt (gC σ up) (K v):=by
 show (match gC σ up with|some σ'=>K v σ'|none=>A.stop)=_;unfold aE.opt;cases gC σ up<;>rfl
theorem Xeu(v:aa)(rd:List Nat)(up:List (Nat×ab))(σ:List ab)(K:aa→List Nat×List Nat→List ab→α):A.dr (.ok v rd up) σ K=A.opt (gC σ up) (K v (rd,up.map (·.1))):=by
 show (match gC σ up with|some σ'=>K v _ σ'|none=>A.stop)=_;unfold aE.opt;cases gC σ up<;>rfl
theorem YcN{β:Type}(v:β)(K:β→α):A.opt (some v) K=K v:=rfl
theorem Qeh(k:α):A.gd true k=k:=rfl
end
theorem Z6{n:Nat}:∀ {a b:List Nat},Yy n (a++b)=true→Yy n a=true∧Yy n b=true
 |[],_,h=>⟨rfl,h⟩
 |x::a,b,h=>by
  simp only[List.cons_append,Yy,AI]at h;obtain⟨h1,h2⟩:=Z6 h.2;exact⟨by simp[Yy,h.1,h1],h2⟩
def MT{α:Type}(stop:α)(v:aa)(a b:α):α:=match v with
 |.bool true=>a
 |.bool false=>b
 |_=>stop
abbrev CG:=FuncId→List aa→List ab→Option (aa×List ab)
def ZcF(cg:CG)(f:FuncId)(ys:List aa)(σ:List ab):Option (aa × List ab):=bif Yy σ.length (jb ys)then (match cg f (iu (o8 σ.length) ys) (XN σ)with
 | some (v,σ')=>(match CU σ.length σ' with
  |some news=>some (v,news)
  | none=>none)
 | none=>none)else none
def Qer:ab→List Nat
 |.box row=>jb row
 |.rows _ rs=>rs.flatMap jb
 |_=>[]
def Iu(σ:List ab):Nat→List Nat→List Nat→List Nat
 |0,_,seen=>seen
 |_+1,[],seen=>seen
 |n+1,b::r,seen=>bif uI b seen then Iu σ n r seen else Iu σ n (Qer (ai σ b)++r) (b::seen)
def Is(cg:CG)(f:FuncId)(ys:List aa)(σ:List ab)(ids:List Nat):aN:=bif Yy σ.length (jb ys) && Yy σ.length ids then (match cg f (iu (o8 σ.length) ys) (my ids σ)with
 |some (v,τ)=>bif zAR σ.length τ.length then .ok (v.cx (fw ids σ.length (τ.length-σ.length))) ids ((ids++zBI σ.length (τ.length-σ.length)).map λb=>(b,(ai τ b).dF (aa.cx (fw ids σ.length (τ.length-σ.length)))))else .stop
 | none=>.stop)else .stop
def Ts(cg:CG)(k:MK)(xs:List aa)(σ:List ab):aN:=match Ys k xs with
 |none=>.stop
 | some (f,ys)=>bif gh ys then (match cg f ys []with
   |some (v,bs)=>bif v.ro then .ok v [] []else .ok (v.cx (QD σ.length)) [] (QB σ.length (Zx σ.length bs))
   | none=>.stop)
  else match ZcF cg f ys σ with
  |some (v,news)=>bif v.ro then .ok (v.cx (fw (jb ys) σ.length 0)) (jb ys) []else .ok (v.cx (fw (jb ys) σ.length news.length)) (jb ys) (QB σ.length (news.map (ab.dF (aa.cx (fw (jb ys) σ.length news.length)))))
  |none=>match Xy σ 1000 ys with
   | some (zs,rd)=>(match cg f zs []with
    |some (v,bs)=>bif v.flat&&v.ro then .ok v rd []else bif v.dz&&yv bs then .ok (v.cx (QD σ.length)) rd (QB σ.length (Zx σ.length bs))else Is cg f ys σ (Iu σ 1000 (jb ys) [])
    | none=>Is cg f ys σ (Iu σ 1000 (jb ys) []))
   |none=>Is cg f ys σ (Iu σ 1000 (jb ys) [])
def Cl(much:Nat)(cg:CG):aE (Option (aa×List ab)) where
 stop:=none
 call k xs σ K:=match Ys k xs with
  |some (f,ys)=>match cg f ys σ with
   |some (v,σ')=>K v σ'
   |none=>none
  |none=>none
 eV k xs σ K:=match Ts cg k xs σ with
  |.ok v rd up=>match gC σ up with
   |some σ'=>K v (rd,up.map (·.1)) σ'
   |none=>none
  |.stop=>none
 test:=MT none
 loop F vs σ:=mu none much F vs σ
section
variable {P:Program} {GL:aw}
def rh(P:Program)(GL:aw)(cg:CG):Prop:=∀f xs σ v σ',cg f xs σ=some (v,σ')→Zh P f=true∧(∀k ys,Ys k ys=some (f,xs)→nX P GL k ys σ (λv' s=>v'=v∧s=σ')) ∧
 (σ=[]→dh P GL f xs v σ'∧(v.ro=true→di P GL f xs v)) ∧
 (gh xs=false→∃F,mL P GL f F∧F.np=xs.length∧iX P GL F.n F.body (eQ xs) σ (λe ρ s=>(e=.normal∨e=.ret)∧∃v',iK F.gP ρ s=some v'∧v'=v∧s=σ'))
variable{cg:CG}
theorem rh.xA(h:rh P GL cg)(hc:cg f xs []=some (v,bs)):dh P GL f xs v bs:=((h f xs [] v bs hc).2.2.1 rfl).1
theorem rh.Cm(h:rh P GL cg)(hc:cg f xs []=some (v,bs))(hv:v.ro=true):di P GL f xs v:=((h f xs [] v bs hc).2.2.1 rfl).2 hv
theorem Ycp{F:vz}(ia:Zh P f=true)(h1:mL P GL f F)(h2:F.np=xs.length)(h3:iX P GL F.n F.body (eQ xs) σ (λe ρ s=>(e=.normal∨e=.ret)∧∃v',iK F.gP ρ s=some v'∧v'=v∧s=σ')) :
  Zh P f=true∧(∀k ys,Ys k ys=some (f,xs)→nX P GL k ys σ (λv' s=>v'=v∧s=σ'))∧(σ=[]→dh P GL f xs v σ'∧(v.ro=true→di P GL f xs v)) ∧
  (gh xs=false→∃F,mL P GL f F∧F.np=xs.length∧iX P GL F.n F.body (eQ xs) σ (λe ρ s=>(e=.normal∨e=.ret)∧∃v',iK F.gP ρ s=some v'∧v'=v∧s=σ')):=by
 refine⟨ia,λk ys hc=>W_ hc ia h1 h2.symm h3,λhσ=>?_,λ_=>⟨F,h1,h2,h3⟩⟩;subst hσ;refine⟨Za5 h1 h2.symm (h3.mono λe ρ s k=>?_),λhv=>Xa5 h1 h2.symm hv (h3.mono λe ρ s k=>?_)⟩
 ·obtain⟨k1,v',k2,rfl,rfl⟩:=k;exact⟨k1,k2,rfl⟩
 ·obtain⟨k1,v',k2,rfl,rfl⟩:=k;exact⟨k1,k2⟩
mutual
theorem aa.lS {n:Nat}:∀ {x:aa},Yy n x.ids=true→(x.cx (o8 n)).ro=true→x.ro=true
 |.ak b j,h,k=>by
  grind [aa.ids,Yy,aa.cx,o8]
 |.ptr b i j,h,k=>by
  grind [aa.ids,Yy,aa.cx,o8]
 |.sl b o l e,h,k=>by
  grind [aa.ids,Yy,aa.cx,o8]
 |.map b,h,k=>by
  grind [aa.ids,Yy,aa.cx,o8]
 |.iter b,h,k=>by
  grind [aa.ids,Yy,aa.cx,o8]
 |.func fn xs ys,h,k=>by
  simp only[aa.ids]at h
  obtain⟨a,b⟩:=Z6 h
  simp only[aa.cx,aa.ro,AI]at k ⊢
  exact⟨XX a k.1,XX b k.2⟩
 |.iface t v,h,k=>aa.lS (x:=v) h k
 |.agg cs,h,k=>XX (xs:=cs) h k
 |.bp cs,h,k=>XX (xs:=cs) h k
 |.when cs x,h,k=>aa.lS (x:=x) h k
 |.aQ,_,_=>rfl
 |.bool _,_,_=>rfl
 |.int _ _,_,_=>rfl
 |.str _,_,_=>rfl
 |.fo,_,_=>rfl
 |.aq _ _,_,_=>rfl
 |.al,_,_=>rfl
 |.cY,_,_=>rfl
 |.aW _ _ _ _,_,_=>rfl
 |.fN _,_,_=>rfl
 |.cW,_,_=>rfl
 |.bK,_,_=>rfl
 |.dw,_,_=>rfl
theorem XX {n:Nat}:∀ {xs:List aa},Yy n (jb xs)=true→gh (iu (o8 n) xs)=true→gh xs=true
 |[],_,_=>rfl
 |x::xs,h,k=>by
  simp only[jb]at h
  obtain⟨a,b⟩:=Z6 h
  simp only[iu,gh,AI]at k ⊢
  exact⟨aa.lS a k.1,XX b k.2⟩
end
theorem ZaU{n:Nat}(h:Yy n (jb xs)=true)(k:gh xs=false):gh (iu (o8 n) xs)=false:=by
 grind [XX]
theorem Td(h:rh P GL cg){ids:List Nat}(hc:Ys k xs=some (f,ys))(ve:gh ys=false){rd:List Nat}(e:Is cg f ys σ ids=.ok v rd up):aD P GL k xs (hp σ) v rd up:=by
 unfold Is at e
 replace e:=Qh e
 obtain⟨hb,e⟩:=e;simp only[AI]at hb;split at e
 ·rename_i v' τ kX
  replace e:=Qh e
  obtain⟨hle,e⟩:=e;obtain⟨K7,_,_,hF⟩:=h f _ _ _ _ kX;obtain⟨F,f1,f2,f3⟩:=hF (ZaU hb.1 ve);cases e;have hn:ys.length=F.np:=by rw[f2,YA]
  have:=iy hle;exact XM hc K7 (Za3 f1 hn σ ids ids (λ_ q=>q) (Oe hb.2) rfl rfl (f3.mono λe ρ s k=>by
   grind) (by omega))
 ·cases e
theorem Ydl(h:rh P GL cg){rd:List Nat}(e:Ts cg k xs σ=.ok v rd up):aD P GL k xs (hp σ) v rd up:=by
 unfold Ts at e;split at e
 ·cases e
 ·rename_i f ys hc;have kh:∀(bs:List ab) (i:Nat),i<bs.length→hp σ (σ.length+i)=none:=λbs i _=>by simp[hp]
  replace e:=QQ e
  rcases e with ⟨ln,e⟩|⟨ve,e⟩
  ·split at e
   ·rename_i v' bs hv
    replace e:=QQ e
    rcases e with ⟨Lq,e⟩|⟨_,e⟩
    ·cases e;exact XM hc (h f ys [] _ _ hv).1 ((h.Cm hv Lq).here ln _)
    ·cases e;exact XM hc (h f ys [] _ _ hv).1 ((h.xA hv).here ln (kh bs))
   ·cases e
  ·split at e
   ·rename_i v' news hd;unfold ZcF at hd;obtain⟨Dj,hd⟩:=QF hd;split at hd
    ·rename_i v2 σ' kX;split at hd
     ·rename_i aam qw;cases hd;obtain⟨K7,_,_,hF⟩:=h f _ _ _ _ kX;obtain⟨F,f1,f2,f3⟩:=hF (ZaU Dj ve);have:=Ya6 _ _ _ qw;subst this;have hw:iX P GL F.n F.body (eQ (iu (o8 σ.length) ys)) (XN σ) (λe ρ s=>(e=.normal∨e=.ret)∧iK F.gP ρ s=some v'∧s=XN σ++news):=f3.mono λe ρ s k=>by
       grind
      have hn:ys.length=F.np:=by rw[f2,YA]
      replace e:=QQ e
      rcases e with ⟨_,e⟩|⟨_,e⟩
      ·cases e;exact XM hc K7 (YaM f1 hn σ (jb ys) (Oe Dj) (bs:=[]) (.inr rfl) hw)
      ·cases e;exact XM hc K7 (YaM f1 hn σ (jb ys) (Oe Dj) (bs:=news) (.inl rfl) hw)
     ·cases hd
    ·cases hd
   split at e
   ·rename_i zs ly hb;split at e
    ·rename_i v' bs hv
     replace e:=QQ e
     rcases e with ⟨Lq,e⟩|⟨_,e⟩
     ·simp only[AI]at Lq;cases e;exact XM hc (h f zs [] _ _ hv).1 ((h.Cm hv Lq.2).qE (X4 _ _ _ _ hb _ (λ_ q=>q)) Lq.1)
     ·replace e:=QQ e
      rcases e with ⟨Vg,e⟩|⟨_,e⟩
      ·simp only[AI]at Vg;cases e;exact XM hc (h f zs [] _ _ hv).1 ((h.xA hv).qE (X4 _ _ _ _ hb _ (λ_ q=>q)) Vg.1 Vg.2 (kh bs))
      ·exact Td h hc ve e
    ·exact Td h hc ve e
   ·exact Td h hc ve e
theorem HQ(h:rh P GL cg)(much:Nat)(r:aa×List ab):eS P GL (Cl much cg) (λo=>o=some r) where
 stop:=λe=>by cases e
 call:=λ{k xs σ K} e=>by
  simp only[Cl]at e;split at e
  ·rename_i f ys hc;split at e
   ·rename_i v σ' hv;obtain⟨_,h1,_⟩:=h f ys σ v σ' hv
    grind
   ·cases e
  ·cases e
 eV:=λ{k xs σ K} e=>by
  grind [Cl,Ydl]
 test:=λ{v a b} e=>by
  simp only[Cl,MT]at e
  grind
 loop:=λ{F vs σ} e=>⟨much,e⟩
def wo(much:Nat)(G:Nat→Option (Nat×gU)):Nat→CG
 |0,_,_,_=>none
 |d+1,f,xs,σ=>match G f with
  |some (np,g)=>bif IT xs.length np then g (Cl much (wo much G d)) xs σ (λv σ=>some (v,σ))else none
  |none=>none
theorem Ydf(hP:P.follows .mixedOrders=true){much:Nat}{G:Nat→Option (Nat×gU)}(hG:∀f np g,G f=some (np,g)→mM P GL f np g):∀d,rh P GL (wo much G d)
 |0=>λf xs σ v σ' h=>by cases h
 |d+1=>λf xs σ v σ' h=>by
  unfold wo at h;split at h
  ·rename_i np g hg;obtain⟨hn,h⟩:=QF h;have jT:=fY hn;obtain⟨F,h1,h2,h3⟩:=(hG f np g hg).C3 hP (HQ (Ydf hP hG d) much (v,σ')) jT h;refine Ycp (hG f np g hg).plain h1 (h2.trans jT.symm) (h3.mono λe ρ s k=>?_);simp_all
  ·cases h
end
theorem ZcD{P:Program}{GL:aw}(hP:P.follows .mixedOrders=true){much:Nat}{G:Nat→Option (Nat×gU)}(hG:∀f np g,G f=some (np,g)→mM P GL f np g)(d:Nat)(h:((wo much G d f xs []).bind λp=>Hn p.2 p.1)=some y):di P GL f xs y:=by
 cases hc:wo much G d f xs []with
 |none=>rw[hc]at h;cases h
 |some p=>
  obtain⟨v,bs⟩:=p;rw[hc]at h;exact WT ((Ydf hP hG d).xA hc) h
end Go.Ah
end
section
namespace Go.Ah
@[reducible] def h0(v:List aa):aa:=qX v
@[reducible] def h1(v:List aa):aa:=qX (jM v)
@[reducible] def h2(v:List aa):aa:=qX (jM (jM v))
@[reducible] def h3(v:List aa):aa:=qX (jM (jM (jM v)))
@[reducible] def h4(v:List aa):aa:=qX (jM (jM (jM (jM v))))
@[reducible] def h5(v:List aa):aa:=qX (jM (jM (jM (jM (jM v)))))
@[reducible] def h6(v:List aa):aa:=qX (jM (jM (jM (jM (jM (jM v))))))
@[reducible] def h7(v:List aa):aa:=qX (jM (jM (jM (jM (jM (jM (jM v)))))))
@[reducible] def h8(v:List aa):aa:=h7 (jM v)
@[reducible] def h9(v:List aa):aa:=h8 (jM v)
@[reducible] def h10(v:List aa):aa:=h9 (jM v)
@[reducible] def h11(v:List aa):aa:=h10 (jM v)
@[reducible] def h12(v:List aa):aa:=h11 (jM v)
def Ay:List aa:=(zAB 256).map λi=>aa.int .u8 (match (zAR 9 i&&zAR i 13)||IT i 32 with|true=>1|false=>0)
def aG:aw:=[(1,Ay)]
end Go.Ah
end
section
namespace Go.Ah
section
variable (σ:List ab)
attribute [simp] A0 vC L1 SX Xeu YcN Qeh qX jM
@[simp] theorem NM(P:Program)(GL:aw):(W P GL).stop=False:=rfl
@[simp] theorem XeL{α:Type}(f:(List aa→List ab→α)→α)(k:List aa→List ab→α):cP f k=f k:=rfl
@[simp] theorem Pd{α:Type}(A:aE α)(b w:Bool)(r:α)(s:List (Bool×Bool)→α):A.gx (.bool b) w r s=A.test (.bool b) (bif w then r else s [(true,w)]) (bif w then s [(false,w)]else r):=rfl
@[simp] theorem aad{α:Type}(A:aE α)(c:aa)(w:Bool)(r:(aa→α)→α)(K:aa→α):A.gr c w r K=A.gx c w (r K) (λcs=>K (tY cs)):=rfl
@[simp] theorem aae{α:Type}(A:aE α)(c:aa)(w:Bool)(r:(aa→List ab→α)→α)(σ:List ab)(K:aa→List ab→α):A.gw c w r σ K=A.gx c w (r K) (λcs=>K (tY cs) σ):=rfl
@[simp] theorem aac{α:Type}(A:aE α)(c:aa)(w:Bool)(r:(aa→List Nat×List Nat→List ab→α)→α)(σ:List ab)(K:aa→List Nat×List Nat→List ab→α):A.gl c w r σ K=A.gx c w (r K) (λcs=>K (tY cs) ([],[]) σ):=rfl
@[simp] theorem Pe{α:Type}(A:aE α)(cs:List (Bool×Bool))(q w:Bool)(r:α)(s:List (Bool×Bool)→α):A.gx (.when cs (.bool q)) w r s=match yw.gn cs with
  |true=>s (cs++[(q,w)])
  |false=>A.stop:=rfl
attribute [simp] yw.gn
@[simp] theorem aar(x:aa):rl [x] σ=.ok x [] []:=rfl
@[simp] theorem Ud(b:Bool)(x y:aa):Yo [.bool b,x,y] σ=.ok (bif b then x else y) [] []:=by cases b<;>rfl
@[simp] theorem Zf(e n:Bool)(s:Nat)(rows:List (List aa)):Yn [.aW e n s rows] σ=.ok (.int .i64 rows.length) [] []:=rfl
@[simp] theorem Qef:Yn [.al] σ=.ok (.int .i64 0) [] []:=rfl
@[simp] theorem Xef:Yn [.cY] σ=.ok (.int .i64 0) [] []:=rfl
@[simp] theorem Zey(b o n:Nat)(e:Bool):Yn [.sl b o n e] σ=.ok (.int .i64 n) [] []:=rfl
@[simp] theorem YeL(s:List UInt8):ZU [.str s] σ=.ok (.int .i64 s.length) [] []:=rfl
@[simp] theorem Ub(n:Nat)(x:aa):OK n [x] σ=.ok (.int .i64 n) [] []:=rfl
@[simp] theorem ZeC(k:IntKind):j7 k k=true:=by cases k<;>rfl
section
variable (ib:Bool) (k:IntKind) (a b:Int)
@[simp] theorem Xj:Zn .add ib [.int k a,.int k b] σ=.ok (.int k (k.wrap (a+b))) [] []:=by simp[Zn,nC]
@[simp] theorem CX:Zn .sub ib [.int k a,.int k b] σ=.ok (.int k (k.wrap (a-b))) [] []:=by simp[Zn,nC]
@[simp] theorem Zt:Zn .eql ib [.int k a,.int k b] σ=.ok (.bool (decide (a=b))) [] []:=by
 simp[Zn,nC];exact zAo.2 (by simp)
@[simp] theorem ZX:Zn .neq ib [.int k a,.int k b] σ=.ok (.bool (decide (a≠b))) [] []:=by
 simp[Zn,nC];exact zAo.2 (by simp)
@[simp] theorem ZM:Zn .lss ib [.int k a,.int k b] σ=.ok (.bool (decide (a<b))) [] []:=by simp[Zn,nC]
@[simp] theorem NJ:Zn .leq ib [.int k a,.int k b] σ=.ok (.bool (decide (a<=b))) [] []:=by simp[Zn,nC]
@[simp] theorem Q7:Zn .gtr ib [.int k a,.int k b] σ=.ok (.bool (decide (b<a))) [] []:=by simp[Zn,nC]
@[simp] theorem qP:Zn .geq ib [.int k a,.int k b] σ=.ok (.bool (decide (b<=a))) [] []:=by simp[Zn,nC]
end
@[simp] theorem uT(ib:Bool)(a b:List UInt8):Zn .eql ib [.str a,.str b] σ=.ok (.bool (a==b)) [] []:=rfl
@[simp] theorem Uc(ib:Bool)(a b:List UInt8):Zn .neq ib [.str a,.str b] σ=.ok (.bool (!(a==b))) [] []:=rfl
@[simp] theorem T9(a b:Bool):Zn .eql true [.bool a,.bool b] σ=.ok (.bool (a==b)) [] []:=rfl
@[simp] theorem Xey(a b:Bool):Zn .neq true [.bool a,.bool b] σ=.ok (.bool (!(a==b))) [] []:=rfl
@[simp] theorem aab(b:Bool):t_ .not [.bool b] σ=.ok (.bool (!b)) [] []:=rfl
@[simp] theorem aaa(k:IntKind)(n:Int):t_ .neg [.int k n] σ=.ok (.int k (k.wrap (0-n))) [] []:=rfl
@[simp] theorem Yd5(k k':IntKind)(n:Int):G0 k [.int k' n] σ=.ok (.int k (k.wrap n)) [] []:=rfl
@[simp] theorem Yey(t:TypeId)(x:aa):XG t [x] σ=.ok (.iface t x) [] []:=rfl
@[simp] theorem XV(k k':IntKind)(a b:Int):IG [.int k a,.int k' b] σ=.ok (.int k (min a b)) [] []:=by
 simp only[IG];congr 2;omega
@[simp] theorem vT(k k':IntKind)(a b:Int):I7 [.int k a,.int k' b] σ=.ok (.int k (max a b)) [] []:=by
 simp only[I7];congr 2;omega
@[simp] theorem O8(b j:Nat):Ql [.ak b j] σ=.ok (.ak b j) [] []:=rfl
@[simp] theorem O_(b i j:Nat):Ql [.ptr b i j] σ=.ok (.ptr b i j) [] []:=rfl
@[simp] theorem O'(row:List aa)(j:Nat):Ql [.aq row j] σ=.ok (.aq row j) [] []:=rfl
@[simp] theorem O9(f:FuncId)(a b:List aa):Ql [.func (.func f) a b] σ=.ok (.func (.func f) a b) [] []:=rfl
@[simp] theorem T_(o b j:Nat):Zc o [.ak b j] σ=.ok (.ak b (j+o)) [] []:=rfl
@[simp] theorem T'(o b i j:Nat):Zc o [.ptr b i j] σ=.ok (.ptr b i (j+o)) [] []:=rfl
@[simp] theorem Ua(o:Nat)(row:List aa)(j:Nat):Zc o [.aq row j] σ=.ok (.aq row (j+o)) [] []:=rfl
@[simp] theorem O7(agg:Bool)(o n:Nat)(cs:List aa):Q9 agg o n [.agg cs] σ=(match aK agg o n cs with
   |some v=>.ok v [] []
   | none=>.stop):=rfl
attribute [simp] aK takeN jk nth
@[simp] theorem Xex(i:Nat)(vs:List aa):Qj i [.bp vs] σ=(match nth vs i with
   |some v=>.ok v [] []
   | none=>.stop):=rfl
@[simp] theorem QeK(len nd b j:Nat)(k:IntKind)(i:Nat):Yk len nd [.ak b j,.int k (@OfNat.ofNat Int i _)] σ=bif zAn i len then .ok (.ak b (j+i*nd)) [] []else .stop:=rfl
@[simp] theorem ZeL(len nd:Nat)(row:List aa)(j:Nat)(k:IntKind)(i:Nat):Yk len nd [.aq row j,.int k (@OfNat.ofNat Int i _)] σ=bif zAn i len then .ok (.aq row (j+i*nd)) [] []else .stop:=rfl
theorem Qex(e n:Bool)(s:Nat)(rows:List (List aa))(k:IntKind)(i:Nat)(row:List aa)(h:rows[i]?=some row):Xi s [.aW e n s rows,.int k (i:Int)] σ=.ok (.aq row 0) [] []:=by
 show (bif IT s s then (match nth rows i with
   |some row=>aN.ok (.aq row 0) [] []
   | none=>.stop)else .stop)=_
 rw[zBf,Y3,h];rfl
theorem Ym{α:Type}(f:α→List aa)(e n:Bool)(s:Nat)(l:List α)(k:IntKind)(i:Nat)(h:i<l.length):Xi s [.aW e n s (l.map f),.int k (i:Int)] σ=.ok (.aq (f l[i]) 0) [] []:=
 Qex σ e n s _ k i _ (by simp[h])
theorem rr(b o len:Nat)(ex:Bool)(s:Nat)(rows:List (List aa))(k:IntKind)(i:Nat)(h:i<len)(hb:ai σ b=.rows s rows):Xi s [.sl b o len ex,.int k (i:Int)] σ=.ok (.ptr b (o+i) 0) [b] []:=by
 show (bif zAn i len then (match ai σ b with
   |.rows s' _=>bif IT s' s then aN.ok (.ptr b (o+i) 0) [b] []else .stop
   | _=>.stop)else .stop)=_
 rw[show zAn i len=true from sh h,hb];simp
theorem Qdn(s:List UInt8)(k:IntKind)(i:Nat)(h:i<s.length):XQ [.str s,.int k (i:Int)] σ=.ok (.int .u8 s[i].toNat) [] []:=by
 show (match nth s i with
   |some c=>aN.ok (.int .u8 c.toNat) [] []
   | none=>.stop)=_
 rw[Y3,List.getElem?_eq_getElem h]
@[simp] theorem IE(agg:Bool)(n:Nat)(row:List aa)(j:Nat):Qe agg n [.aq row j] σ=(match aK agg j n row with
   |some v=>.ok v [] []
   | none=>.stop):=rfl
@[simp] theorem ZcG(agg:Bool)(n b j:Nat):Qe agg n [.ak b j] σ=(match ai σ b with
   |.box row=>match aK agg j n row with
    |some v=>.ok v [b] []
    |none=>.stop
   | _=>.stop):=rfl
attribute [simp] ai gC YC bX cellsOf aa.cell
@[simp] theorem Zef(z:List aa):Zs z [] σ=.ok (.ak σ.length 0) [] [(σ.length,.box z)]:=rfl
@[simp] theorem JW(x:aa):ub [x] σ=(match cellsOf x with
   |some cs=>.ok (.ak σ.length 0) [] [(σ.length,.box cs)]
   | none=>.stop):=rfl
@[simp] theorem Ydo(n b j:Nat)(x:aa):Zj n [.ak b j,x] σ=(match ai σ b with
   |.box row=>match cellsOf x with
    | some cs=>bif IT cs.length n then (match bX j cs row with
     |some row'=>.ok .aQ [] [(b,.box row')]
     | none=>.stop)else .stop
    |none=>.stop
   | _=>.stop):=rfl
end
end Go.Ah
end
section
namespace Go.Ah
structure A_ (σ σ2:List ab) (m:Nat→Option Nat):Prop where
 inj:∀b b' k,m b=some k→m b'=some k→b=b'
 img:∀b k,m b=some k→∃blk,σ[b]?=some blk∧σ2[k]?=some (blk.dF (aa.cx m))
 qR:∀k,k<σ2.length→∃b,m b=some k
variable{σ σ2:List ab}
theorem bx.L7{GL:aw}{w0:World}{L:Ln}{g:Gm}{w:World}{m:Nat→Option Nat}(r:bx GL w0 L g (hp σ) w)(ok:A_ σ σ2 m) :
  ∃c2,(∀x v,g.den x v→Den g.M c2 (x.cx m) v)∧bx GL w0 L ⟨g.M,c2⟩ (hp σ2) w:=by
 classical
 let c2:Own:=λk=>if h:∃b,m b=some k then g.c (zCs h)else none
 have kX:∀b k,m b=some k→c2 k=g.c b:=by
  intro b k e;have h:∃b,m b=some k:=⟨b,e⟩;show (if h:∃b,m b=some k then g.c (zCs h)else none)=_;rw[dif_pos h,ok.inj _ _ _ (Classical.choose_spec h) e]
 have c_:∀x v,g.den x v→Den g.M c2 (x.cx m) v:=λx v d=>Den.cx d λb b' cb e1 e2=>by rw[kX b b' e1];exact e2
 have back:∀k blk,hp σ2 k=some blk→∃b blk0,m b=some k∧hp σ b=some blk0∧blk=blk0.dF (aa.cx m):=by
  intro k blk e;have hk:k<σ2.length:=(gE e).1;obtain⟨b,hb⟩:=ok.qR k hk;obtain⟨blk0,e1,e2⟩:=ok.img b k hb;refine⟨b,blk0,hb,e1,?_⟩;have e':σ2[k]?=some blk:=e;simp_all
 refine⟨c2,c_,?_⟩;exact {
  keeps:=r.keeps
  aZ:=r.aZ
  src:=r.src
  cr:=r.cr
  ed:=λk e=>by
   show (if h:∃b,m b=some k then g.c (zCs h)else none)=none;rw[dif_neg];rintro⟨b,hb⟩;obtain⟨blk0,e1,e2⟩:=ok.img b k hb;have e':σ2[k]?=none:=e;rw[e2]at e';cases e'
  jy:=λk blk e=>by
   obtain⟨b,blk0,h1,h2,_⟩:=back k blk e;obtain⟨cb,u6⟩:=r.jy b blk0 h2
   grind
  own:=λk blk cb e hl ec hv=>by
   obtain⟨b,blk0,h1,h2,rfl⟩:=back k blk e;rw[ab.bS]at hl;have gX:g.c b=some cb:=by rw[←kX b k h1];exact ec
   obtain⟨q1,q2,o,q3,q4⟩:=r.own b blk0 cb h2 hl gX hv;exact⟨q1,q2,o,q3,q4.dF (p:=λ_=>True) (λx v _ d=>c_ x v d) (ab.all_true _)⟩
  bn:=λk blk cb e hl ec hv=>by
   obtain⟨b,blk0,h1,h2,rfl⟩:=back k blk e;rw[ab.bS]at hl;have gX:g.c b=some cb:=by rw[←kX b k h1];exact ec
   have:=r.bn b blk0 cb h2 hl gX hv;subst this;rfl
  inj:=λk k' x x' sL cb2 e1 e2 l1 l2 c1 rA v1 v2 iI=>by
   obtain⟨b,y,h1,h2,rfl⟩:=back k x e1;obtain⟨b',y',uY,Ui,rfl⟩:=back k' x' e2;rw[ab.bS]at l1 l2;have ec1:g.c b=some sL:=by rw[←kX b k h1];exact c1
   have Hm:g.c b'=some cb2:=by rw[←kX b' k' uY];exact rA
   have:=r.inj b b' y y' sL cb2 h2 Ui l1 l2 ec1 Hm v1 v2 iI;simp_all }
def Tidy(σ:List ab)(v:aa)(σ2:List ab)(v2:aa):Prop:=
 ∀(GL:aw) (w0:World) (L:Ln) (g:Gm) (w:World),bx GL w0 L g (hp σ) w→∀u,g.den v u→∃c2,bx GL w0 L ⟨g.M,c2⟩ (hp σ2) w∧Den g.M c2 v2 u
theorem Tidy.refl(σ:List ab)(v:aa):Tidy σ v σ v:=λ_ _ _ g _ r _ d=>⟨g.c,r,d⟩
variable{v:aa}
theorem Tidy.trans{σ3:List ab}{v2 v3:aa}(h:Tidy σ v σ2 v2)(k:Tidy σ2 v2 σ3 v3):Tidy σ v σ3 v3:=by
 intro GL w0 L g w r u d;obtain⟨c2,r2,d2⟩:=h GL w0 L g w r u d;obtain⟨c3,r3,d3⟩:=k GL w0 L ⟨g.M,c2⟩ w r2 u d2;exact⟨c3,r3,d3⟩
theorem Tidy.cx{m:Nat→Option Nat}(ok:A_ σ σ2 m)(v:aa):Tidy σ v σ2 (v.cx m):=by
 intro GL w0 L g w r u d;obtain⟨c2,h1,h2⟩:=r.L7 ok;exact⟨c2,h2,h1 v u d⟩
theorem Tidy.dP{v2:aa}(h:∀(M:Nat→Option Obj) (c:Own) (u:Value),Den M c v u→Den M c v2 u):Tidy σ v σ v2:=λ_ _ _ g _ r u d=>⟨g.c,r,h _ _ _ d⟩
theorem Yei(σ:List ab)(b:ab):eo (hp σ) σ.length b=hp (σ++[b]):=by
 funext n
 simp only[eo,hp]
 grind
theorem Tidy.ghost(sz:Nat)(h:v=.al∨v=.cY):Tidy σ v (σ++[.rows sz []]) (.sl σ.length 0 0 false):=by
 intro GL w0 L g w r u d;have r2:=r.ghost (yx σ) sz;rw[Yei]at r2;have hs:∃a,u=.slice a 0 0:=by
  rcases h with rfl|rfl
  ·cases d;exact⟨_,rfl⟩
  ·cases d;exact⟨_,rfl⟩
 obtain⟨a,rfl⟩:=hs;exact⟨_,r2,.pg _ _ _ _ _ (Xz _ _ _) rfl⟩
theorem Tidy.one{b:Nat}{blk:ab}(hb:σ[b]?=some blk)(m:Nat→Option Nat)(hm:∀n,m n=if n=b then some 0 else none)(v:aa):Tidy σ v [blk.dF (aa.cx m)] (v.cx m):=by
 have key:∀x k,m x=some k→x=b∧k=0:=by
  intro x k e;rw[hm]at e;split at e
  ·cases e;exact⟨by assumption,rfl⟩
  ·cases e
 refine Tidy.cx ⟨λx y k e1 e2=>?_,λx k e=>?_,λk hk=>⟨b,?_⟩⟩ v
 ·rw[(key x k e1).1,(key y k e2).1]
 ·obtain⟨rfl,rfl⟩:=key x k e;exact⟨blk,hb,by simp⟩
 ·simp at hk;subst hk;rw[hm];simp
section
variable {P:Program} {GL:aw}
variable{bs:List ab}
variable{xs:List aa}
variable{f:FuncId}
theorem XbW{F:vz}(ok:mL P GL f F)(hn:xs.length=F.np)
 (h:iX P GL F.n F.body (eQ xs) [] (λe ρ σ=>(e=.normal∨e=.ret)∧∃v',iK F.gP ρ σ=some v'∧Tidy σ v' bs v)):dh P GL f xs v bs:=by
 intro w M vs hM hg hx;have r0:=bx.start (GL:=GL) w M hM hg;have hh:hp []=pb:=by funext b;simp[hp,pb]
 rw[←hh]at r0;refine(S7 ok hn h w ⟨[],M⟩ ⟨M,bA⟩ w vs r0 hx).mono ?_;rintro e w' ⟨u,he,g',x,σ',hR,hle,r,d⟩;obtain⟨c2,r2,d2⟩:=hR GL w ⟨[],M⟩ g' w' r u d;exact⟨u,he,⟨g'.M,c2⟩,hle.m,r2,d2⟩
theorem Xw(hP:P.follows .mixedOrders=true){np:Nat}{g:gU}(hg:mM P GL f np g)(hn:xs.length=np)(h:g (W P GL) xs [] (λv' σ=>Tidy σ v' bs v)):dh P GL f xs v bs:=by
 obtain⟨F,h1,h2,h3⟩:=hg.C3 hP (zx P GL) hn h;exact XbW h1 (hn.trans h2.symm) h3
theorem HT:∀(bs σ:List ab),gC σ (QB σ.length bs)=some (σ++bs)
 |[],σ=>by simp[QB,gC]
 |b::bs,σ=>by
  have:=HT bs (σ++[b]);simp_all [QB]
def Q8(n:Nat):List ab→List Nat
 |[]=>[]
 |_::bs=>n::Q8 (n+1) bs
theorem Rv:∀(bs:List ab) (n:Nat),(QB n bs).map (·.1)=Q8 n bs
 |[],_=>rfl
 |b::bs,n=>by simp[QB,Q8,Rv bs (n+1)]
theorem HR{k:MK}{ys:List aa}(h:dh P GL f ys v bs)(hc:Ys k xs=some (f,ys))(ia:Zh P f=true)(ln:gh ys=true){K:KT}(hK:K (v.cx (QD σ.length)) (σ++Zx σ.length bs)):(W P GL).call k xs σ K:=
 Bc hc ia (h.here ln (λi _=>by simp[hp])) (HT _ σ) hK
theorem OB{k:MK}{ys:List aa}(h:dh P GL f ys v bs)(hc:Ys k xs=some (f,ys))(ia:Zh P f=true)(ln:gh ys=true){K:aa→List Nat×List Nat→List ab→Prop}(hK:K (v.cx (QD σ.length)) ([],Q8 σ.length (Zx σ.length bs)) (σ++Zx σ.length bs)):(W P GL).eV k xs σ K:=
 HU hc ia (h.here ln (λi _=>by simp[hp])) (HT _ σ) (by rw[Rv];exact hK)
end
attribute [simp] aa.cx iu QD Zx ab.dF Q8 aa.ro gh aa.flat mf
end Go.Ah
end
section
namespace Go.Ah
theorem Ye(σ:List ab)(x:ab):gC σ [(σ.length,x)]=some (σ++[x]):=by simp[gC]
variable{σ:List ab}
variable{b:Nat}
theorem Xv{x:ab}(h:ai σ b=x)(hx:x≠.dead):σ[b]?=some x:=X8 h hx
theorem Yc(σ:List ab)(x:ab):ai (σ++[x]) σ.length=x:=Yq (by simp)
variable{y:ab}
theorem Qb(x:List ab)(h:ai σ b=y)(hy:y≠.dead:=by simp):ai (σ++x) b=y:=by
 have:=Xv h hy
 grind [Yq]
theorem Zb(h:ai σ b=y)(hy:y≠.dead:=by simp):b<σ.length:=(gE (Xv h hy)).1
theorem Z1{α:Type}{x:α}:∀ {σ:List α},b<σ.length→YC b x σ=some (σ.set b x):=by
 intro σ h
 induction σ generalizing b with
 |nil=>simp at h
 |cons y σ ih=>cases b<;>simp_all
theorem QC(x y:ab)(h:b<σ.length):gC σ ([(b,x)]++[(σ.length,y)])=some (σ.set b x++[y]):=by
 have hb:IT b σ.length=false:=by
  grind [fY]
 simp[gC,hb,Z1 h]
theorem Ze(x:ab)(h:b<σ.length):gC σ [(b,x)]=some (σ.set b x):=by
 grind [gC,fY,Z1]
theorem Yb{c:Nat}{x:ab}(h:ai σ b=y)(hy:y≠.dead)(hc:c≠b):ai (σ.set c x) b=y:=by
 simp_all [Xv,Yq]
section
variable {α:Type} (A:aE α)
theorem GG(n:Nat)(σ:List ab)(x:aa)(z:List aa)(cs:List aa)(hx:fill z [(0,n)] [x]=some cs)(hc:chunk n 1 cs=some [cs])(K:aa→List ab→α) :
  A.wr (Xq n 1 z [(0,n)] [x] σ) σ K=K (.sl σ.length 0 1 true) (σ++[.rows n [cs]]):=by
 simp_all [Xq]
theorem ZT{row:List aa}(h:row.all aa.cell=true):aV [row]=true:=by simp[aV,h]
theorem Zdk(row:List aa):cut 0 (0+1) [row]=[row]:=rfl
theorem RD(n by_:Nat)(σ:List ab)(row:List aa)(hr:row.all aa.cell=true)(bH:194*by_<=2 ^ 48)(K:aa→List ab→α) :
  A.wr (Qf n by_ [.al,.sl σ.length 0 1 true] (σ++[.rows n [row]])) (σ++[.rows n [row]]) K=K (.sl (σ.length+1) 0 1 false) (σ++[.rows n [row]]++[.rows n [row]]):=by
 have h1:Zk n (σ++[.rows n [row]]) (.sl σ.length 0 1 true)=some ([row],[σ.length]):=by
  simp[Zk,Yc,Zdk];rfl
 have e:Qf n by_ [.al,.sl σ.length 0 1 true] (σ++[.rows n [row]])=.ok (.sl (σ.length+1) 0 1 false) [σ.length] [(σ.length+1,.rows n [row])]:=by
  show YB n by_ (σ++[.rows n [row]]) [] [] (.sl σ.length 0 1 true)=_;simp_all [YB,ZT,sh]
 simp_all
theorem HX(n by_:Nat)(σ:List ab)(b len:Nat)(ex:Bool)(rs:List (List aa))(row:List aa)(hb:ai σ b=.rows n rs)(hl:rs.length=len)(hr:row.all aa.cell=true)(bH:(2*(len+1)+192)*by_<=2 ^ 48)(K:aa→List ab→α) :
  A.wr (Qf n by_ [.sl b 0 len ex,.sl σ.length 0 1 true] (σ++[.rows n [row]])) (σ++[.rows n [row]]) K=K (.sl (σ.length+1) 0 (len+1) false) (σ.set b .dead++[.rows n [row]]++[.rows n (rs++[row])]):=by
 have cc:=Zb hb (by simp);have h1:Zk n (σ++[.rows n [row]]) (.sl σ.length 0 1 true)=some ([row],[σ.length]):=by
  simp[Zk,Yc,Zdk];rfl
 have h2:zAR ((2*(len+1)+192)*by_) (2 ^ 48)=true:=sh bH;have mi:=Qb [.rows n [row]] hb (by simp);have e:Qf n by_ [.sl b 0 len ex,.sl σ.length 0 1 true] (σ++[.rows n [row]])=.ok (.sl (σ.length+1) 0 (len+1) false) [σ.length] ([(b,.dead)]++[(σ.length+1,.rows n (rs++[row]))]):=by
  have:Qf n by_ [.sl b 0 len ex,.sl σ.length 0 1 true] (σ++[.rows n [row]])=YB n by_ (σ++[.rows n [row]]) rs [(b,.dead)] (.sl σ.length 0 1 true):=by
   simp[Qf,yA,mi,hl]
  rw[this];unfold YB;simp only[h1,ZT hr,zBa,h2,Bool.and_self,cond_true,hl,By]
 grind [SX,QC,By,zBa,YcN]
end
end Go.Ah
end
section
namespace Go.Ah
variable{v:aa}
variable{σ:List ab}
section
variable {P:Program} {GL:aw}
variable{r:aN}
variable{K:aa→Prop}
theorem Za{rd:List Nat}(h:r=.ok v rd [])(hK:K v):(W P GL).rd r K:=by rw[h];exact hK
theorem Zi(h:r=.ok v [] [])(hK:K v):(W P GL).pu r K:=by rw[h];exact hK
theorem Yd{σ':List ab}{K:KT}{rd:List Nat}{up:List (Nat×ab)}(h:r=.ok v rd up)(hu:gC σ up=some σ')(hK:K v σ'):(W P GL).wr r σ K:=by rw[h,SX,hu];exact hK
theorem Xf{σ':List ab}{K:aa→List Nat×List Nat→List ab→Prop}{rd:List Nat}{up:List (Nat×ab)}(h:r=.ok v rd up)(hu:gC σ up=some σ')(hK:K v (rd,up.map (·.1)) σ'):(W P GL).dr r σ K:=by rw[h,Xeu,hu];exact hK
variable{a b:Prop}
variable{c w:Bool}
theorem Ya(ht:c=true→a)(hf:c=false→b):(W P GL).test (.bool c) a b:=⟨ht,hf⟩
theorem Xh(h:a):(W P GL).test (.bool true) a b:=⟨λ_=>h,(λe=>by cases e)⟩
theorem Xe(h:b):(W P GL).test (.bool false) a b:=⟨(λe=>by cases e),λ_=>h⟩
theorem Qv{b:Bool}{k:Prop}(h:b=true)(hK:k):(W P GL).gd b k:=by rw[h];exact hK
theorem Zp{β:Type}{o:Option β}{K:β→Prop}{v:β}(h:o=some v)(hK:K v):(W P GL).opt o K:=by rw[h];exact hK
theorem Qa{r:(aa→Prop)→Prop}(h:r K):(W P GL).gr (.bool w) w r K:=by
 cases w
 ·exact⟨(λe=>by cases e),λ_=>h⟩
 ·exact⟨λ_=>h,(λe=>by cases e)⟩
theorem Qp{r:(KT)→Prop}{K:KT}(h:r K):(W P GL).gw (.bool w) w r σ K:=by
 cases w
 ·exact⟨(λe=>by cases e),λ_=>h⟩
 ·exact⟨λ_=>h,(λe=>by cases e)⟩
theorem ZcR{r:(aa→List Nat×List Nat→List ab→Prop)→Prop}{K:aa→List Nat×List Nat→List ab→Prop}(h:r K):(W P GL).gl (.bool w) w r σ K:=by
 cases w
 ·exact⟨(λe=>by cases e),λ_=>h⟩
 ·exact⟨λ_=>h,(λe=>by cases e)⟩
theorem Qc{r:(aa→Prop)→Prop}(hc:c = !w)(h:K (tY [(c,w)])):(W P GL).gr (.bool c) w r K:=by
 subst hc;cases w
 ·exact⟨λ_=>h,(λe=>by cases e)⟩
 ·exact⟨(λe=>by cases e),λ_=>h⟩
theorem Qx{r:(KT)→Prop}{K:KT}(hc:c = !w)(h:K (tY [(c,w)]) σ):(W P GL).gw (.bool c) w r σ K:=by
 subst hc;cases w
 ·exact⟨λ_=>h,(λe=>by cases e)⟩
 ·exact⟨(λe=>by cases e),λ_=>h⟩
theorem Xd1{r:(aa→List Nat×List Nat→List ab→Prop)→Prop}{K:aa→List Nat×List Nat→List ab→Prop}(hc:c = !w)(h:K (tY [(c,w)]) ([],[]) σ):(W P GL).gl (.bool c) w r σ K:=by
 subst hc;cases w
 ·exact⟨λ_=>h,(λe=>by cases e)⟩
 ·exact⟨(λe=>by cases e),λ_=>h⟩
theorem QU{cs:List (Bool×Bool)}{q:Bool}{r:(aa→Prop)→Prop}(hc:yw.gn cs=true)(h:K (tY (cs++[(q,w)]))):(W P GL).gr (.when cs (.bool q)) w r K:=by
 show (match yw.gn cs with
  |true=>K (tY (cs++[(q,w)]))
  | false=>(W P GL).stop)
 rw[hc];exact h
theorem ZY{cs:List (Bool×Bool)}{q:Bool}{r:(KT)→Prop}{K:KT}(hc:yw.gn cs=true)(h:K (tY (cs++[(q,w)])) σ):(W P GL).gw (.when cs (.bool q)) w r σ K:=by
 show (match yw.gn cs with
  |true=>K (tY (cs++[(q,w)])) σ
  | false=>(W P GL).stop)
 rw[hc];exact h
theorem YL(n:Nat){F:(nA)→nA}{vs:List aa}(h:mu False n F vs σ):(W P GL).loop F vs σ:=⟨n,h⟩
theorem Yl{n:Nat}{F:(nA)→nA}{vs:List aa}(h:F (mu False n F) vs σ):mu False (n+1) F vs σ:=h
end
def pos:List Nat→Nat→Option Nat
 |[],_=>none
 |x::l,n=>match IT x n with
  |true=>some 0
  |false=>match pos l n with
   |some k=>some (k+1)
   |none=>none
theorem NB:∀ {l:List Nat} {n k:Nat},pos l n=some k→l[k]?=some n
 |[],_,_,h=>by cases h
 |x::l,n,k,h=>by
  unfold pos at h;split at h
  ·rename_i hb;cases h;simp[fY hb]
  ·split at h
   ·rename_i k' hk;cases h;simpa using NB hk
   ·cases h
theorem Xdx:∀ {l:List Nat} {k:Nat},l.Nodup→(h:k<l.length)→pos l l[k]=some k
 |[],_,_,h=>by simp at h
 |x::l,0,_,_=>by simp[pos]
 |x::l,k+1,hn,h=>by
  have jT:=List.nodup_cons.1 hn;have cU:IT x (l[k]'(by simpa using h))=false:=by
   cases e:IT x (l[k]'(by simpa using h))with
   |false=>rfl
   |true=>exact(jT.1 (by rw[fY e];exact List.getElem_mem _)).elim
  simp only[List.getElem_cons_succ,pos,cU,Xdx jT.2 (by simpa using h)]
def J4(ids:List Nat)(σ:List ab):List ab:=ids.map λb=>(ai σ b).dF (aa.cx (pos ids))
theorem Tidy.gc(ids:List Nat)(hn:ids.Nodup)(dc:∀b∈ids,b<σ.length){σ2:List ab}{v2:aa}(h1:J4 ids σ=σ2)(h2:v.cx (pos ids)=v2):Tidy σ v σ2 v2:=by
 subst h1;subst h2;refine Tidy.cx ⟨λx y k e1 e2=>?_,λx k e=>?_,λk hk=>?_⟩ v
 ·have q1:=NB e1;have q2:=NB e2;rw[q1]at q2;exact zBy q2
 ·have q:=NB e;have hx:x∈ids:=zAI q;exact⟨_,SC (dc x hx),by simp[J4,q]⟩
 ·simp only[J4,zAM]at hk;exact⟨_,Xdx hn hk⟩
end Go.Ah
end
section
namespace Go.Ah
section
variable {P:Program} {GL:aw}
variable{K:aa→Prop}
variable{q1 q2 q3 q4 q5 q6 q7:List Nat}
variable{σ:List ab}
variable{r1:aN}
variable{c d:Bool}
theorem YeG(h1:c=true→r1=.ok (.bool d) q1 [])(hK:K (.bool (c&&d))) :
  (W P GL).gr (.bool c) true (λk=>(W P GL).rd r1 k) λt1=>(W P GL).rd (Yo [.bool c,t1,.bool false] σ) K:=by
 cases c with
 |true=>exact Qa (Za (h1 rfl) (Za rfl hK))
 |false=>exact Qc rfl (Za rfl hK)
variable{r5:aa→aa→aa→aa→aN}
variable{r4:aa→aa→aa→aN}
variable{r3:aa→aa→aN}
variable{r2:aa→aN}
variable{v1 v2 v3 v4 v5 v6:aa}
theorem IV(h1:c=true→r1=.ok v1 q1 [])(h2:c=true→r2 v1=.ok v2 q2 [])(h3:c=true→r3 v1 v2=.ok v3 q3 [])(h4:c=true→r4 v1 v2 v3=.ok v4 q4 [])(h5:c=true→r5 v1 v2 v3 v4=.ok (.bool d) q5 [])(hK:K (.bool (c&&d))) :
  (W P GL).gr (.bool c) true (λk=>(W P GL).rd r1 k) λt1=>(W P GL).gr (.bool c) true (λk=>(W P GL).rd (r2 t1) k) λt2=>(W P GL).gr (.bool c) true (λk=>(W P GL).rd (r3 t1 t2) k) λt3=>(W P GL).gr (.bool c) true (λk=>(W P GL).rd (r4 t1 t2 t3) k) λt4=>(W P GL).gr (.bool c) true (λk=>(W P GL).rd (r5 t1 t2 t3 t4) k) λt5=>(W P GL).rd (Yo [.bool c,t5,.bool false] σ) K:=by
 cases c with
 |true=>exact Qa (Za (h1 rfl) (Qa (Za (h2 rfl) (Qa (Za (h3 rfl) (Qa (Za (h4 rfl) (Qa (Za (h5 rfl) (Za rfl hK))))))))))
 |false=>exact Qc rfl (Qc rfl (Qc rfl (Qc rfl (Qc rfl (Za rfl hK)))))
variable{r6:aa→aa→aa→aa→aa→aN}
theorem XeG(h1:c=true→r1=.ok v1 q1 [])(h2:c=true→r2 v1=.ok v2 q2 [])(h3:c=true→r3 v1 v2=.ok v3 q3 [])(h4:c=true→r4 v1 v2 v3=.ok v4 q4 [])(h5:c=true→r5 v1 v2 v3 v4=.ok v5 q5 [])(h6:c=true→r6 v1 v2 v3 v4 v5=.ok (.bool d) q6 [])(hK:K (.bool (c&&d))) :
  (W P GL).gr (.bool c) true (λk=>(W P GL).rd r1 k) λt1=>(W P GL).gr (.bool c) true (λk=>(W P GL).rd (r2 t1) k) λt2=>(W P GL).gr (.bool c) true (λk=>(W P GL).rd (r3 t1 t2) k) λt3=>(W P GL).gr (.bool c) true (λk=>(W P GL).rd (r4 t1 t2 t3) k) λt4=>(W P GL).gr (.bool c) true (λk=>(W P GL).rd (r5 t1 t2 t3 t4) k) λt5=>(W P GL).gr (.bool c) true (λk=>(W P GL).rd (r6 t1 t2 t3 t4 t5) k) λt6=>(W P GL).rd (Yo [.bool c,t6,.bool false] σ) K:=by
 cases c with
 |true=>exact Qa (Za (h1 rfl) (Qa (Za (h2 rfl) (Qa (Za (h3 rfl) (Qa (Za (h4 rfl) (Qa (Za (h5 rfl) (Qa (Za (h6 rfl) (Za rfl hK))))))))))))
 |false=>exact Qc rfl (Qc rfl (Qc rfl (Qc rfl (Qc rfl (Qc rfl (Za rfl hK))))))
theorem X1(h1:c=false→r1=.ok v1 q1 [])(h2:c=false→r2 v1=.ok (.bool d) q2 [])(hK:K (.bool (c||d))) :
  (W P GL).gr (.bool c) false (λk=>(W P GL).rd r1 k) λt1=>(W P GL).gr (.bool c) false (λk=>(W P GL).rd (r2 t1) k) λt2=>(W P GL).rd (Yo [.bool c,.bool true,t2] σ) K:=by
 cases c with
 |false=>exact Qa (Za (h1 rfl) (Qa (Za (h2 rfl) (Za rfl hK))))
 |true=>exact Qc rfl (Qc rfl (Za rfl hK))
theorem vS(h1:c=false→r1=.ok v1 q1 [])(h2:c=false→r2 v1=.ok v2 q2 [])(h3:c=false→r3 v1 v2=.ok (.bool d) q3 [])(hK:K (.bool (c||d))) :
  (W P GL).gr (.bool c) false (λk=>(W P GL).rd r1 k) λt1=>(W P GL).gr (.bool c) false (λk=>(W P GL).rd (r2 t1) k) λt2=>(W P GL).gr (.bool c) false (λk=>(W P GL).rd (r3 t1 t2) k) λt3=>(W P GL).rd (Yo [.bool c,.bool true,t3] σ) K:=by
 cases c with
 |false=>exact Qa (Za (h1 rfl) (Qa (Za (h2 rfl) (Qa (Za (h3 rfl) (Za rfl hK))))))
 |true=>exact Qc rfl (Qc rfl (Qc rfl (Za rfl hK)))
theorem Iy(h1:c=false→r1=.ok v1 q1 [])(h2:c=false→r2 v1=.ok v2 q2 [])(h3:c=false→r3 v1 v2=.ok v3 q3 [])(h4:c=false→r4 v1 v2 v3=.ok v4 q4 [])(h5:c=false→r5 v1 v2 v3 v4=.ok (.bool d) q5 [])(hK:K (.bool (c||d))) :
  (W P GL).gr (.bool c) false (λk=>(W P GL).rd r1 k) λt1=>(W P GL).gr (.bool c) false (λk=>(W P GL).rd (r2 t1) k) λt2=>(W P GL).gr (.bool c) false (λk=>(W P GL).rd (r3 t1 t2) k) λt3=>(W P GL).gr (.bool c) false (λk=>(W P GL).rd (r4 t1 t2 t3) k) λt4=>(W P GL).gr (.bool c) false (λk=>(W P GL).rd (r5 t1 t2 t3 t4) k) λt5=>(W P GL).rd (Yo [.bool c,.bool true,t5] σ) K:=by
 cases c with
 |false=>exact Qa (Za (h1 rfl) (Qa (Za (h2 rfl) (Qa (Za (h3 rfl) (Qa (Za (h4 rfl) (Qa (Za (h5 rfl) (Za rfl hK))))))))))
 |true=>exact Qc rfl (Qc rfl (Qc rfl (Qc rfl (Qc rfl (Za rfl hK)))))
theorem To(h1:c=false→r1=.ok v1 q1 [])(h2:c=false→r2 v1=.ok v2 q2 [])(h3:c=false→r3 v1 v2=.ok v3 q3 [])(h4:c=false→r4 v1 v2 v3=.ok v4 q4 [])(h5:c=false→r5 v1 v2 v3 v4=.ok v5 q5 [])(h6:c=false→r6 v1 v2 v3 v4 v5=.ok (.bool d) q6 [])(hK:K (.bool (c||d))) :
  (W P GL).gr (.bool c) false (λk=>(W P GL).rd r1 k) λt1=>(W P GL).gr (.bool c) false (λk=>(W P GL).rd (r2 t1) k) λt2=>(W P GL).gr (.bool c) false (λk=>(W P GL).rd (r3 t1 t2) k) λt3=>(W P GL).gr (.bool c) false (λk=>(W P GL).rd (r4 t1 t2 t3) k) λt4=>(W P GL).gr (.bool c) false (λk=>(W P GL).rd (r5 t1 t2 t3 t4) k) λt5=>(W P GL).gr (.bool c) false (λk=>(W P GL).rd (r6 t1 t2 t3 t4 t5) k) λt6=>(W P GL).rd (Yo [.bool c,.bool true,t6] σ) K:=by
 cases c with
 |false=>exact Qa (Za (h1 rfl) (Qa (Za (h2 rfl) (Qa (Za (h3 rfl) (Qa (Za (h4 rfl) (Qa (Za (h5 rfl) (Qa (Za (h6 rfl) (Za rfl hK))))))))))))
 |true=>exact Qc rfl (Qc rfl (Qc rfl (Qc rfl (Qc rfl (Qc rfl (Za rfl hK))))))
variable{r7:aa→aa→aa→aa→aa→aa→aN}
theorem CR(h1:c=false→r1=.ok v1 q1 [])(h2:c=false→r2 v1=.ok v2 q2 [])(h3:c=false→r3 v1 v2=.ok v3 q3 [])(h4:c=false→r4 v1 v2 v3=.ok v4 q4 [])(h5:c=false→r5 v1 v2 v3 v4=.ok v5 q5 [])(h6:c=false→r6 v1 v2 v3 v4 v5=.ok v6 q6 [])(h7:c=false→r7 v1 v2 v3 v4 v5 v6=.ok (.bool d) q7 [])(hK:K (.bool (c||d))) :
  (W P GL).gr (.bool c) false (λk=>(W P GL).rd r1 k) λt1=>(W P GL).gr (.bool c) false (λk=>(W P GL).rd (r2 t1) k) λt2=>(W P GL).gr (.bool c) false (λk=>(W P GL).rd (r3 t1 t2) k) λt3=>(W P GL).gr (.bool c) false (λk=>(W P GL).rd (r4 t1 t2 t3) k) λt4=>(W P GL).gr (.bool c) false (λk=>(W P GL).rd (r5 t1 t2 t3 t4) k) λt5=>(W P GL).gr (.bool c) false (λk=>(W P GL).rd (r6 t1 t2 t3 t4 t5) k) λt6=>(W P GL).gr (.bool c) false (λk=>(W P GL).rd (r7 t1 t2 t3 t4 t5 t6) k) λt7=>(W P GL).rd (Yo [.bool c,.bool true,t7] σ) K:=by
 cases c with
 |false=>exact Qa (Za (h1 rfl) (Qa (Za (h2 rfl) (Qa (Za (h3 rfl) (Qa (Za (h4 rfl) (Qa (Za (h5 rfl) (Qa (Za (h6 rfl) (Qa (Za (h7 rfl) (Za rfl hK))))))))))))))
 |true=>exact Qc rfl (Qc rfl (Qc rfl (Qc rfl (Qc rfl (Qc rfl (Qc rfl (Za rfl hK)))))))
theorem QeG{r8:aa→aa→aa→aa→aa→aa→aa→aN}{v7:aa}{q8:List Nat}(h1:c=false→r1=.ok v1 q1 [])(h2:c=false→r2 v1=.ok v2 q2 [])(h3:c=false→r3 v1 v2=.ok v3 q3 [])(h4:c=false→r4 v1 v2 v3=.ok v4 q4 [])(h5:c=false→r5 v1 v2 v3 v4=.ok v5 q5 [])(h6:c=false→r6 v1 v2 v3 v4 v5=.ok v6 q6 [])(h7:c=false→r7 v1 v2 v3 v4 v5 v6=.ok v7 q7 [])(h8:c=false→r8 v1 v2 v3 v4 v5 v6 v7=.ok (.bool d) q8 [])(hK:K (.bool (c||d))) :
  (W P GL).gr (.bool c) false (λk=>(W P GL).rd r1 k) λt1=>(W P GL).gr (.bool c) false (λk=>(W P GL).rd (r2 t1) k) λt2=>(W P GL).gr (.bool c) false (λk=>(W P GL).rd (r3 t1 t2) k) λt3=>(W P GL).gr (.bool c) false (λk=>(W P GL).rd (r4 t1 t2 t3) k) λt4=>(W P GL).gr (.bool c) false (λk=>(W P GL).rd (r5 t1 t2 t3 t4) k) λt5=>(W P GL).gr (.bool c) false (λk=>(W P GL).rd (r6 t1 t2 t3 t4 t5) k) λt6=>(W P GL).gr (.bool c) false (λk=>(W P GL).rd (r7 t1 t2 t3 t4 t5 t6) k) λt7=>(W P GL).gr (.bool c) false (λk=>(W P GL).rd (r8 t1 t2 t3 t4 t5 t6 t7) k) λt8=>(W P GL).rd (Yo [.bool c,.bool true,t8] σ) K:=by
 cases c with
 |false=>exact Qa (Za (h1 rfl) (Qa (Za (h2 rfl) (Qa (Za (h3 rfl) (Qa (Za (h4 rfl) (Qa (Za (h5 rfl) (Qa (Za (h6 rfl) (Qa (Za (h7 rfl) (Qa (Za (h8 rfl) (Za rfl hK))))))))))))))))
 |true=>exact Qc rfl (Qc rfl (Qc rfl (Qc rfl (Qc rfl (Qc rfl (Qc rfl (Qc rfl (Za rfl hK))))))))
theorem Qen{r8:aa→aa→aa→aa→aa→aa→aa→aN}{r9:aa→aa→aa→aa→aa→aa→aa→aa→aN}{r10:aa→aa→aa→aa→aa→aa→aa→aa→aa→aN}{v7 v8 v9:aa}{q8 q9 q10:List Nat}(h1:c=false→r1=.ok v1 q1 [])(h2:c=false→r2 v1=.ok v2 q2 [])(h3:c=false→r3 v1 v2=.ok v3 q3 [])(h4:c=false→r4 v1 v2 v3=.ok v4 q4 [])(h5:c=false→r5 v1 v2 v3 v4=.ok v5 q5 [])(h6:c=false→r6 v1 v2 v3 v4 v5=.ok v6 q6 [])(h7:c=false→r7 v1 v2 v3 v4 v5 v6=.ok v7 q7 [])(h8:c=false→r8 v1 v2 v3 v4 v5 v6 v7=.ok v8 q8 [])(h9:c=false→r9 v1 v2 v3 v4 v5 v6 v7 v8=.ok v9 q9 [])(h10:c=false→r10 v1 v2 v3 v4 v5 v6 v7 v8 v9=.ok (.bool d) q10 [])(hK:K (.bool (c||d))) :
  (W P GL).gr (.bool c) false (λk=>(W P GL).rd r1 k) λt1=>(W P GL).gr (.bool c) false (λk=>(W P GL).rd (r2 t1) k) λt2=>(W P GL).gr (.bool c) false (λk=>(W P GL).rd (r3 t1 t2) k) λt3=>(W P GL).gr (.bool c) false (λk=>(W P GL).rd (r4 t1 t2 t3) k) λt4=>(W P GL).gr (.bool c) false (λk=>(W P GL).rd (r5 t1 t2 t3 t4) k) λt5=>(W P GL).gr (.bool c) false (λk=>(W P GL).rd (r6 t1 t2 t3 t4 t5) k) λt6=>(W P GL).gr (.bool c) false (λk=>(W P GL).rd (r7 t1 t2 t3 t4 t5 t6) k) λt7=>(W P GL).gr (.bool c) false (λk=>(W P GL).rd (r8 t1 t2 t3 t4 t5 t6 t7) k) λt8=>(W P GL).gr (.bool c) false (λk=>(W P GL).rd (r9 t1 t2 t3 t4 t5 t6 t7 t8) k) λt9=>(W P GL).gr (.bool c) false (λk=>(W P GL).rd (r10 t1 t2 t3 t4 t5 t6 t7 t8 t9) k) λt10=>(W P GL).rd (Yo [.bool c,.bool true,t10] σ) K:=by
 cases c with
 |false=>exact Qa (Za (h1 rfl) (Qa (Za (h2 rfl) (Qa (Za (h3 rfl) (Qa (Za (h4 rfl) (Qa (Za (h5 rfl) (Qa (Za (h6 rfl) (Qa (Za (h7 rfl) (Qa (Za (h8 rfl) (Qa (Za (h9 rfl) (Qa (Za (h10 rfl) (Za rfl hK))))))))))))))))))))
 |true=>exact Qc rfl (Qc rfl (Qc rfl (Qc rfl (Qc rfl (Qc rfl (Qc rfl (Qc rfl (Qc rfl (Qc rfl (Za rfl hK))))))))))
theorem XdD{K:List ab→aa→Prop}{cl:aa→aa→aa→aa→(KT)→Prop} (h1:c=true→r1=.ok v1 q1 [])(h2:c=true→r2 v1=.ok v2 q2 [])(h3:c=true→r3 v1 v2=.ok v3 q3 [])(h4:c=true→r4 v1 v2 v3=.ok v4 q4 [])(hc:c=true→∀k:KT,k (.bool d) σ→cl v1 v2 v3 v4 k)(hK:K σ (.bool (c&&d))) :
  (W P GL).gr (.bool c) true (λk=>(W P GL).rd r1 k) λt1=>(W P GL).gr (.bool c) true (λk=>(W P GL).rd (r2 t1) k) λt2=>(W P GL).gr (.bool c) true (λk=>(W P GL).rd (r3 t1 t2) k) λt3=>(W P GL).gr (.bool c) true (λk=>(W P GL).rd (r4 t1 t2 t3) k) λt4=>(W P GL).gw (.bool c) true (λk=>cl t1 t2 t3 t4 k) σ λw0 τ=>(W P GL).rd (Yo [.bool c,w0,.bool false] τ) (K τ):=by
 cases c with
 |true=>exact Qa (Za (h1 rfl) (Qa (Za (h2 rfl) (Qa (Za (h3 rfl) (Qa (Za (h4 rfl) (Qp (hc rfl _ (Za rfl hK))))))))))
 |false=>exact Qc rfl (Qc rfl (Qc rfl (Qc rfl (Qx rfl (Za rfl hK)))))
theorem YdF{K:List ab→aa→Prop}{cl:aa→(KT)→Prop} (h1:c=false→r1=.ok v1 q1 [])(hc:c=false→∀k:KT,k (.bool d) σ→cl v1 k)(hK:K σ (.bool (c||d))) :
  (W P GL).gr (.bool c) false (λk=>(W P GL).rd r1 k) λt1=>(W P GL).gw (.bool c) false (λk=>cl t1 k) σ λw0 τ=>(W P GL).rd (Yo [.bool c,.bool true,w0] τ) (K τ):=by
 cases c with
 |false=>exact Qa (Za (h1 rfl) (Qp (hc rfl _ (Za rfl hK))))
 |true=>exact Qc rfl (Qx rfl (Za rfl hK))
theorem XdF{K:List ab→aa→Prop}{cl:aa→aa→aa→(KT)→Prop} (h1:c=false→r1=.ok v1 q1 [])(h2:c=false→r2 v1=.ok v2 q2 [])(h3:c=false→r3 v1 v2=.ok v3 q3 [])(hc:c=false→∀k:KT,k (.bool d) σ→cl v1 v2 v3 k)(hK:K σ (.bool (c||d))) :
  (W P GL).gr (.bool c) false (λk=>(W P GL).rd r1 k) λt1=>(W P GL).gr (.bool c) false (λk=>(W P GL).rd (r2 t1) k) λt2=>(W P GL).gr (.bool c) false (λk=>(W P GL).rd (r3 t1 t2) k) λt3=>(W P GL).gw (.bool c) false (λk=>cl t1 t2 t3 k) σ λw0 τ=>(W P GL).rd (Yo [.bool c,.bool true,w0] τ) (K τ):=by
 cases c with
 |false=>exact Qa (Za (h1 rfl) (Qa (Za (h2 rfl) (Qa (Za (h3 rfl) (Qp (hc rfl _ (Za rfl hK))))))))
 |true=>exact Qc rfl (Qc rfl (Qc rfl (Qx rfl (Za rfl hK))))
theorem QdF{K:List ab→aa→Prop}{cl:aa→aa→aa→aa→(KT)→Prop}{s1:aa→List ab→aN}{u0:aa}{p1:List Nat}(h1:c=false→r1=.ok v1 q1 [])(h2:c=false→r2 v1=.ok v2 q2 [])(h3:c=false→r3 v1 v2=.ok v3 q3 [])(h4:c=false→r4 v1 v2 v3=.ok v4 q4 [])(hc:c=false→∀k:KT,k u0 σ→cl v1 v2 v3 v4 k)(g1:c=false→s1 u0 σ=.ok (.bool d) p1 [])(hK:K σ (.bool (c||d))) :
  (W P GL).gr (.bool c) false (λk=>(W P GL).rd r1 k) λt1=>(W P GL).gr (.bool c) false (λk=>(W P GL).rd (r2 t1) k) λt2=>(W P GL).gr (.bool c) false (λk=>(W P GL).rd (r3 t1 t2) k) λt3=>(W P GL).gr (.bool c) false (λk=>(W P GL).rd (r4 t1 t2 t3) k) λt4=>(W P GL).gw (.bool c) false (λk=>cl t1 t2 t3 t4 k) σ λw0 τ=>(W P GL).gr (.bool c) false (λk=>(W P GL).rd (s1 w0 τ) k) λw1=>(W P GL).rd (Yo [.bool c,.bool true,w1] τ) (K τ):=by
 cases c with
 |false=>exact Qa (Za (h1 rfl) (Qa (Za (h2 rfl) (Qa (Za (h3 rfl) (Qa (Za (h4 rfl) (Qp (hc rfl _ (Qa (Za (g1 rfl) (Za rfl hK))))))))))))
 |true=>exact Qc rfl (Qc rfl (Qc rfl (Qc rfl (Qx rfl (Qc rfl (Za rfl hK))))))
end
end Go.Ah
end
section
namespace Go.Ah
section
variable {P:Program} {GL:aw}
theorem W3(hP:P.follows .mixedOrders=true){k:MK}{xs ys zs:List aa}{f:FuncId}(hc:Ys k xs=some (f,ys)){np:Nat}{g:gU}(hg:mM P GL f np g)(hn:ys.length=np){σ τ τ':List ab}(fp ids:List Nat){v:aa}{m:Nat}(z_:∀b∈fp,b∈ids)(pF:∀b∈ids,b<σ.length)
 (sc:iu (o8 σ.length) ys=zs)(hτ:my fp σ=τ)(h:g (W P GL) zs τ (λv' s=>v'=v∧s=τ'))(hk:τ'.length=σ.length+m)
 {K:aa→List Nat×List Nat→List ab→Prop}{u:aa}{up:List (Nat×ab)}{σ':List ab}(hv:v.cx (fw ids σ.length m)=u)(eo:((fp++zBI σ.length m).map λb=>(b,(ai τ' b).dF (aa.cx (fw ids σ.length m))))=up)(hu:gC σ up=some σ')(hK:K u (ids,up.map (·.1)) σ'):(W P GL).eV k xs σ K:=by
 subst hv;subst eo;have HE:zs.length=np:=by rw[←sc,YA,hn]
 obtain⟨F,h1,h2,h3⟩:=hg.C3 hP (zx P GL) HE h;refine HU hc hg.plain (Za3 h1 (hn.trans h2.symm) σ fp ids z_ pF sc hτ (h3.mono λe ρ s q=>?_) hk) hu hK
 grind
end
end Go.Ah
end
section
namespace Go.Ah
section
variable {P:Program} {GL:aw}
variable{f:FuncId}
variable{xs ys zs:List aa}
theorem Yi(hP:P.follows .mixedOrders=true){np:Nat}{g:gU}(hg:mM P GL f np g)(hn:xs.length=np){y:aa}(h:g (W P GL) xs [] (λv' σ=>∃rd,aA (hp σ) rd v' y)):di P GL f xs y:=by
 obtain⟨F,h1,h2,h3⟩:=hg.C3 hP (zx P GL) hn h;intro w M vs hM hg hx;have r0:=bx.start (GL:=GL) w M hM hg;have hh:hp []=pb:=by funext b;simp[hp,pb]
 rw[←hh]at r0;refine(S7 h1 (hn.trans h2.symm) h3 w ⟨[],M⟩ ⟨M,bA⟩ w vs r0 hx).mono ?_;rintro e w' ⟨u,he,g',x,σ',⟨rd,hR⟩,hle,r,d⟩
 let M2:Nat→Option Obj:=λb=>if b<w.heap.size then g'.M b else w'.heap[b]?
 have qR:yq g' (hp σ') w' M2:=by
  refine⟨λb o e=>?_,λb blk cb o e1 e2 e3 e4 e5=>?_⟩
  ·show (if b<w.heap.size then g'.M b else w'.heap[b]?)=some o;split
   ·exact e
   ·exact r.aZ b o e
  ·obtain⟨_,dc,_⟩:=r.own b blk cb e1 e2 e3 e4
   grind
 have sN:=hR GL w ⟨[],M⟩ g' (hp σ') w' M2 r qR (λ_ _=>rfl) u d;refine⟨u,he,r.keeps,M2,λb o e=>qR.1 b o (hle.m b o e),λb o e=>?_,λb o e=>?_,sN⟩
 ·have e':(if b<w.heap.size then g'.M b else w'.heap[b]?)=some o:=e;split at e'
  ·exact r.aZ b o e'
  ·exact e'
 ·have e':(if b<w.heap.size then g'.M b else w'.heap[b]?)=some o:=e;split at e'
  ·rcases r.src b o e' with q|q|q<;>simp_all
  ·exact .inr (by omega)
theorem aA.bp{h0:Hp}{rd:List Nat}(h1:bd h0 rd xs ys):aA h0 rd (.bp xs) (.bp ys):=by
 intro GL w0 L g h w M2 r hM cO v d;cases d with
 |bp _ _ vs hs hd=>
  obtain⟨hl,pE⟩:=h1.get r hM cO (vs:=vs.toList) (by simp[hs]) (λi x v e1 e2=>hd i x v e1 (by simpa using e2));exact .bp _ _ _ (by simpa[hs]using hl.symm) (λi x v e1 e2=>pE i x v e1 (by simpa using e2))
theorem aA.dP{h0:Hp}{rd:List Nat}{x y z:aa}(h:aA h0 rd x y)(k:∀(M:Nat→Option Obj) (u:Value),Den M bA y u→Den M bA z u):aA h0 rd x z:=
 λGL w0 L g h' w M2 r hM cO v d=>k M2 v (h GL w0 L g h' w M2 r hM cO v d)
theorem Den.gp{M:Nat→Option Obj}{c:Own}{e n:Bool}{sz:Nat}{rows:List (List aa)}{u:Value}(h:Den M c (.aW e n sz rows) u):Den M c (.aW false false sz rows) u:=by
 cases h with
 |aW _ _ _ _ _ a cap blk off f q1 q2 q3 q4 q5 q6 q7 q8=>exact .aW _ _ _ _ _ a cap blk off f (λh=>by cases h) (λh=>by cases h) q3 q4 q5 q6 q7 q8
theorem Den.eO{M:Nat→Option Obj}{c:Own}{u:Value}(sz:Nat)(h:Den M c .al u):Den M c (.aW false false sz []) u:=by
 cases h with
 |al=>exact .aW _ _ _ _ [] none 0 0 0 (λ_ _=>undef) (λh=>by cases h) (λh=>by cases h) (λh=>(h rfl).elim) (λ_=>rfl) (by simp) (by simp) (by simp) (by simp)
theorem bd.ro{h0:Hp}{rd:List Nat}:∀ {l:List aa},gh l=true→bd h0 rd l l
 |[],_=>bd.nil
 |x::l,h=>by
  simp only[gh,AI]at h;exact bd.cons (aA.ro h.1) (bd.ro h.2)
variable{σ:List ab}
theorem aA.own{rd:List Nat}{b off len sz:Nat}{ex:Bool}{rs rows:List (List aa)}(hb:ai σ b=.rows sz rs)(dc:b∈rd)(hle:off+len<=rs.length)(hc:cut off (off+len) rs=rows)(ln:∀r∈rs,gh r=true):aA (hp σ) rd (.sl b off len ex) (.aW false false sz rows):=by
 refine aA.dP (y:=.aW ex false sz rows) ?_ (λM u d=>d.gp);have cj:hp σ b=some (.rows sz rs):=Xv hb (by simp);subst hc;refine aA.sl cj dc hle (Il hle▸by omega) (λi row row' q1 q2=>?_)
 grind [cut,bd.ro]
theorem OE(l:List (List aa))(n:Nat)(h:n=l.length):cut 0 (0+n) l=l:=by subst h;simp[cut]
theorem XdP(x:List aa)(l:List (List aa))(n:Nat)(h:n=l.length):cut 1 (1+n) (x::l)=l:=by subst h;simp[cut,zDu]
variable{v:aa}
variable{k:MK}
theorem Xu{rd:List Nat}(h:di P GL f zs v)(hc:Ys k xs=some (f,ys))(ia:Zh P f=true)(hb:bd (hp σ) rd ys zs)(hv:v.flat=true){K:KT}(hK:K v σ):(W P GL).call k xs σ K:=
 Bc hc ia (h.qE hb hv) (Zg σ) hK
theorem GY{rd:List Nat}(h:di P GL f zs v)(hc:Ys k xs=some (f,ys))(ia:Zh P f=true)(hb:bd (hp σ) rd ys zs)(hv:v.flat=true){K:aa→List Nat×List Nat→List ab→Prop}(hK:K v (rd,[]) σ):(W P GL).eV k xs σ K:=
 HU hc ia (h.qE hb hv) (Zg σ) hK
theorem WW{bs:List ab}{rd:List Nat}(h:dh P GL f zs v bs)(hc:Ys k xs=some (f,ys))(ia:Zh P f=true)(hb:bd (hp σ) rd ys zs)(hv:v.dz=true)(Dl:yv bs=true){K:KT}(hK:K (v.cx (QD σ.length)) (σ++Zx σ.length bs)):(W P GL).call k xs σ K:=
 Bc hc ia (h.qE hb hv Dl (λi _=>by simp[hp])) (HT _ σ) hK
theorem ZcT{bs:List ab}{rd:List Nat}(h:dh P GL f zs v bs)(hc:Ys k xs=some (f,ys))(ia:Zh P f=true)(hb:bd (hp σ) rd ys zs)(hv:v.dz=true)(Dl:yv bs=true){K:aa→List Nat×List Nat→List ab→Prop}(hK:K (v.cx (QD σ.length)) (rd,Q8 σ.length (Zx σ.length bs)) (σ++Zx σ.length bs)):(W P GL).eV k xs σ K:=
 HU hc ia (h.qE hb hv Dl (λi _=>by simp[hp])) (HT _ σ) (by rw[Rv];exact hK)
theorem QL(n by_:Nat){b c len:Nat}{ex:Bool}{rs:List (List aa)}{row:List aa}(hb:ai σ b=.rows n rs)(hc:ai σ c=.rows n [row])(hl:rs.length=len)(hr:row.all aa.cell=true)(bH:(2*(len+1)+192)*by_<=2 ^ 48) :
  Qf n by_ [.sl b 0 len ex,.sl c 0 1 true] σ=.ok (.sl σ.length 0 (len+1) false) [c] ([(b,.dead)]++[(σ.length,.rows n (rs++[row]))]):=by
 simp_all [Zk,cut,Qf,YB,yA,sh,ZT]
end
end Go.Ah
end
section
namespace Go.Ah
section
variable {H:Type}
def DL(M:Nat→Option Obj)(xs:List aa)(cs:List Value):Prop:=xs.length=cs.length∧∀(i:Nat) (x:aa) (v:Value),xs[i]?=some x→cs[i]?=some v→Den M bA x v
theorem DL.nil{M:Nat→Option Obj}:DL M [] []:=⟨rfl,λi x v h=>by simp at h⟩
theorem DL.one{M:Nat→Option Obj}{x:aa}{v:Value}(h:Den M bA x v):DL M [x] [v]:=by
 refine⟨rfl,λi y u h1 h2=>?_⟩;cases i with
 |zero=>simp at h1 h2;subst h1;subst h2;exact h
 |succ i=>simp at h1
theorem DL.append{M:Nat→Option Obj}{xs ys:List aa}{cs ds:List Value}(h:DL M xs cs)(k:DL M ys ds):DL M (xs++ys) (cs++ds):=by
 refine⟨by simp[h.1,k.1],λi x v h1 h2=>?_⟩;by_cases hi:i<xs.length
 ·rw[zAU hi]at h1;rw[zAU (by rw[←h.1];exact hi)]at h2;exact h.2 i x v h1 h2
 ·rw[zAO (by omega)]at h1;rw[zAO (by rw[←h.1];omega),←h.1]at h2;exact k.2 _ x v h1 h2
def zk{α β γ:Type}(R:α→β→γ→Prop):List α→List β→List γ→Prop
 |[],[],[]=>True
 |a::us,b::bs,c::cs=>R a b c∧zk R us bs cs
 |_,_,_=>False
def sK{α β:Type}(R:α→β→Prop):List α→List β→Prop
 |[],[]=>True
 |a::us,b::bs=>R a b∧sK R us bs
 |_,_=>False
theorem zk.cons{α β γ:Type}{R:α→β→γ→Prop}{a:α}{us:List α}{bs:List β}{cs:List γ}(h:zk R (a::us) bs cs):∃b Jq c BG,bs=b::Jq∧cs=c::BG∧R a b c∧zk R us Jq BG:=by
 match bs,cs,h with
 |b::bs,c::cs,h=>exact⟨b,bs,c,cs,rfl,rfl,h.1,h.2⟩
theorem zk.nil{α β γ:Type}{R:α→β→γ→Prop}{bs:List β}{cs:List γ}(h:zk R [] bs cs):bs=[]∧cs=[]:=by
 match bs,cs,h with
 |[],[],_=>exact⟨rfl,rfl⟩
theorem sK.cons{α β:Type}{R:α→β→Prop}{a:α}{us:List α}{bs:List β}(h:sK R (a::us) bs):∃b Jq,bs=b::Jq∧R a b∧sK R us Jq:=by
 match bs,h with
 |b::bs,h=>exact⟨b,bs,rfl,h.1,h.2⟩
theorem sK.length{α β:Type}{R:α→β→Prop}:∀ {us:List α} {bs:List β},sK R us bs→us.length=bs.length
 |[],[],_=>rfl
 |_::_,_::_,h=>by simp[sK.length h.2]
 |[],_::_,h=>h.elim
 |_::_,[],h=>h.elim
def Typed(P:Program):Nat→TypeId→List aa→DataW H→Prop
 |0,_,_,_=>False
 |fuel+1,t,xs,d=>match P.underlying t with
  |some .bool=>∃b,xs=[.bool b]∧d=.lit (.bool b)
  |some (.int k)=>∃n,xs=[.int k n]∧(Lit.int k n).wf=true∧d=.lit (.int k n)
  |some .string=>∃s,xs=[.str s]∧d=.lit (.string s)
  |some (.slice e)=>∃rows,xs=[.aW false false (P.cellsOf e) rows]∧((rows=[]∧d=.nil)∨∃es sp,d=.slice es sp∧sK (Typed P fuel e) rows es)
  |some (.struct fs)=>∃parts ds,xs=parts.flatten∧d=.agg ds∧zk (Typed P fuel) (fs.toList.map (·.type)) parts ds
  |some (.array n e)=>∃parts ds,xs=parts.flatten∧d=.agg ds∧parts.length=n∧sK (Typed P fuel e) parts ds
  |_=>False
def p_(P:Program):Nat→List Field→Option Nat
 |o,[]=>some o
 |o,f::r=>bif IT f.offset o then p_ P (o+P.cellsOf f.type) r else none
def Gy(P:Program)(S:List TypeId)(t:TypeId):Bool:=match P.underlying t with
 |some .bool=>IT (P.cellsOf t) 1
 |some (.int _)=>IT (P.cellsOf t) 1
 |some .string=>IT (P.cellsOf t) 1
 |some (.slice e)=>IT (P.cellsOf t) 1&&(zAn 0 (P.cellsOf e)&&S.contains e)
 | some (.struct fs)=>(match p_ P 0 fs.toList with
  |some n=>IT n (P.cellsOf t)
  | none=>false) && fs.toList.all λf=>S.contains f.type
 |some (.array n e)=>IT (P.cellsOf t) (n*P.cellsOf e)&&S.contains e
 |_=>false
variable {enc:TypeId×Value→H} {P:Program} {w:World} {base:Nat} {spare:Nat→Bool} {held:Bool}
theorem Om{α β:Type}{f:α→Option β}:∀ {l:List α} {r:List β},l.mapM f=some r→sK (λa b=>f a=some b) l r
 |[],r,h=>by simp at h;subst h;trivial
 |a::l,r,h=>by
  rw[List.mapM_cons]at h;cases ha:f a with
  |none=>simp[ha]at h
  |some b=>
   cases hl:l.mapM f with
   |none=>simp[ha,hl]at h
   |some bs=>simp[ha,hl]at h;subst h;exact⟨ha,Om hl⟩
def Ic(enc:TypeId×Value→H)(P:Program)(w:World)(base:Nat)(spare:Nat→Bool)(held:Bool)(fuel:Nat)(t:TypeId)(cs:List Value)(d:DataW H):Prop:=∃ps,zCW enc P w base spare held fuel t cs=some (d,ps)
def yY(enc:TypeId×Value→H)(P:Program)(w:World)(base:Nat)(spare:Nat→Bool)(held:Bool)(fuel:Nat)(t:TypeId):Prop:=
 ∀cs d,Ic enc P w base spare held fuel t cs d→cs.length=P.cellsOf t∧∃xs,DL (λb=>w.heap[b]?) xs cs∧Typed P fuel t xs d
theorem R3{a:Addr}{v:Value}(h:w.cell? a=some v):a.spot=none∧iR (λb=>w.heap[b]?) a.block a.off=some v:=by
 unfold World.cell? at h;show _∧(match w.heap[a.block]? with
  |some (.cells c _ _)=>c[a.off]?
  | _=>none)=some v
 cases hb:w.heap[a.block]? with
 |none=>rw[hb]at h;cases h
 |some o=>
  rw[hb]at h;cases o with
  |cells c t fr=>
   simp only at h;split at h
   ·cases h
   ·rename_i hs;exact⟨by simpa using hs,h⟩
  |_=>cases h
theorem Xb2(a:Addr)(n:Nat):(a.add n).block=a.block:=by unfold zDz;split<;>rfl
theorem Xda(a:Addr)(n:Nat):(a.add n).off=a.off+n:=by unfold zDz;split<;>simp_all
theorem Z'{fuel:Nat}{cs:List Value}:∀ {fs:List Field} {o n:Nat} {xs:List (DataW H×List MemPlace)},p_ P o fs=some n→n<=cs.length→(∀f∈fs,yY enc P w base spare held fuel f.type) →
  sK (λ(f:Field) y=>zCW enc P w base spare held fuel f.type ((cs.drop f.offset).take (P.cellsOf f.type))=some y) fs xs→o<=n ∧
  ∃parts,DL (λb=>w.heap[b]?) parts.flatten ((cs.take n).drop o)∧zk (Typed P fuel) (fs.map (·.type)) parts (xs.map (·.1))
 |[],o,n,xs,ht,hn,hf,h=>by
  simp only[p_,zBl]at ht;subst ht
  match xs,h with
  |[],_=>
   refine⟨No _,[],?_,trivial⟩;have:(cs.take o).drop o=[]:=by simp
   rw[this];exact DL.nil
 |f::fs,o,n,xs,ht,hn,hf,h=>by
  simp only[p_]at ht;cases hb:IT f.offset o with
  |false=>rw[hb]at ht;cases ht
  |true=>
   rw[hb]at ht;have ho:=fY hb;obtain⟨y,ys,rfl,h1,h2⟩:=h.cons;obtain⟨hle,parts,hd,h3⟩:=Z' ht hn (λg hg=>hf g (zAr _ hg)) h2;obtain⟨hl,p,hp,hy⟩:=hf f (zBP ..) _ _ ⟨y.2,h1⟩;refine⟨by omega,p::parts,?_,hy,h3⟩;have e:(cs.take n).drop o=(cs.drop f.offset).take (P.cellsOf f.type)++(cs.take n).drop (o+P.cellsOf f.type):=by
    have e1:(cs.take n).drop o=((cs.take n).drop o).take (P.cellsOf f.type)++((cs.take n).drop o).drop (P.cellsOf f.type):=(zCh _ _).symm;rw[e1,List.drop_drop,ho]
    congr 1
    rw[List.drop_take,List.take_take]
    congr 1
    omega
   rw[zEC,e];exact hp.append hd
theorem XbH{fuel:Nat}{e:TypeId}{cs:List Value}(hf:yY enc P w base spare held fuel e):∀ {n o:Nat} {xs:List (DataW H×List MemPlace)},(o+n)*P.cellsOf e<=cs.length →
  sK (λ(i:Nat) y=>zCW enc P w base spare held fuel e ((cs.drop (i*P.cellsOf e)).take (P.cellsOf e))=some y) (zBI o n) xs →
  ∃parts,DL (λb=>w.heap[b]?) parts.flatten ((cs.take ((o+n)*P.cellsOf e)).drop (o*P.cellsOf e))∧parts.length=n∧sK (Typed P fuel e) parts (xs.map (·.1))
 |0,o,xs,hn,h=>by
  match xs,h with
  |[],_=>
   refine⟨[],?_,rfl,trivial⟩;have:(cs.take ((o+0)*P.cellsOf e)).drop (o*P.cellsOf e)=[]:=by simp
   rw[this];exact DL.nil
 |n+1,o,xs,hn,h=>by
  rw[zDG]at h;obtain⟨y,ys,rfl,h1,h2⟩:=h.cons;have jT:(o+1+n)*P.cellsOf e<=cs.length:=by rw[show o+1+n=o+(n+1) by omega];exact hn
  obtain⟨parts,hd,h3,h4⟩:=XbH hf jT h2;obtain⟨hl,p,hp,hy⟩:=hf _ _ ⟨y.2,h1⟩;refine⟨p::parts,?_,by simp[h3],hy,h4⟩;have hs:(o+1)*P.cellsOf e=o*P.cellsOf e+P.cellsOf e:=by rw[zBX,Nat.one_mul]
  have hm:(o+1)*P.cellsOf e<=(o+(n+1))*P.cellsOf e:=zAE _ (by omega);have e1:(cs.take ((o+(n+1))*P.cellsOf e)).drop (o*P.cellsOf e)=(cs.drop (o*P.cellsOf e)).take (P.cellsOf e)++(cs.take ((o+1+n)*P.cellsOf e)).drop ((o+1)*P.cellsOf e):=by
   rw[show o+1+n=o+(n+1) by omega,hs];have e2:(cs.take ((o+(n+1))*P.cellsOf e)).drop (o*P.cellsOf e)=((cs.take ((o+(n+1))*P.cellsOf e)).drop (o*P.cellsOf e)).take (P.cellsOf e)++((cs.take ((o+(n+1))*P.cellsOf e)).drop (o*P.cellsOf e)).drop (P.cellsOf e):=(zCh _ _).symm;rw[e2,List.drop_drop]
   congr 1
   rw[List.drop_take,List.take_take]
   congr 1
   omega
  rw[zEC,e1];exact hp.append hd
theorem Zcf{fuel:Nat}{e:TypeId}{a:Addr}(hf:yY enc P w base spare held fuel e)(qt:0<P.cellsOf e):∀ {n o:Nat} {xs:List (DataW H×List MemPlace)},
  sK (λ(i:Nat) y=>(w.cells? base (a.add (i*P.cellsOf e)) (P.cellsOf e)).bind (zCW enc P w base spare held fuel e)=some y) (zBI o n) xs →
  ∃(rows:List (List aa)) (f:Nat→Nat→Value),rows.length=n∧sK (Typed P fuel e) rows (xs.map (·.1))∧(n≠0→o=0→a.spot=none)∧(∀(i:Nat) (row:List aa),rows[i]?=some row→row.length=P.cellsOf e) ∧
   (∀i j,i<n→j<P.cellsOf e→iR (λb=>w.heap[b]?) a.block (a.off+((o+i)*P.cellsOf e+j))=some (f i j))∧(∀(i:Nat) (row:List aa) (j:Nat) (x:aa),rows[i]?=some row→row[j]?=some x→Den (λb=>w.heap[b]?) bA x (f i j))
 |0,o,xs,h=>by
  match xs,h with
  |[],_=>exact⟨[],λ_ _=>undef,rfl,trivial,λh _=>(h rfl).elim,by simp,by intro i j hi;omega,by simp⟩
 |n+1,o,xs,h=>by
  rw[zDG]at h;obtain⟨y,ys,rfl,h1,h2⟩:=h.cons;obtain⟨rows,f,q1,q2,q3,q4,q5,q6⟩:=Zcf hf qt h2;obtain⟨cs,hc,hy⟩:=zDP.1 h1;obtain⟨_,hl,oM⟩:=World.cells?_some hc;obtain⟨_,xs0,hd,Pz⟩:=hf cs y.1 ⟨y.2,hy⟩;have qV:∀j,j<P.cellsOf e→∃v,cs[j]?=some v∧iR (λb=>w.heap[b]?) a.block (a.off+o*P.cellsOf e+j)=some v:=by
   intro j hj;obtain⟨v,hv⟩:∃v,cs[j]?=some v:=⟨cs[j]'(by omega),by simp[show j<cs.length by omega]⟩;have:=oM j hj;rw[hv]at this;obtain⟨m1,m2⟩:=R3 this;rw[Xb2,Xb2,Xda,Xda]at m2;exact⟨v,hv,m2⟩
  refine⟨xs0::rows,λi j=>match i with|0=>(cs[j]?).getD undef|i+1=>f i j,by simp[q1],⟨Pz,q2⟩,λ_ ho=>?_,?_,?_,?_⟩
  ·have:=oM 0 qt;rw[show cs[0]?=some (cs[0]'(by omega)) by simp[show 0<cs.length by omega]]at this;have:=(R3 this).1;subst ho;simpa[zDz]using this
  ·intro i row hr;cases i with
   |zero=>simp at hr;subst hr;rw[hd.1,hl]
   |succ i=>exact q4 i row (by simpa using hr)
  ·intro i j hi hj;cases i with
   |zero=>
    obtain⟨v,e1,e2⟩:=qV j hj;simp only[e1,zAt,zBj];rw[←Nat.add_assoc];exact e2
   |succ i=>
    have:=q5 i j (by omega) hj;rw[show o+(i+1)=o+1+i by omega];exact this
  ·intro i row j x hr hx;cases i with
   |zero=>
    simp at hr;subst hr;have hj:j<cs.length:=by rw[←hd.1];exact(gE hx).1
    have hv:cs[j]?=some cs[j]:=by simp[hj]
    simp only[hv,zAt];exact hd.2 j x _ hx hv
   |succ i=>exact q6 i row j x (by simpa using hr) hx
theorem Ti{S:List TypeId}(hS:S.all (Gy P S)=true):∀(fuel:Nat) (t:TypeId),t∈S→yY enc P w base spare held fuel t
 |0,t,_=>by
  rintro cs d ⟨ps,h⟩;simp[zCW]at h
 |fuel+1,t,ht=>by
  rintro cs d ⟨ps,h⟩;have bR:=zAm.1 hS t ht;have ih:=λt ht=>Ti hS fuel t ht;unfold Gy at bR;unfold zCW at h;split at h
  case h_1=>
   rename_i hu;rw[hu]at bR;cases h;exact⟨(fY bR).symm,_,DL.one (.bool _ _),by unfold Typed;rw[hu];exact⟨_,rfl,rfl⟩⟩
  case h_2=>
   rename_i hu;rw[hu]at bR;split at h
   ·rename_i hk;obtain⟨rfl,hw⟩:=hk;cases h;exact⟨(fY bR).symm,_,DL.one (.int _ _ _),by unfold Typed;rw[hu];exact⟨_,rfl,hw,rfl⟩⟩
   ·cases h
  case h_4=>
   rename_i hu;rw[hu]at bR;split at h
   ·cases h;exact⟨(fY bR).symm,_,DL.one (.str _ _),by unfold Typed;rw[hu];exact⟨_,rfl,rfl⟩⟩
   ·cases h
  case h_7=>
   rename_i e hu;rw[hu]at bR;simp only[AI]at bR;cases h;refine⟨(fY bR.1).symm,_,DL.one (Den.eO (P.cellsOf e) (.al _)),?_⟩;unfold Typed;rw[hu];exact⟨[],rfl,.inl ⟨rfl,rfl⟩⟩
  case h_8=>
   rename_i e a len cap hu;rw[hu]at bR;simp only[AI]at bR;obtain⟨k1,k2,k3⟩:=bR;have qt:0<P.cellsOf e:=iy k2;simp only at h;split at h
   ·rename_i hc;obtain⟨bV,he,h⟩:=zDP.1 h;obtain⟨rest,hr,h⟩:=zBh.1 h;cases h;rw[zDk]at he;obtain⟨rows,f,q1,q2,q3,q4,q5,q6⟩:=Zcf (ih e (zBZ.1 k3)) qt (Om he);refine⟨(fY k1).symm,[.aW false false (P.cellsOf e) rows],DL.one ?_,?_⟩
    ·rw[←q1];refine .aW _ false false (P.cellsOf e) rows (some a) cap a.block a.off f (λh=>by cases h) (λh=>by cases h) (λcU=>?_) (λh=>by cases h) (by rw[q1];exact hc.2.1) q4 (λi j hi hj=>?_) q6
     ·have hn:len≠0:=λe=>cU (List.length_eq_zero_iff.1 (q1.trans e));have:=q3 hn rfl;cases a;simp at this;subst this;rfl
     ·have:=q5 i j (by omega) hj;rw[IN]at this;exact this
    ·unfold Typed;rw[hu];exact⟨rows,rfl,.inr ⟨_,_,rfl,q2⟩⟩
   ·cases h
  case h_9=>
   rename_i fs hu;rw[hu]at bR;simp only[AI]at bR;obtain⟨k1,k2⟩:=bR;split at h
   ·rename_i hl;obtain⟨xs,hx,h⟩:=zBh.1 h;cases h;cases ht:p_ P 0 fs.toList with
    |none=>rw[ht]at k1;cases k1
    |some n=>
     rw[ht]at k1;have hn:=fY k1;obtain⟨_,parts,hd,h3⟩:=Z' ht (by omega) (λg hg=>ih _ (zBZ.1 (zAm.1 k2 g hg))) (Om hx);refine⟨hl,parts.flatten,?_,?_⟩
     ·rw[zDW,zAv (by omega)]at hd;exact hd
     ·unfold Typed;rw[hu];exact⟨parts,_,rfl,rfl,h3⟩
   ·cases h
  case h_10=>
   rename_i n e hu;rw[hu]at bR;simp only[AI]at bR;obtain⟨k1,k2⟩:=bR;have hn:=fY k1;split at h
   ·rename_i hl;obtain⟨xs,hx,h⟩:=zBh.1 h;cases h;rw[zDk]at hx;obtain⟨parts,hd,h3,h4⟩:=XbH (ih e (zBZ.1 k2)) (o:=0) (n:=n) (by rw[IN];omega) (Om hx);refine⟨hl,parts.flatten,?_,?_⟩
    ·rw[Nat.zero_mul,zDW,IN,zAv (by omega)]at hd;exact hd
    ·unfold Typed;rw[hu];exact⟨parts,_,rfl,rfl,h3,h4⟩
   ·cases h
  all_goals first|(rename_i hu;rw[hu]at bR;exact absurd (show false=true from bR) (by decide))|cases h
end
end Go.Ah
end
