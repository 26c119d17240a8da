/- Part of the proof that GameBegins holds of the program for arguments that together hold at most 1048576 values and letters; no other condition. -/
import Derived.Test.YtndbfoldjmppfaaGreatDoorZ1
import Derived.Orders
set_option linter.all false
section
namespace Go.Ah
section
variable {P:Program} {GL:Globs}
theorem XaW(s:List UInt8)(k:IntKind)(i:Int)(h1:0≤i)(h2:i≤s.length)(h0:Hp) :
  OpSem P GL (.sliceStr true false) [.str s,.int k i] h0 (.str (s.drop i.toNat)) [] []:=by
 intro o os hc w0 L g hp w a r hx _ _;obtain⟨t,x,lo,hi,ho,hl1,hl2,rfl,hu⟩:=X7 hc;obtain⟨lo,rfl⟩:∃z,lo=some z:=Option.isSome_iff_exists.1 hl1.symm;obtain rfl:hi=none:=by cases hi<;>first|rfl|cases hl2
 obtain⟨d,d2,_⟩:=hx;obtain⟨s',e1,rfl⟩:=Y0 d;have hsz:s'.data.toList.length=s'.size:=by simp
 have hrun:(execOp a.eval o).run P w=.ok (.value (.string (s'.extract i.toNat s'.size))) w:=by
  simp only[execOp,ho,e1,Instr.sliceAt,Instr.slice,Sem.run_bind,run_underlying hu,Result.andThen_ok,Option.map_some,Xk d2,Option.map_none,Option.isSome_none,Bool.false_eq_true,if_false,Instr.sliceBounds,Sem.run_pure,Xg k i s'.size _ h1 (by omega)]
 rw[hrun];have:s'.data.toList.drop i.toNat=(s'.extract i.toNat s'.size).data.toList:=by
  simp[List.take_of_length_le]
 rw[this];exact Out.here r (.str _ _)
theorem YaW(s:List UInt8)(k:IntKind)(i:Int)(h1:0≤i)(h2:i≤s.length)(h0:Hp) :
  OpSem P GL (.sliceStr false true) [.str s,.int k i] h0 (.str (s.take i.toNat)) [] []:=by
 intro o os hc w0 L g hp w a r hx _ _;obtain⟨t,x,lo,hi,ho,hl1,hl2,rfl,hu⟩:=X7 hc;obtain rfl:lo=none:=by cases lo<;>first|rfl|cases hl1
 obtain⟨hi,rfl⟩:∃z,hi=some z:=Option.isSome_iff_exists.1 hl2.symm;obtain⟨d,d2,_⟩:=hx;obtain⟨s',e1,rfl⟩:=Y0 d;have hsz:s'.data.toList.length=s'.size:=by simp
 have hrun:(execOp a.eval o).run P w=.ok (.value (.string (s'.extract 0 i.toNat))) w:=by
  simp only[execOp,ho,e1,Instr.sliceAt,Instr.slice,Sem.run_bind,run_underlying hu,Result.andThen_ok,Option.map_some,Xk d2,Option.map_none,Option.isSome_none,Bool.false_eq_true,if_false,Instr.sliceBounds,Sem.run_pure,Xg k i s'.size _ h1 (by omega)]
 rw[hrun];have:s'.data.toList.take i.toNat=(s'.extract 0 i.toNat).data.toList:=by
  simp
 rw[this];exact Out.here r (.str _ _)
theorem Xaf(n by_:Nat)(z:List AVal)(x y:AVal)(rd:List Nat)(h0:Hp)(hx0:x=.nils∨x=.cap0∨(∃b o l e,x=.sl b o l e)∨∃e nn sz rows,x=.rsl e nn sz rows)(hy0:SrcIs h0 n y [] rd) :
  OpSem P GL (.append n by_ z) [x,y] h0 x rd []:=by
 intro o os hc w0 L g h w a r hx hrd _;generalize ho:o.op=op at hc;cases hc with
 |append t t' e ox oy _ _ v _ ht htd hsz hby hz hvs hcells hby0 hn0=>
  obtain⟨d,hd,hni⟩:=htd;obtain⟨d1,d2,_⟩:=hx;generalize hu1:a.eval ox=u1 at d1;generalize hu2:a.eval oy=u2 at d2;obtain⟨p1,len1,cap1,e1,hle⟩:∃p len cap,u1=.slice p len cap∧len≤cap:=by
   rcases hx0 with rfl|rfl|⟨b,o',l,e',rfl⟩|⟨e',nn,sz,rows,rfl⟩
   ·cases d1; exact⟨_,_,_,rfl,Nat.le_refl _⟩
   ·cases d1; exact⟨_,_,_,rfl,Nat.le_refl _⟩
   ·cases d1<;>grind
   grind [Z6]
  subst e1;obtain⟨p2,cap2,newv,e2,f2,ra2,_⟩:=QC (P:=P) r hy0 hrd d2;have hlen2:(Builtin.lenOf u2).run P w=.ok 0 w:=by rw[e2]; rfl
  have hnv:newv.toList=[]:=by have:=ra2.1; simp at this; simp[this]
  have hrun:(Builtin.append_ #[t,t'] o.type #[.slice p1 len1 cap1,u2]).run P w=.ok (.slice p1 len1 cap1) w:=by
   obtain⟨k1,k2⟩:=(XA ht hd hni hsz hby hz hby0 (base:=p1) (len:=len1) (cap:=cap1) (newv:=newv) hlen2 o.type).1 (by simpa using hle) f2;cases p1 with
   |none=>exact k1 rfl
   |some ad=>exact k2 ad w rfl (by rw[hnv]; rfl)
  rw[YA ho hu1 hu2 hrun];exact Out.here r d1
theorem OpSem.weak{k:MK}{x x':AVal}{xs:List AVal}{h0:Hp}{v:AVal}{rd:List Nat}{up:List (Nat×ABlk)}(hw:∀(g:Gm) (u:Value),g.den x u→g.den x' u)(h:OpSem P GL k (x'::xs) h0 v rd up):OpSem P GL k (x::xs) h0 v rd up:=by
 intro o os hc w0 L g hp w a r hx hrd hup;refine h o os hc w0 L g hp w a r ?_ hrd hup;generalize os.map a.eval=vs at hx;cases vs with
 |nil=>exact hx
 |cons v vs=>exact⟨hw g v hx.1,hx.2⟩
theorem Qb9(x y:AVal)(h0:Hp):OpSem P GL .pick [.bool true,x,y] h0 x [] []:=by
 intro o os hc w0 L g h w a r hx _ _;generalize ho:o.op=op at hc;cases hc with
 |pick oc oa ob=>
  obtain⟨d1,d2,d3,_⟩:=hx;have e1:=Xw d1;simp_all [execOp,asBool,Out.here]
theorem Zca(x y:AVal)(h0:Hp):OpSem P GL .pick [.bool false,x,y] h0 y [] []:=by
 intro o os hc w0 L g h w a r hx _ _;generalize ho:o.op=op at hc;cases hc with
 |pick oc oa ob=>
  obtain⟨d1,d2,d3,_⟩:=hx;have e1:=Xw d1;simp_all [execOp,asBool,Out.here]
theorem XM{g:Gm}{b off len:Nat}{ex:Bool}{cb:CB}{p:Option Addr}{len' cap:Nat}(ec:g.c b=some cb)(d:g.den (.sl b off len ex) (.slice p len' cap)) :
  len'=len∧len≤cap∧(ex=true→cap=len)∧∀ {l h:Nat},l≤h→h≤cap→∀ex':Bool,(ex'=true→cap=h)→(l<h∨(l=0)) →
   g.den (.sl b (off+l) (h-l) ex') (.slice (if cap=l then p else p.map (·.add (l*cb.sz))) (h-l) (cap-l)):=by
 cases d with
 |slv _ _ _ cb' _ ec' hv=>
  rw[ec] at ec'; cases ec';refine⟨rfl,Nat.le_refl _,λ_=>rfl,λ{l h} hl hh ex' hex hs=>?_⟩;have:h=0:=by omega
  subst this;have:l=0:=by omega
  subst this;exact .slv _ _ _ cb _ ec hv
 |sle _ _ _ _ cb' _ ec' hv h1 h2=>
  rw[ec] at ec'; cases ec';refine⟨rfl,Nat.le_refl _,λ_=>rfl,λ{l h} hl hh ex' hex hs=>?_⟩;have:h=0:=by omega
  subst this;have:l=0:=by omega
  subst this;exact .sle _ _ _ _ cb _ ec hv h1 h2
 |sl _ _ _ _ _ cb' _ ec' hv h1 h2 h3=>
  rw[ec] at ec'; cases ec';refine⟨rfl,h1,h3,λ{l h} hl hh ex' hex hs=>?_⟩;have hadd:(if cap=l then some (⟨cb.blk,cb.base+off*cb.sz,none⟩:Addr) else (some (⟨cb.blk,cb.base+off*cb.sz,none⟩:Addr)).map (·.add (l*cb.sz)))=some ⟨cb.blk,cb.base+(off+l)*cb.sz,none⟩:=by
   grind [YL]
  rw[hadd];refine .sl _ _ _ _ _ cb _ ec hv (by omega) ?_ (λe=>by rw[hex e])
  grind
theorem Qcs{w0:World}{L:Ln}{g:Gm}{h:Hp}{w:World}(r:Rep GL w0 L g h w){b n off len cap:Nat}{ex:Bool}{rs:List (List AVal)}{p:Option Addr}(hb:h b=some (.rows n rs))(hn0:n≠0)(d:g.den (.sl b off len ex) (.slice p len cap)):rs.length≤off+cap:=by
 cases d with
 |slv _ _ _ cb p ec hv=>have:=(r.virtRows hb ec hv).2; subst this; simp
 |sle _ _ _ _ cb p ec hv h1 h2=>exact XaM (off:=off) (cap:=0) r hb hn0 ec hv (by simpa using h2)
 |sl _ _ _ _ _ cb cap ec hv h1 h2 h3=>exact XaM r hb hn0 ec hv h2
theorem Q5{g:Gm}{b off len:Nat}{ex:Bool}{v:Value}(d:g.den (.sl b off len ex) v):∃cb p cap,g.c b=some cb∧v=.slice p len cap∧(p=none→cap=0):=by
 cases d<;>grind
theorem ZbX{w0:World}{L:Ln}{g:Gm}{h:Hp}{w:World}(r:Rep GL w0 L g h w){b sz:Nat}{rs:List (List AVal)}{cb:CB}(hb:h b=some (.rows sz rs))(ec:g.c b=some cb):cb.sz=sz:=by
 cases hv:cb.virt with
 |true=>have:=r.hollow b _ cb hb rfl ec hv; cases this; rfl
 |false=>exact(r.rowsBlk hb ec hv).1
theorem YaI(ex:Bool)(sz b off len:Nat)(rs:List (List AVal))(k:IntKind)(i:Int)(h1:0≤i)(h2:i<len)(h0:Hp)(hb:h0 b=some (.rows sz rs)) :
  OpSem P GL (.sliceS sz true false false) [.sl b off len ex,.int k i] h0 (.sl b (off+i.toNat) (len-i.toNat) ex) [b] []:=by
 intro o os hc w0 L g hp w a r hx hrd _;obtain⟨t,x,lo,hi,mx,e,ho,hl1,hl2,hl3,rfl,hu,hn⟩:=Zp hc;obtain⟨lo,rfl⟩:∃z,lo=some z:=Option.isSome_iff_exists.1 hl1.symm;obtain rfl:hi=none:=by cases hi<;>first|rfl|cases hl2
 obtain rfl:mx=none:=by cases mx<;>first|rfl|cases hl3
 obtain⟨d,d2,_⟩:=hx;obtain⟨cb,p,cap,ec,hv,_⟩:=Q5 d;have hsz:=ZbX r ((hrd b (by simp)).trans hb) ec;rw[hv] at d;obtain⟨_,hc1,hc2,hcut⟩:=XM ec d;have hb:(Instr.sliceBounds true len cap (some (.int k i)) none none).run P w=.ok (i.toNat,len,cap) w:=by
  grind [Instr.sliceBounds,Sem.run_bind,Sem.run_pure,Result.andThen_ok,Xg]
 grind [Ys,Xk,Out.here]
theorem YaB(ex:Bool)(sz b off len:Nat)(k:IntKind)(i:Int)(h1:i=len)(h0:Hp) :
  OpSem P GL (.sliceS sz true false false) [.sl b off len ex,.int k i] h0 (.rsl false (Nat.blt 0 len) sz []) [] []:=by
 intro o os hc w0 L g hp w a r hx hrd _;obtain⟨t,x,lo,hi,mx,e,ho,hl1,hl2,hl3,rfl,hu,hn⟩:=Zp hc;obtain⟨lo,rfl⟩:∃z,lo=some z:=Option.isSome_iff_exists.1 hl1.symm;obtain rfl:hi=none:=by cases hi<;>first|rfl|cases hl2
 obtain rfl:mx=none:=by cases mx<;>first|rfl|cases hl3
 obtain⟨d,d2,_⟩:=hx;obtain⟨cb,p,cap,ec,hv,hnone⟩:=Q5 d;rw[hv] at d;have hsome:Nat.blt 0 len=true→p.isSome=true:=by
  intro e;generalize hq:(Value.slice p len cap)=q at d;cases d with
  |sl=>cases hq; rfl
  |slv=>cases hq; cases e
  |sle=>cases hq; cases e
 obtain⟨_,hc1,hc2,_⟩:=XM ec d;have hb:(Instr.sliceBounds true len cap (some (.int k i)) none none).run P w=.ok (i.toNat,len,cap) w:=by
  grind [Instr.sliceBounds,Sem.run_bind,Sem.run_pure,Result.andThen_ok,Xg]
 rw[Ys ho hu hn hv (l:=i.toNat) (h:=len) (m:=cap) (by simpa[Xk d2] using hb)];refine Out.here r ?_;rw[show len-i.toNat=([]:List (List AVal)).length by simp; omega];refine .rsl _ _ _ _ [] _ _ 0 0 (λ_ _=>undef) (by simp) (λe=>by have:=hsome e; split<;>simp[this]) (by simp) (λe=>?_) (by simp) (by simp) (by simp) (by simp);split at e
 ·omega
 ·simp at e; have:=hnone e; omega
theorem Yav(ex:Bool)(sz b off len:Nat)(rs:List (List AVal))(k:IntKind)(i:Int)(h1:i=len)(hz:sz≠0)(h0:Hp)(hb:h0 b=some (.rows sz rs)) :
  OpSem P GL (.sliceS sz true false false) [.sl b off len ex,.int k i] h0 (.sl b (off+len) 0 ex) [b] []:=by
 intro o os hc w0 L g hp w a r hx hrd _;obtain⟨t,x,lo,hi,mx,e,ho,hl1,hl2,hl3,rfl,hu,hn⟩:=Zp hc;obtain⟨lo,rfl⟩:∃z,lo=some z:=Option.isSome_iff_exists.1 hl1.symm;obtain rfl:hi=none:=by cases hi<;>first|rfl|cases hl2
 obtain rfl:mx=none:=by cases mx<;>first|rfl|cases hl3
 obtain⟨d,d2,_⟩:=hx;obtain⟨cb,p,cap,ec,hv,_⟩:=Q5 d;have hsz:=ZbX r ((hrd b (by simp)).trans hb) ec;rw[hv] at d;obtain⟨_,hc1,hc2,_⟩:=XM ec d;have hbd:(Instr.sliceBounds true len cap (some (.int k i)) none none).run P w=.ok (i.toNat,len,cap) w:=by
  grind [Instr.sliceBounds,Sem.run_bind,Sem.run_pure,Result.andThen_ok,Xg]
 rw[Ys ho hu hn hv (l:=i.toNat) (h:=len) (m:=cap) (by simpa[Xk d2] using hbd)];have hi:i.toNat=len:=by omega
 rw[hi,←hsz];refine Out.here r ?_;rw[Nat.sub_self];generalize hq:(Value.slice p len cap)=q at d;cases d with
 |slv _ _ _ cb' _ ec' hvt=>
  cases hq<;>grind
 |sle _ _ _ _ cb' _ ec' hvt g1 g2=>
  cases hq<;>grind
 |sl _ _ _ _ _ cb' _ ec' hvt g1 g2 g9993=>
  rw[ec] at ec'; cases ec';cases hq;by_cases hcap:cap=len
  ·subst hcap;rw[if_pos rfl,Nat.sub_self];exact .sle _ _ _ _ cb _ ec hvt (by rw[hsz]; exact hz) g2
  ·rw[if_neg hcap];have:=Den.sl (M:=g.M) g.c b (off+len) 0 ex cb (cap-len) ec hvt (Nat.zero_le _) (by grind) (λe=>absurd (g9993 e) hcap);show Den g.M g.c _ _
   grind [YL]
theorem ZaB(sz:Nat)(k:IntKind)(h0:Hp):OpSem P GL (.sliceS sz true false false) [.nils,.int k 0] h0 .nils [] []:=by
 intro o os hc w0 L g hp w a r hx hrd _;obtain⟨t,x,lo,hi,mx,e,ho,hl1,hl2,hl3,rfl,hu,hn⟩:=Zp hc;obtain⟨lo,rfl⟩:∃z,lo=some z:=Option.isSome_iff_exists.1 hl1.symm;obtain rfl:hi=none:=by cases hi<;>first|rfl|cases hl2
 obtain rfl:mx=none:=by cases mx<;>first|rfl|cases hl3
 obtain⟨d,d2,_⟩:=hx;have hv:a.eval x=.slice none 0 0:=by
  generalize a.eval x=u at d;cases d; rfl
 have hb:(Instr.sliceBounds true 0 0 (some (.int k 0)) none none).run P w=.ok (0,0,0) w:=by
  rfl
 rw[Ys ho hu hn hv (l:=0) (h:=0) (m:=0) (by simpa[Xk d2] using hb)];exact Out.here r (.nils _)
theorem QaA(sz:Nat)(k:IntKind)(h0:Hp):OpSem P GL (.sliceS sz false true false) [.nils,.int k 0] h0 .nils [] []:=by
 intro o os hc w0 L g hp w a r hx hrd _;obtain⟨t,x,lo,hi,mx,e,ho,hl1,hl2,hl3,rfl,hu,hn⟩:=Zp hc;obtain rfl:lo=none:=by cases lo<;>first|rfl|cases hl1
 obtain⟨hi,rfl⟩:∃z,hi=some z:=Option.isSome_iff_exists.1 hl2.symm;obtain rfl:mx=none:=by cases mx<;>first|rfl|cases hl3
 obtain⟨d,d2,_⟩:=hx;have hv:a.eval x=.slice none 0 0:=by
  generalize a.eval x=u at d;cases d; rfl
 have hb:(Instr.sliceBounds true 0 0 none (some (.int k 0)) none).run P w=.ok (0,0,0) w:=by
  rfl
 rw[Ys ho hu hn hv (l:=0) (h:=0) (m:=0) (by simpa[Xk d2] using hb)];exact Out.here r (.nils _)
theorem ZaI(ex:Bool)(sz b off len:Nat)(rs:List (List AVal))(k:IntKind)(i:Int)(h1:0≤i)(h2:i≤len)(h0:Hp)(hb:h0 b=some (.rows sz rs)) :
  OpSem P GL (.sliceS sz false true false) [.sl b off len ex,.int k i] h0 (.sl b off i.toNat false) [b] []:=by
 intro o os hc w0 L g hp w a r hx hrd _;obtain⟨t,x,lo,hi,mx,e,ho,hl1,hl2,hl3,rfl,hu,hn⟩:=Zp hc;obtain rfl:lo=none:=by cases lo<;>first|rfl|cases hl1
 obtain⟨hi,rfl⟩:∃z,hi=some z:=Option.isSome_iff_exists.1 hl2.symm;obtain rfl:mx=none:=by cases mx<;>first|rfl|cases hl3
 obtain⟨d,d2,_⟩:=hx;obtain⟨cb,p,cap,ec,hv,_⟩:=Q5 d;have hsz:=ZbX r ((hrd b (by simp)).trans hb) ec;rw[hv] at d;obtain⟨_,hc1,hc2,hcut⟩:=XM ec d;have hb:(Instr.sliceBounds true len cap none (some (.int k i)) none).run P w=.ok (0,i.toNat,cap) w:=by
  grind [Instr.sliceBounds,Sem.run_bind,Sem.run_pure,Result.andThen_ok,Xg]
 rw[Ys ho hu hn hv (l:=0) (h:=i.toNat) (m:=cap) (by simpa[Xk d2] using hb)];rw[←hsz];have:=hcut (l:=0) (h:=i.toNat) (by omega) (by omega) false (by simp) (.inr rfl);exact Out.here r this
theorem Zav(ex:Bool)(sz b off len:Nat)(rs:List (List AVal))(k k':IntKind)(i j:Int)(h1:0≤i)(h2:i<j∨(i=0∧0≤j))(h3:j≤len∨(sz≠0∧off+j.toNat≤rs.length))(h0:Hp)(hb:h0 b=some (.rows sz rs)) :
  OpSem P GL (.sliceS sz true true false) [.sl b off len ex,.int k i,.int k' j] h0 (.sl b (off+i.toNat) (j.toNat-i.toNat) false) [b] []:=by
 intro o os hc w0 L g hp w a r hx hrd _;obtain⟨t,x,lo,hi,mx,e,ho,hl1,hl2,hl3,rfl,hu,hn⟩:=Zp hc;obtain⟨lo,rfl⟩:∃z,lo=some z:=Option.isSome_iff_exists.1 hl1.symm;obtain⟨hi,rfl⟩:∃z,hi=some z:=Option.isSome_iff_exists.1 hl2.symm;obtain rfl:mx=none:=by cases mx<;>first|rfl|cases hl3
 obtain⟨d,d2,d3,_⟩:=hx;obtain⟨cb,p,cap,ec,hv,_⟩:=Q5 d;have hsz:=ZbX r ((hrd b (by simp)).trans hb) ec;rw[hv] at d;obtain⟨_,hc1,hc2,hcut⟩:=XM ec d;have hjc:j≤cap:=by
  rcases h3 with h3|⟨h3,h4⟩
  ·omega
  ·have:=Qcs r ((hrd b (by simp)).trans hb) h3 d;omega
 have hb:(Instr.sliceBounds true len cap (some (.int k i)) (some (.int k' j)) none).run P w=.ok (i.toNat,j.toNat,cap) w:=by
  simp only[Instr.sliceBounds,Sem.run_bind,Sem.run_pure,Result.andThen_ok,Xg k' j cap _ (by omega) (by omega),Xg k i j.toNat _ h1 (by omega)]
 rw[Ys ho hu hn hv (l:=i.toNat) (h:=j.toNat) (m:=cap) (by simpa[Xk d2,Xk d3] using hb)]
 grind [Out.here]
theorem QaW(ex:Bool)(sz b off len:Nat)(k k' k'':IntKind)(i j m:Int)(h1:0≤i)(h2:i≤j)(h3:j≤m)(h4:m≤len)(h0:Hp) :
  OpSem P GL (.sliceS sz true true true) [.sl b off len ex,.int k i,.int k' j,.int k'' m] h0 .junk [] []:=by
 intro o os hc w0 L g hp w a r hx hrd _;obtain⟨t,x,lo,hi,mx,e,ho,hl1,hl2,hl3,rfl,hu,hn⟩:=Zp hc;obtain⟨lo,rfl⟩:∃z,lo=some z:=Option.isSome_iff_exists.1 hl1.symm;obtain⟨hi,rfl⟩:∃z,hi=some z:=Option.isSome_iff_exists.1 hl2.symm;obtain⟨mx,rfl⟩:∃z,mx=some z:=Option.isSome_iff_exists.1 hl3.symm;obtain⟨d,d2,d3,d4,_⟩:=hx;obtain⟨cb,p,cap,ec,hv,_⟩:=Q5 d;rw[hv] at d;obtain⟨_,hc1,hc2,hcut⟩:=XM ec d;have hb:(Instr.sliceBounds true len cap (some (.int k i)) (some (.int k' j)) (some (.int k'' m))).run P w=.ok (i.toNat,j.toNat,m.toNat) w:=by
  simp only[Instr.sliceBounds,Sem.run_bind,Sem.run_pure,Result.andThen_ok,Xg k'' m cap _ (by omega) (by omega),Xg k' j m.toNat _ (by omega) (by omega),Xg k i j.toNat _ h1 (by omega)]
 rw[Ys ho hu hn hv (l:=i.toNat) (h:=j.toNat) (m:=m.toNat) (by grind [Xk])];exact Out.here r (.junk _ _)
theorem Ya1(sz:Nat)(x:AVal)(hx0:x=.nils∨x=.cap0∨(∃b o l e,x=.sl b o l e)∨∃e nn s rows,x=.rsl e nn s rows)(k k':IntKind)(h0:Hp) :
  OpSem P GL (.sliceS sz false true true) [x,.int k 0,.int k' 0] h0 .cap0 [] []:=by
 intro o os hc w0 L g hp w a r hx hrd _;obtain⟨t,y,lo,hi,mx,e,ho,hl1,hl2,hl3,rfl,hu,hn⟩:=Zp hc;obtain rfl:lo=none:=by cases lo<;>first|rfl|cases hl1
 obtain⟨hi,rfl⟩:∃z,hi=some z:=Option.isSome_iff_exists.1 hl2.symm;obtain⟨mx,rfl⟩:∃z,mx=some z:=Option.isSome_iff_exists.1 hl3.symm;obtain⟨d,d2,d3,_⟩:=hx;have hsh:∃p len cap,a.eval y=.slice p len cap:=by
  generalize hu1:a.eval y=u1 at d;rcases hx0 with rfl|rfl|⟨_,_,_,_,rfl⟩|⟨_,_,_,_,rfl⟩
  ·cases d; exact⟨_,_,_,rfl⟩
  ·cases d; exact⟨_,_,_,rfl⟩
  ·cases d<;>exact⟨_,_,_,rfl⟩
  ·cases d; exact⟨_,_,_,rfl⟩
 obtain⟨p,len,cap,hv⟩:=hsh;have hb:(Instr.sliceBounds true len cap none (some (.int k 0)) (some (.int k' 0))).run P w=.ok (0,0,0) w:=by
  rfl
 rw[Ys ho hu hn hv (l:=0) (h:=0) (m:=0) (by simpa[Xk d2,Xk d3] using hb)];exact Out.here r (.cap0 _ _)
end
theorem Yu{α:Type}{b:Bool}{x:Option α}{v:α}(h:(bif b then x else none)=some v):b=true∧x=some v:=by
 grind
theorem YG{α:Type}{b:Bool}{x y v:α}(h:(bif b then x else y)=v):(b=true∧x=v)∨(b=false∧y=v):=by
 grind
def X8:Bool→AVal→Bool
 |true,.str _=>true
 |false,.int _ _=>true
 |_,_=>false
theorem Ya5{s:Bool}{k:AVal}(h:X8 s k=true):KeyKind s k:=by
 cases s<;>cases k<;>simp_all [X8,KeyKind]
def rowsCell:List (List AVal)→Bool
 |[]=>true
 |r::rs=>r.all AVal.cell&&rowsCell rs
theorem YN:∀ {rs:List (List AVal)},rowsCell rs=true→∀row∈rs,∀x∈row,AVal.cell x=true
 |[],_,_,hm,_,_=>by cases hm
 |r::rs,h,row,hm,x,hx=>by
  simp only[rowsCell,Bool.and_eq_true] at h;cases hm with
  |head=>exact List.all_eq_true.1 h.1 x hx
  |tail _ hm=>exact YN h.2 row hm x hx
def Zq(sz:Nat)(σ:List ABlk):AVal→Option (List (List AVal)×List Nat)
 |.rsl _ _ s rows=>bif Nat.beq s sz then some (rows,[]) else none
 |.nils=>some ([],[])
 |.cap0=>some ([],[])
 |.sl b off len _=>match hget σ b with
  |.rows s rs=>bif Nat.beq s sz&&Nat.ble (off+len) rs.length then some (cut off (off+len) rs,[b]) else none
  |_=>none
 |_=>none
theorem YI{sz:Nat}{σ:List ABlk}{y:AVal}{ys:List (List AVal)}{rd:List Nat}(h:Zq sz σ y=some (ys,rd)):SrcIs (hp σ) sz y ys rd:=by
 unfold Zq at h;split at h
 ·replace h:=Yu h; obtain⟨hb,h⟩:=h
  have:=YNB hb; subst this;cases h; exact .row _ _ _
 ·cases h; exact .nils
 ·cases h; exact .cap0
 ·split at h
  ·rename_i hg
   replace h:=Yu h; obtain⟨hb,h⟩:=h
   simp only[Bool.and_eq_true] at hb;have:=YNB hb.1;subst this;cases h;exact .own _ _ _ _ _ (Yad hg (by simp)) (YNL hb.2)
  ·cases h
 ·cases h
def XaY:AVal→AVal
 |.rsl true _ _ []=>.cap0
 |x=>x
theorem XS(x:AVal)(g:Gm)(u:Value)(d:g.den x u):g.den (XaY x) u:=by
 unfold XaY;split
 ·obtain⟨p,cap,q1,_,q3⟩:=Z6 d;have:=q3 rfl;rw[q1,this];exact .cap0 _ _
 ·exact d
def YaS:AVal→Bool
 |.nils=>true
 |.cap0=>true
 |.sl ..=>true
 |.rsl ..=>true
 |_=>false
theorem Xay{x:AVal}(h:YaS x=true):x=.nils∨x=.cap0∨(∃b o l e,x=.sl b o l e)∨∃e nn sz rows,x=.rsl e nn sz rows:=by
 cases x<;>simp_all [YaS]
def mapOf(σ:List ABlk):AVal→Option (List (AVal×AVal)×List Nat)
 |.map b=>match hget σ b with
  |.map es=>some (es,[b])
  |_=>none
 |.rmap es=>some (es,[])
 |.nilmap=>some ([],[])
 |_=>none
theorem YcK{σ:List ABlk}{m:AVal}{es:List (AVal×AVal)}{rd:List Nat}(h:mapOf σ m=some (es,rd)):MapIs (hp σ) m es rd:=by
 unfold mapOf at h;split at h
 ·split at h
  ·rename_i hg; cases h; exact .own _ _ (YaL hg)
  ·cases h
 ·cases h; exact .row _
 ·cases h; exact .nil
 ·cases h
def Zk(xs:List AVal)(σ:List ABlk):SRes:=match xs with
  |[.bool true,x,_]=>.ok x [] []
  |[.bool false,_,y]=>.ok y [] []
  |_=>.stop
def Zj(sz:Nat)(xs:List AVal)(σ:List ABlk):SRes:=match xs with
  | [.rsl e n s rows,.int _ (.ofNat i)]=>bif Nat.beq s sz then (match nth rows i with
   |some row=>.ok (.rptr row 0) [] []
   | none=>.stop) else .stop
  | [.sl b o len _,.int _ (.ofNat i)]=>bif Nat.blt i len then (match hget σ b with
   |.rows s _=>bif Nat.beq s sz then .ok (.ptr b (o+i) 0) [b] [] else .stop
   | _=>.stop) else .stop
  |_=>.stop
def ZG(xs:List AVal)(σ:List ABlk):SRes:=match xs with
  |[.str s,.int _ (.ofNat i)]=>match nth s i with
   |some c=>.ok (.int .u8 c.toNat) [] []
   |none=>.stop
  |_=>.stop
def Qk(agg:Bool)(n:Nat)(xs:List AVal)(σ:List ABlk):SRes:=match xs with
  |[.ptr b i j]=>match hget σ b with
   |.rows _ rs=>match nth rs i with
    |some row=>match partA agg j n row with
     |some v=>.ok v [b] []
     |none=>.stop
    |none=>.stop
   |_=>.stop
  |xs=>mstep (.load agg n) xs σ
def ZH(n:Nat)(xs:List AVal)(σ:List ABlk):SRes:=match xs with
  |[.ptr b i j,x]=>match hget σ b with
   |.rows sz rs=>match nth rs i with
    |some row=>match cellsOf x with
     | some cs=>bif Nat.beq cs.length n then (match splice j cs row with
      |some row'=>match QK i row' rs with
       |some rs'=>.ok .junk [] [(b,.rows sz rs')]
       |none=>.stop
      | none=>.stop) else .stop
     |none=>.stop
    |none=>.stop
   |_=>.stop
  |xs=>mstep (.store n) xs σ
def Qt(sz:Nat)(xs:List AVal)(σ:List ABlk):SRes:=match xs with
  |[.rsl e n s rows,.int _ (.ofNat i)]=>bif Nat.beq s sz&&Nat.ble i rows.length then .ok (.rsl e n sz (cut i rows.length rows)) [] [] else .stop
  |[.sl b off len e,.int _ (.ofNat i)]=>match hget σ b with
   |.rows s _=>bif Nat.beq s sz then (bif Nat.blt i len then .ok (.sl b (off+i) (len-i) e) [b] [] else bif Nat.beq i len then (bif Nat.beq sz 3 then .ok (.sl b (off+len) 0 e) [b] [] else .ok (.rsl false (Nat.blt 0 len) sz []) [] []) else .stop) else .stop
   |_=>.stop
  |[.nils,.int _ (.ofNat 0)]=>.ok .nils [] []
  |_=>.stop
def XB(sz:Nat)(xs:List AVal)(σ:List ABlk):SRes:=match xs with
  |[.rsl e n s rows,.int _ (.ofNat i)]=>bif Nat.beq s sz&&Nat.ble i rows.length then .ok (.rsl false n sz (cut 0 i rows)) [] [] else .stop
  |[.sl b off len e,.int _ (.ofNat i)]=>match hget σ b with
   |.rows s _=>bif Nat.beq s sz&&Nat.ble i len then .ok (.sl b off i false) [b] [] else .stop
   |_=>.stop
  |[.nils,.int _ (.ofNat 0)]=>.ok .nils [] []
  |_=>.stop
def ZF(sz:Nat)(xs:List AVal)(σ:List ABlk):SRes:=match xs with
  |[.rsl e n s rows,.int _ (.ofNat i),.int _ (.ofNat j)]=>bif Nat.beq s sz&&(Nat.ble i j&&Nat.ble j rows.length) then .ok (.rsl false n sz (cut i j rows)) [] [] else .stop
  |[.sl b off len e,.int _ (.ofNat i),.int _ (.ofNat j)]=>match hget σ b with
   |.rows s rs=>bif Nat.beq s sz&&((Nat.blt i j||Nat.beq i 0)&&(Nat.ble j len||(!(Nat.beq sz 0)&&Nat.ble (off+j) rs.length))) then .ok (.sl b (off+i) (j-i) false) [b] [] else .stop
   |_=>.stop
  |_=>.stop
def ZA(xs:List AVal)(σ:List ABlk):SRes:=match xs with
  |[.str s,.int _ (.ofNat i),.int _ (.ofNat j)]=>bif Nat.ble i j&&Nat.ble j s.length then .ok (.str ((s.take j).drop i)) [] [] else .stop
  |_=>.stop
def Qu(xs:List AVal)(σ:List ABlk):SRes:=match xs with
  |[.str s,.int _ (.ofNat i)]=>bif Nat.ble i s.length then .ok (.str (s.drop i)) [] [] else .stop
  |_=>.stop
def Zv(xs:List AVal)(σ:List ABlk):SRes:=match xs with
  |[.str s,.int _ (.ofNat i)]=>bif Nat.ble i s.length then .ok (.str (s.take i)) [] [] else .stop
  |_=>.stop
def Z0(n:Nat)(by_:Nat)(z:List AVal)(xs:List AVal)(σ:List ABlk):SRes:=match xs with
  |[.int _ (.ofNat len)]=>bif Nat.ble (by_*len) (2 ^ 48)&&Nat.blt len (2 ^ 62) then .ok (.sl σ.length 0 len true) [] [(σ.length,.rows n (List.replicate len z))] else .stop
  |_=>.stop
def QL(n by_:Nat)(σ:List ABlk)(rs:List (List AVal))(kill:List (Nat×ABlk))(y:AVal):SRes:=match Zq n σ y with
 |some (ys,rd)=>bif rowsCell ys&&Nat.ble ((2*(rs.length+ys.length)+192)*by_) (2 ^ 48) then
   .ok (.sl σ.length 0 (rs.length+ys.length) false) rd (kill++[(σ.length,.rows n (rs++ys))]) else .stop
 |none=>.stop
def Zcc(n by_:Nat)(σ:List ABlk)(b off len:Nat)(rs:List (List AVal))(y:AVal):SRes:=match Zq n σ y with
 | some (ys,rd)=>bif rowsCell ys then (bif Nat.ble (off + len + ys.length) rs.length then .ok (.sl b off (len + ys.length) false) rd [(b,.rows n (over (off + len) ys rs))]
   else bif Nat.beq off 0&&(Nat.ble len rs.length&&(!(rd.contains b)&&Nat.ble ((2*(len+ys.length)+192)*by_) (2 ^ 48))) then
    .ok (.sl σ.length 0 (len + ys.length) false) rd [(b,.dead),(σ.length,.rows n (rs.take len ++ ys))] else .stop) else .stop
 |none=>.stop
def Ybz(n by_:Nat)(σ:List ABlk)(b len:Nat)(rs:List (List AVal))(y:AVal):SRes:=match Zq n σ y with
 | some (ys,rd)=>bif rowsCell ys && Nat.ble ((2 * (len + ys.length) + 192) * by_) (2 ^ 48) then (bif Nat.ble (len + ys.length) rs.length then .ok (.sl b 0 (len + ys.length) false) rd [(b,.full n (over len ys rs))]
   else bif Nat.ble len rs.length then .ok (.sl σ.length 0 (len + ys.length) false) (b :: rd) [(σ.length,.rows n (rs.take len ++ ys))] else .stop) else .stop
 |none=>.stop
def Qa7:List (List AVal)→Bool
 |[]=>true
 |r::rs=>roL r&&Qa7 rs
theorem Za8:∀ {rs:List (List AVal)},Qa7 rs=true→∀(i:Nat) (row:List AVal),rs[i]?=some row→∀(j:Nat) (x:AVal),row[j]?=some x→x.ro=true
 |r::rs,h,0,row,e,j,x,ex=>by
  simp at e; subst e;simp only[Qa7,Bool.and_eq_true] at h;have:∀(l:List AVal),roL l=true→∀(j:Nat) (x:AVal),l[j]?=some x→x.ro=true:=by
   intro l
   induction l<;>grind [roL]
  exact this _ h.1 j x ex
 |r::rs,h,i+1,row,e,j,x,ex=>by
  simp only[Qa7,Bool.and_eq_true] at h;exact Za8 h.2 i row (by simpa using e) j x ex
theorem Xa0{P:Program}{GL:Globs}(n by_:Nat)(z:List AVal)(nn:Bool)(y:AVal)(rs ys:List (List AVal))(rd:List Nat)(h0:Hp)(hy0:SrcIs h0 n y ys rd)(hro:Qa7 (rs++ys)=true)(hroom:(2*(rs.length+ys.length)+192)*by_≤2 ^ 48) :
  OpSem P GL (.append n by_ z) [.rsl true nn n rs,y] h0 (.rsl false false n (rs++ys)) rd []:=by
 intro o os hc w0 L g h w a r hx hrd _;generalize ho:o.op=op at hc;cases hc with
 |append t t' e ox oy _ _ v _ ht htd hsz hby hz hvs hcells hby0 hn0=>
  obtain⟨d,hd,hni⟩:=htd;obtain⟨d1,d2,_⟩:=hx;generalize hu1:a.eval ox=u1 at d1;generalize hu2:a.eval oy=u2 at d2;obtain⟨p1,cap1,oldv,e1,f1,ra1,_⟩:=QC (P:=P) (h0:=h0) r.drew (.row true nn rs) (λb hb=>by cases hb) d1;obtain⟨p2,cap2,newv,e2,f2,ra2,_⟩:=QC (P:=P) r hy0 hrd d2;obtain⟨p2',cap2',newv',e2',f2',ra2',_⟩:=QC (P:=P) r.drew hy0 hrd d2;have hlen2:(Builtin.lenOf u2).run P w=.ok ys.length w:=by rw[e2]; rfl
  have hcap:cap1=rs.length:=by
   rw[e1] at d1;cases d1<;>simp_all
  subst hcap;by_cases hys:ys=[]
  ·subst hys;have hnv:newv.toList=[]:=by have:=ra2.1; simp at this; simp[this]
   have hrun:(Builtin.append_ #[t,t'] o.type #[.slice p1 rs.length rs.length,u2]).run P w=.ok (.slice p1 rs.length rs.length) w:=by
    obtain⟨k1,k2⟩:=(XA ht hd hni hsz hby hz hby0 (base:=p1) (len:=rs.length) (cap:=rs.length) (newv:=newv) hlen2 o.type).1 (by simp) f2;cases p1 with
    |none=>exact k1 rfl
    |some ad=>exact k2 ad w rfl (by rw[hnv]; rfl)
   rw[YA ho (by rw[hu1]; exact e1) hu2 hrun];refine Out.here r ?_;rw[List.append_nil,←e1];cases d1 with
   |rsl _ _ _ _ _ a' cap blk off f q1 q2 q3 q4 q5 q6 q7 q8=>exact .rsl _ _ _ _ _ a' cap blk off f (λh=>by cases h) (λh=>by cases h) q3 q4 q5 q6 q7 q8
  ·have hpos:0<ys.length:=List.length_pos_iff.2 hys;obtain⟨nc,hnc,hrun⟩:=(XA ht hd hni hsz hby hz hby0 (base:=p1) (len:=rs.length) (cap:=rs.length) (newv:=newv') hlen2 o.type).2 (by omega) hroom oldv (by rw[←e1]; exact f1) f2';rw[YA ho (by rw[hu1]; exact e1) hu2 hrun];obtain⟨q1,q2⟩:=Y9 (c:=Builtin.zeroCells v.cells (nc-(rs.length+ys.length))) ra1 ra2';generalize harr:oldv++newv'++Builtin.zeroCells v.cells (nc-(rs.length+ys.length))=arr at q2;have hsize:(rs++ys).length*n≤arr.size:=by
    rw[←harr];simp only[Array.size_append,ra1.1,ra2'.1,List.length_append,Nat.add_mul];omega
   obtain⟨hle,hrep⟩:=r.drew.allocM (.cells arr e);refine⟨_,hle,hrep,?_⟩;have hl:rs.length+ys.length=(rs++ys).length:=(List.length_append).symm;rw[hl];refine .rsl _ _ _ _ _ _ nc w.heap.size 0 (λi j=>(arr[i*n+j]?).getD undef) (λh=>by cases h) (λh=>by cases h) (λ_=>rfl) (λh=>by cases h) (by rw[←hl]; exact hnc) q1 (λi j hi hj=>?_) (λi row j x e1' e2'=>?_)
   ·have hlt:i*n+j<arr.size:=by
     have:(i+1)*n≤(rs++ys).length*n:=Nat.mul_le_mul_right n hi;rw[Nat.succ_mul] at this; omega
    rw[Nat.zero_add];unfold mcell;have:mup g.M w.drew.heap.size (.cells arr e) w.heap.size=some (.cells arr e):=by simp[mup]
    grind
   ·have hi:i<(rs++ys).length:=(YLG e1').1;have hj:j<n:=by grind
    have hlt:i*n+j<arr.size:=by
     have:(i+1)*n≤(rs++ys).length*n:=Nat.mul_le_mul_right n hi;rw[Nat.succ_mul] at this; omega
    have hdn:=q2 i row j x arr[i*n+j] e1' e2' (by simp[hlt]);have:(arr[i*n+j]?).getD undef=arr[i*n+j]:=by simp[hlt]
    show Den _ _ x ((arr[i*n+j]?).getD undef);rw[this];exact(Den.mono hle.m hdn (CLe.refl _)).ro (Za8 hro i row e1' j x e2') _
def Yl(n:Nat)(by_:Nat)(xs:List AVal)(σ:List ABlk):SRes:=match xs with
  |[.rsl true false s rs,y]=>match Zq n σ y with
   |some (ys,rd)=>bif Nat.beq s n&&(Qa7 (rs++ys)&&Nat.ble ((2*(rs.length+ys.length)+192)*by_) (2 ^ 48)) then .ok (.rsl false false n (rs++ys)) rd [] else .stop
   |none=>.stop
  |[x,y]=>match XaY x with
   |.nils=>QL n by_ σ [] [] y
   |.cap0=>match Zq n σ y with
    |some ([],rd)=>bif YaS x then .ok x rd [] else .stop
    |_=>QL n by_ σ [] [] y
   |.sl b off len _=>match hget σ b with
    |.rows s rs=>bif Nat.beq s n then (bif Nat.beq rs.length (len+off) then QL n by_ σ (rs.drop off) [(b,.dead)] y else Zcc n by_ σ b off len rs y) else .stop
    |.full s rs=>bif Nat.beq s n&&Nat.beq off 0 then Ybz n by_ σ b len rs y else .stop
    |_=>.stop
   |x=>match Zq n σ y with
    |some ([],rd)=>bif YaS x then .ok x rd [] else .stop
    |_=>.stop
  |_=>.stop
def XT(n:Nat)(z:List AVal)(xs:List AVal)(σ:List ABlk):SRes:=match xs with
  |[.sl b off len _]=>match hget σ b with
   |.rows s rs=>bif Nat.beq s n&&Nat.ble (off+len) rs.length then .ok .junk [] [(b,.rows n (over off (List.replicate len z) rs))] else .stop
   |_=>.stop
  |[.nils]=>.ok .junk [] []
  |[.cap0]=>.ok .junk [] []
  |[.rsl _ _ _ []]=>.ok .junk [] []
  |_=>.stop
def QB(xs:List AVal)(σ:List ABlk):SRes:=match xs with
  |[.sl _ _ len _,.int _ (.ofNat i),.int _ (.ofNat j),.int _ (.ofNat m)]=>bif Nat.ble i j&&(Nat.ble j m&&Nat.ble m len) then .ok .junk [] [] else .stop
  |_=>.stop
def ZC(sz:Nat)(xs:List AVal)(σ:List ABlk):SRes:=match xs with
  | [x,.int _ (.ofNat i),.int _ (.ofNat j)]=>bif Nat.beq i 0 && Nat.beq j 0 then (bif YaS x then .ok .cap0 [] [] else .stop) else (match x with
   |.rsl _ nn s rows=>bif Nat.beq s sz&&(Nat.beq i j&&Nat.ble i rows.length) then .ok (.rsl true nn s (cut 0 i rows)) [] [] else .stop
   | _=>.stop)
  |_=>.stop
def Xr(str:Bool)(ok:Bool)(z:AVal)(xs:List AVal)(σ:List ABlk):SRes:=match xs with
  | [m,q]=>bif X8 str q then (match mapOf σ m with
   |some (es,rd)=>match alook q es with
    |some r=>.ok (lookV ok z r) rd []
    |none=>.stop
   | none=>.stop) else .stop
  |_=>.stop
def Xy(str:Bool)(xs:List AVal)(σ:List ABlk):SRes:=match xs with
  | [.map b,q,x]=>bif X8 str q then (match hget σ b with
   |.map es=>match aput q x es with
    |some es'=>.ok .junk [] [(b,.map es')]
    |none=>.stop
   | _=>.stop) else .stop
  |_=>.stop
def Xaa(xs:List AVal)(σ:List ABlk):SRes:=match xs with
  |[.iter b]=>match hget σ b with
   |.siter s pos=>bif Nat.blt pos s.length then .ok (.tup [.bool true,.int .i64 pos,.int .i32 (Utf8.decode ⟨s.toArray⟩ pos).1]) [] [(b,.siter s (pos+(Utf8.decode ⟨s.toArray⟩ pos).2))]
    else .ok (.tup [.bool false]) [b] []
   |_=>.stop
  |_=>.stop
def cstep(k:MK)(xs:List AVal)(σ:List ABlk):SRes:=
 match k with
 |.pick=>Zk xs σ
 |.idxAddrS sz=>Zj sz xs σ
 |.idxStr=>ZG xs σ
 |.load agg n=>Qk agg n xs σ
 |.store n=>ZH n xs σ
 |.sliceS sz true false false=>Qt sz xs σ
 |.sliceS sz false true false=>XB sz xs σ
 |.sliceS sz true true false=>ZF sz xs σ
 |.sliceS _ true true true=>QB xs σ
 |.sliceS sz false true true=>ZC sz xs σ
 |.clearS n z=>XT n z xs σ
 |.sliceStr true true=>ZA xs σ
 |.sliceStr true false=>Qu xs σ
 |.sliceStr false true=>Zv xs σ
 |.makeS n by_ z=>Z0 n by_ z xs σ
 |.append n by_ _=>Yl n by_ xs σ
 |.lookup str ok z=>Xr str ok z xs σ
 |.mapUpd str=>Xy str xs σ
 |.next=>Xaa xs σ
 |k=>mstep k xs σ
theorem Za9{α:Type}:∀ {l l':List α} {i:Nat} {c:α},QK i c l=some l'→l'=l.set i c
 |[],_,_,_,h=>by simp[QK] at h
 |x::l,l',0,c,h=>by simp[QK] at h; subst h; rfl
 |x::l,l',i+1,c,h=>by
  simp only[QK] at h;cases e:QK i c l with
  |none=>simp[e] at h
  |some r=>simp[e] at h; subst h; rw[Za9 e]; rfl
theorem Yz{σ:List ABlk}{b sz:Nat}{rs:List (List AVal)}(h:hget σ b=.rows sz rs):hp σ b=some (.rows sz rs):=Yad h (by simp)
theorem Qaw{P:Program}{GL:Globs}{n by_:Nat}{z:List AVal}{σ:List ABlk}{x:AVal}{rs:List (List AVal)}{kill:List (Nat×ABlk)}{y v:AVal}{rd:List Nat}{up:List (Nat×ABlk)}(hx:VecIs (hp σ) n x rs kill)(h:QL n by_ σ rs kill y=.ok v rd up):OpSem P GL (.append n by_ z) [x,y] (hp σ) v rd up:=by
 unfold QL at h;split at h
 ·rename_i hy
  replace h:=Xf h; obtain⟨hs,h⟩:=h
  simp only[Bool.and_eq_true] at hs
  grind [Qa8,Yak,YI,YN,YNL]
 ·cases h
theorem Ycc{P:Program}{GL:Globs}{n by_:Nat}{z:List AVal}{σ:List ABlk}{b off len:Nat}{ex:Bool}{rs:List (List AVal)}{y v:AVal}{rd:List Nat}{up:List (Nat×ABlk)}(hb:hp σ b=some (.rows n rs))(h:Zcc n by_ σ b off len rs y=.ok v rd up):OpSem P GL (.append n by_ z) [.sl b off len ex,y] (hp σ) v rd up:=by
 unfold Zcc at h;split at h
 ·rename_i hy
  replace h:=Xf h; obtain⟨hc,h⟩:=h
  replace h:=YG h
  rcases h with ⟨hs,h⟩|⟨_,h⟩
  ·grind [Qau,YI,YN,YNL]
  ·replace h:=Xf h; obtain⟨hs,h⟩:=h
   simp only[Bool.and_eq_true,Bool.not_eq_true'] at hs
   grind [YNB,Ya0,Yak,YNL,YI,YN]
 ·cases h
theorem Zb0{P:Program}{GL:Globs}{n by_:Nat}{z:List AVal}{σ:List ABlk}{b len:Nat}{ex:Bool}{rs:List (List AVal)}{y v:AVal}{rd:List Nat}{up:List (Nat×ABlk)}(hb:hp σ b=some (.full n rs))(h:Ybz n by_ σ b len rs y=.ok v rd up):OpSem P GL (.append n by_ z) [.sl b 0 len ex,y] (hp σ) v rd up:=by
 unfold Ybz at h;split at h
 ·rename_i ys rd' hy
  replace h:=Xf h; obtain⟨hc,h⟩:=h
  simp only[Bool.and_eq_true] at hc
  replace h:=YG h
  rcases h with ⟨hs,h⟩|⟨hs,h⟩
  ·cases h;exact QaV n by_ z y b len ex rs ys _ _ hb (YI hy) (YN hc.1) (YNL hs)
  ·replace h:=Xf h; obtain⟨hl,h⟩:=h
   cases h;have hq:¬len+ys.length≤rs.length:=λq=>by rw[Nat.ble_eq_true_of_le q] at hs; cases hs
   exact ZaW n by_ z y b len ex rs ys _ _ _ (Yak σ) hb (YI hy) (YN hc.1) (YNL hl) (Nat.lt_of_not_le hq) (YNL hc.2)
 ·cases h
theorem Qbz{P:Program}{GL:Globs}{n by_:Nat}{z:List AVal}{xs:List AVal}{σ:List ABlk}{v:AVal}{rd:List Nat}{up:List (Nat×ABlk)}(h:Yl n by_ xs σ=.ok v rd up):OpSem P GL (.append n by_ z) xs (hp σ) v rd up:=by
 unfold Yl at h;split at h
 ·split at h
  ·rename_i hy
   replace h:=Xf h; obtain⟨hs,h⟩:=h
   simp only[Bool.and_eq_true] at hs
   grind [YNB,Xa0,YI,YNL]
  ·cases h
 ·rename_i x y _;split at h
  ·rename_i hx; refine OpSem.weak (XS x) ?_; rw[hx]; exact Qaw .nils h
  ·rename_i hx;split at h
   ·rename_i hy
    replace h:=Xf h; grind [Xaf,Xay,YI]
   ·refine OpSem.weak (XS x) ?_; rw[hx]; exact Qaw .cap0 h
  ·rename_i b off len ex hx;refine OpSem.weak (XS x) ?_;rw[hx];split at h
   ·rename_i s rs hg
    replace h:=Xf h; obtain⟨hs,h⟩:=h
    have:=YNB hs; subst this
    replace h:=YG h
    rcases h with ⟨hq,h⟩|⟨_,h⟩
    ·exact Qaw (.own _ _ _ _ _ (Yz hg) ((YNB hq).trans (Nat.add_comm _ _))) h
    ·exact Ycc (Yz hg) h
   ·rename_i s rs hg
    replace h:=Xf h; obtain⟨hs,h⟩:=h
    simp only[Bool.and_eq_true] at hs;have h1:=YNB hs.1;have h2:=YNB hs.2;subst h1; subst h2;exact Zb0 (Yad hg (by simp)) h
   ·cases h
  ·refine OpSem.weak (XS x) ?_;split at h
   ·rename_i hy
    replace h:=Xf h; grind [Xaf,Xay,YI]
   ·cases h
 ·cases h
theorem Qb0{P:Program}{GL:Globs}{n:Nat}{z:List AVal}{xs:List AVal}{σ:List ABlk}{v:AVal}{rd:List Nat}{up:List (Nat×ABlk)}(h:XT n z xs σ=.ok v rd up):OpSem P GL (.clearS n z) xs (hp σ) v rd up:=by
 unfold XT at h;split at h
 ·split at h
  ·rename_i hg
   replace h:=Xf h; obtain⟨hs,h⟩:=h
   simp only[Bool.and_eq_true] at hs
   grind [YNB,Qcv,Yz,YNL]
  ·cases h
 ·cases h; exact Y2 _ _ _ _ (.inl rfl)
 ·cases h; simp[Y2]
 ·cases h; simp[Y2]
 ·cases h
theorem Qbl{P:Program}{GL:Globs}{n:Nat}{xs:List AVal}{σ:List ABlk}{v:AVal}{rd:List Nat}{up:List (Nat×ABlk)}(h:QB xs σ=.ok v rd up):OpSem P GL (.sliceS n true true true) xs (hp σ) v rd up:=by
 unfold QB at h;split at h
 ·replace h:=Xf h; obtain⟨hs,h⟩:=h
  simp only[Bool.and_eq_true] at hs;cases h<;>simp_all [QaW]
 ·cases h
theorem Zbm{P:Program}{GL:Globs}{n:Nat}{xs:List AVal}{σ:List ABlk}{v:AVal}{rd:List Nat}{up:List (Nat×ABlk)}(h:ZC n xs σ=.ok v rd up):OpSem P GL (.sliceS n false true true) xs (hp σ) v rd up:=by
 unfold ZC at h;split at h
 ·rename_i x k i k' j
  replace h:=YG h
  rcases h with ⟨hq,h⟩|⟨_,h⟩
  ·simp only[Bool.and_eq_true] at hq;have h1:=YNB hq.1;have h2:=YNB hq.2;subst h1; subst h2
   replace h:=Xf h; grind [Ya1,Xay]
  ·split at h
   ·replace h:=Xf h; obtain⟨hs,h⟩:=h
    simp only[Bool.and_eq_true] at hs;have h1:=YNB hs.1;have h2:=YNB hs.2.1;subst h1; subst h2;cases h;exact Qa0 _ _ _ _ _ _ (Int.ofNat i) (Int.natCast_nonneg _) (Int.ofNat_le.2 (YNL hs.2.2)) _
   ·cases h
 ·cases h
theorem YC{P:Program}{GL:Globs}:StepOk P GL cstep:=by
 intro k xs σ v rd up h;unfold cstep at h;simp only[Zk,Zj,ZG,Qk,ZH,Qt,XB,ZF,ZA,Qu,Zv,Z0,Xr,Xy,Xaa] at h;split at h
 ·split at h
  ·cases h; exact Qb9 _ _ _
  ·cases h; exact Zca _ _ _
  ·cases h
 ·split at h
  ·replace h:=Xf h; obtain⟨hs,h⟩:=h
   have:=YNB hs; subst this;split at h
   ·rename_i hn; cases h; rw[X5] at hn; exact QaH _ _ _ _ _ _ _ (Int.natCast_nonneg _) hn _
   ·cases h
  ·replace h:=Xf h; obtain⟨hlt,h⟩:=h
   split at h
   ·rename_i hg
    replace h:=Xf h; obtain⟨hs,h⟩:=h
    have:=YNB hs; subst this;cases h;exact XaH _ _ _ _ _ _ _ _ (Int.natCast_nonneg _) (Int.ofNat_lt.2 (YNL hlt)) _ (Yz hg)
   ·cases h
  ·cases h
 ·split at h
  ·split at h
   ·rename_i hn; cases h; rw[X5] at hn; exact Yb8 _ _ _ _ (Int.natCast_nonneg _) hn _
   ·cases h
  ·cases h
 ·split at h
  ·split at h
   ·rename_i hg;split at h
    ·rename_i hn;split at h
     ·rename_i hv; cases h; rw[X5] at hn; exact Zbj _ _ _ _ _ _ _ _ _ _ (Yz hg) hn hv
     ·cases h
    ·cases h
   ·cases h
  ·exact Xam h
 ·split at h
  ·split at h
   ·rename_i hg;split at h
    ·rename_i hn;split at h
     ·rename_i hc
      replace h:=Xf h; obtain⟨hl,h⟩:=h
      split at h
      ·rename_i hs;split at h
       ·rename_i hst;cases h;rw[X5] at hn;exact Xa1 _ _ _ _ _ _ _ _ _ _ _ _ (Yz hg) hn hc (YNB hl) hs (Za9 hst)
       ·cases h
      ·cases h
     ·cases h
    ·cases h
   ·cases h
  ·exact Xam h
 ·split at h
  ·replace h:=Xf h; obtain⟨hs,h⟩:=h
   simp only[Bool.and_eq_true] at hs;have:=YNB hs.1; subst this;cases h;exact Qbw _ _ _ _ _ _ (Int.natCast_nonneg _) (Int.ofNat_le.2 (YNL hs.2)) _
  ·split at h
   ·rename_i hg
    replace h:=Xf h; obtain⟨hs,h⟩:=h
    have:=YNB hs; subst this
    replace h:=YG h; rcases h with ⟨hlt,h⟩|⟨_,h⟩
    ·cases h;exact YaI _ _ _ _ _ _ _ _ (Int.natCast_nonneg _) (Int.ofNat_lt.2 (YNL hlt)) _ (Yz hg)
    ·replace h:=Xf h; obtain⟨he,h⟩:=h
     have:=YNB he;subst this
     replace h:=YG h; rcases h with ⟨h3,h⟩|⟨_,h⟩
     ·cases h;have:=YNB h3;exact Yav _ _ _ _ _ _ _ _ rfl (by omega) _ (Yz hg)
     ·cases h;exact YaB _ _ _ _ _ _ _ rfl _
   ·cases h
  ·cases h; exact ZaB _ _ _
  ·cases h
 ·split at h
  ·replace h:=Xf h; obtain⟨hs,h⟩:=h
   simp only[Bool.and_eq_true] at hs;have:=YNB hs.1; subst this;cases h;exact Xbw _ _ _ _ _ _ (Int.natCast_nonneg _) (Int.ofNat_le.2 (YNL hs.2)) _
  ·split at h
   ·rename_i hg
    replace h:=Xf h; obtain⟨hs,h⟩:=h
    simp only[Bool.and_eq_true] at hs;have:=YNB hs.1; subst this;cases h;exact ZaI _ _ _ _ _ _ _ _ (Int.natCast_nonneg _) (Int.ofNat_le.2 (YNL hs.2)) _ (Yz hg)
   ·cases h
  ·cases h; exact QaA _ _ _
  ·cases h
 ·split at h
  ·replace h:=Xf h; obtain⟨hs,h⟩:=h
   simp only[Bool.and_eq_true] at hs;have:=YNB hs.1; subst this;cases h;exact Za1 _ _ _ _ _ _ _ _ (Int.natCast_nonneg _) (Int.ofNat_le.2 (YNL hs.2.1)) (Int.ofNat_le.2 (YNL hs.2.2)) _
  ·split at h
   ·rename_i hg
    replace h:=Xf h; obtain⟨hs,h⟩:=h
    simp only[Bool.and_eq_true,Bool.or_eq_true] at hs;have:=YNB hs.1; subst this;cases h;refine Zav _ _ _ _ _ _ _ _ _ _ (Int.natCast_nonneg _) ?_ ?_ _ (Yz hg)
    ·rcases hs.2.1 with q|q
     ·exact .inl (Int.ofNat_lt.2 (YNL q))
     ·have:=YNB q; subst this; exact .inr ⟨rfl,Int.natCast_nonneg _⟩
    ·rcases hs.2.2 with q|q
     ·exact .inl (Int.ofNat_le.2 (YNL q))
     ·simp only[Bool.and_eq_true,Bool.not_eq_true'] at q;exact .inr ⟨(λe0=>by rw[e0] at q; cases q.1),YNL q.2⟩
   ·cases h
  ·cases h
 ·exact Qbl h
 ·exact Zbm h
 ·exact Qb0 h
 ·split at h
  ·replace h:=Xf h; obtain⟨hs,h⟩:=h
   simp only[Bool.and_eq_true] at hs;cases h;exact Ybw _ _ _ _ _ (Int.natCast_nonneg _) (Int.ofNat_le.2 (YNL hs.1)) (Int.ofNat_le.2 (YNL hs.2)) _
  ·cases h
 ·split at h
  ·replace h:=Xf h; obtain⟨hs,h⟩:=h
   cases h;exact XaW _ _ _ (Int.natCast_nonneg _) (Int.ofNat_le.2 (YNL hs)) _
  ·cases h
 ·split at h
  ·replace h:=Xf h; obtain⟨hs,h⟩:=h
   cases h;exact YaW _ _ _ (Int.natCast_nonneg _) (Int.ofNat_le.2 (YNL hs)) _
  ·cases h
 ·split at h
  ·replace h:=Xf h; obtain⟨hs,h⟩:=h
   simp only[Bool.and_eq_true] at hs;cases h;exact Xcw _ _ _ _ _ (YNL hs.1) (YNL hs.2) _ _ (Yak σ)
  ·cases h
 ·exact Qbz h
 ·split at h
  ·replace h:=Xf h; obtain⟨hs,h⟩:=h
   split at h
   ·rename_i hm;split at h
    ·rename_i hl; cases h; exact Zb9 _ _ _ _ _ _ _ _ _ (YcK hm) (Ya5 hs) hl
    ·cases h
   ·cases h
  ·cases h
 ·split at h
  ·replace h:=Xf h; obtain⟨hs,h⟩:=h
   split at h
   ·rename_i hm;split at h
    ·rename_i hl; cases h; exact Yb9 _ _ _ _ _ _ _ (YaL hm) (Ya5 hs) hl
    ·cases h
   ·cases h
  ·cases h
 ·split at h
  ·split at h
   ·rename_i hg
    replace h:=YG h; rcases h with ⟨hlt,h⟩|⟨hlt,h⟩
    ·cases h;exact(XbY _ _ _ _ (Yad hg (by simp))).1 (YNL hlt)
    ·cases h;refine(XbY _ _ _ _ (Yad hg (by simp))).2 ?_;exact Nat.le_of_not_lt (λq=>by rw[show Nat.blt _ _=true from Nat.ble_eq_true_of_le q] at hlt; cases hlt)
   ·cases h
  ·cases h
 ·exact Xam h
def holdB:List (Bool×Bool)→Bool
 |[]=>true
 |(true,true)::r=>holdB r
 |(false,false)::r=>holdB r
 |_=>false
def Qaj:Cons→Bool
 |[]=>true
 | (G,(x,y)) :: r=>(bif holdB G then (match x,y with
  |true,true=>true
  |false,false=>true
  | _,_=>false) else holdNot G || false) && Qaj r
where holdNot:List (Bool×Bool)→Bool
 |[]=>false
 |(true,false)::_=>true
 |(false,true)::_=>true
 |_::r=>holdNot r
theorem Qax:∀ {c:List (Bool×Bool)},Qaj.holdNot c=true→¬Hold c
 |[],h=>by simp[Qaj.holdNot] at h
 |(true,false)::r,h=>λq=>by have:=q _ (List.mem_cons_self ..); cases this
 |(false,true)::r,h=>λq=>by have:=q _ (List.mem_cons_self ..); cases this
 |(true,true)::r,h=>λq=>Qax (c:=r) h (λp hp=>q p (List.mem_cons_of_mem _ hp))
 |(false,false)::r,h=>λq=>Qax (c:=r) h (λp hp=>q p (List.mem_cons_of_mem _ hp))
theorem Yj{H:Prop}:∀(xs:List AVal),All2 (Unw H) xs xs
 |[]=>trivial
 |x::xs=>⟨.inl rfl,Yj xs⟩
end Go.Ah
end
section
namespace Go.Ah
def Loc(P:Program)(GL:Globs)(m:MOper)(ρ:Frame)(h0:Hp)(v:AVal)(rd:List Nat)(up:List (Nat×ABlk)):Prop:=
 ∀(n:Nat) (ops:Array Oper) (o:Oper),OperOk P GL n ops o m→∀(ρ':Frame) (h:Hp) (w0:World) (L:Ln) (g:Gm) (w:World) (a:Act),
  (∀t∈usesT m,fget ρ' t=fget ρ t)→(∀b∈rd,h b=h0 b)→(∀p∈up,h p.1=h0 p.1)→Rep GL w0 L g h w→DenF n g ρ' a →
  ∀(next:Act→World→Prop) (Q:Exit→Act→World→Prop),(∀g' w' u,g.Le g'→Rep GL w0 L g' (hups h up) w'→DenF n g' (putF m.dst v ρ') (a.put o.dst u)→next (a.put o.dst u) w') →
   if Region.wanted o (yielded ops a.tmps) then o.wp P a w next Q∨(o.asks P a w∧LetsOut Q) else next (a.put o.dst undef) w
section
variable {P:Program} {GL:Globs}
theorem QbC{m:MOper}{ρ ρ':Frame}(h:∀t∈usesT m,fget ρ' t=fget ρ t):m.xs.map (ev ρ')=m.xs.map (ev ρ):=by
 apply List.map_congr_left;intro x hx;cases x with
 |t n=>exact h n (List.mem_append.2 (.inl (List.mem_filterMap.2 ⟨.t n,hx,rfl⟩)))
 |c v=>rfl
theorem Q4{m:MOper}{ρ ρ':Frame}(h:∀t∈usesT m,fget ρ' t=fget ρ t){cs:List (Bool×Bool)}(hg:GuardIs ρ m.guard cs):GuardIs ρ' m.guard cs:=by
 unfold usesT at h;generalize m.guard=gd at hg h;cases hg with
 |none=>exact .none
 |bool s w c e=>exact .bool s w c (by rw[h s (by simp)]; exact e)
 |when s w c cs e=>exact .when s w c cs (by rw[h s (by simp)]; exact e)
theorem QbJ{m:MOper}{ρ:Frame}{σ:List ABlk}{lg:Log}{K:Frame→List ABlk→Log→Prop}(s:StepR true P GL m ρ σ lg K) :
  ∃v rd up σ',upL σ up=some σ'∧K (putF m.dst v ρ) σ' (lg++[(rd,up.map (·.1))])∧Loc P GL m ρ (hp σ) v rd up:=by
 cases s with
 |run cs ys v rd up σ' h1 h2 h3 h4 h5 h6=>
  refine⟨v,rd,up,σ',h5,h6,?_⟩;intro n ops o ok ρ' h w0 L g w a hu hrd hup r d next Q hn;obtain⟨os,hcomp,hos⟩:=ok.op;have hops:=Zau r d hos;rw[if_pos ((Xn ok d (Q4 hu h1)).1 h2)];left;have hden:=Xaj trivial h3 (by rw[←QbC hu]; exact hops);have ho:=h4 o os hcomp w0 L g h w a r hden hrd hup;refine ho.upon (λg' u w' hle hr hu=>hn g' w' u hle hr ?_);rw[ok.dst];exact(d.mono hle).putF ok.lt hu
 |skip cs h1 h2 h3=>
  refine⟨.junk,[],[],σ,rfl,h3,?_⟩;intro n ops o ok ρ' h w0 L g w a hu hrd hup r d next Q hn;rw[if_neg (by grind [Xn,Q4])];refine hn g w undef (Gm.Le.refl g) r ?_;rw[ok.dst];exact d.putF ok.lt (.junk _ _)
 |lazy cs ys v rd h1 h2 h3 h4=>
  refine⟨.when cs v,rd,[],σ,rfl,h4,?_⟩;intro n ops o ok ρ' h w0 L g w a hu hrd hup r d next Q hn;obtain⟨os,hcomp,hos⟩:=ok.op;have hops:=Zau r d hos;by_cases hh:Hold cs
  ·rw[if_pos ((Xn ok d (Q4 hu h1)).1 hh)];left;have hden:=Xaj hh h2 (by rw[←QbC hu]; exact hops);have ho:=h3 hh o os hcomp w0 L g h w a r hden hrd hup;refine ho.upon (λg' u w' hle hr hu=>hn g' w' u hle hr ?_);rw[ok.dst];exact(d.mono hle).putF ok.lt (.when _ _ _ _ (λ_=>hu) (λh=>(h hh).elim))
  ·rw[if_neg (by grind [Xn,Q4])];refine hn g w undef (Gm.Le.refl g) r ?_;rw[ok.dst];exact d.putF ok.lt (.when _ _ _ _ (λh=>(hh h).elim) (λ_=>rfl))
 |pick cs x y z c p q v h1 hk hxs hx hy hz hv h8=>
  refine⟨v,[],[],σ,rfl,h8,?_⟩;intro n ops o ok ρ' h w0 L g w a hu hrd hup r d next Q hn;obtain⟨os,hcomp,hos⟩:=ok.op;have hops:=Zau r d hos;rw[QbC hu,hxs] at hops;have h1':=Q4 hu h1;have hcomp':=hcomp;rw[hk] at hcomp';generalize hop:o.op=op at hcomp';cases hcomp' with
  |pick oc oa ob=>
   obtain⟨d1,d2,d3,_⟩:=hops;by_cases hh:Hold cs
   ·rw[if_pos ((Xn ok d h1').1 hh)];left;have e1:=Xw (Qao hh hx d1);have hres:g.den (.bool (bif c then p else q)) (if c then a.eval oa else a.eval ob):=by
     cases c
     ·exact Qao ⟨hh,rfl⟩ hz d3
     ·exact Qao ⟨hh,rfl⟩ hy d2
    have hrun:(execOp a.eval o).run P w=.ok (.value (if c then a.eval oa else a.eval ob)) w:=by
     simp_all [execOp,asBool]
    unfold Oper.wp;rw[hrun];refine hn g _ _ (Gm.Le.refl g) r ?_;rw[ok.dst];rcases hv with rfl|⟨rfl,rfl⟩
    ·exact d.putF ok.lt (.when _ _ _ _ (λ_=>hres) (λh=>(h hh).elim))
    ·exact d.putF ok.lt hres
   ·rw[if_neg (by rw[(Xn ok d h1').2 hh]; simp)];refine hn g _ _ (Gm.Le.refl g) r ?_;rw[ok.dst];rcases hv with rfl|⟨rfl,rfl⟩
    ·exact d.putF ok.lt (.when _ _ _ _ (λh=>(hh h).elim) (λ_=>rfl))
    ·exact(hh (by simp[Hold])).elim
 |rel cs ys R h0=>cases h0
structure TS where
 v:AVal
 rd:List Nat
 up:List (Nat×ABlk)
def Tr(P:Program)(GL:Globs):List MOper→List TS→Frame→List ABlk→Log→(Frame→List ABlk→Log→Prop)→Prop
 |[],[],ρ,σ,lg,Q=>Q ρ σ lg
 |m::ms,t::ts,ρ,σ,lg,Q=>Loc P GL m ρ (hp σ) t.v t.rd t.up∧∃σ',upL σ t.up=some σ'∧Tr P GL ms ts (putF m.dst t.v ρ) σ' (lg++[(t.rd,t.up.map (·.1))]) Q
 |_,_,_,_,_,_=>False
theorem QaX:∀(ms:List MOper) (ρ:Frame) (σ:List ABlk) (lg:Log) (Q:Frame→List ABlk→Log→Prop),AwpR true P GL ms ρ σ lg Q→∃ts,Tr P GL ms ts ρ σ lg Q
 |[],ρ,σ,lg,Q,h=>⟨[],h⟩
 |m::ms,ρ,σ,lg,Q,h=>by
  obtain⟨v,rd,up,σ',h1,h2,h3⟩:=QbJ h;obtain⟨ts,ht⟩:=QaX ms _ _ _ Q h2;exact⟨⟨v,rd,up⟩::ts,h3,σ',h1,ht⟩
def frS(S:Nat→Bool):Nat→List MOper→List TS→Frame→Frame
 |i,m::ms,t::ts,ρ=>frS S (i+1) ms ts (if S i then putF m.dst t.v ρ else ρ)
 |_,_,_,ρ=>ρ
def hpS(S:Nat→Bool):Nat→List TS→Hp→Hp
 |i,t::ts,h=>hpS S (i+1) ts (if S i then hups h t.up else h)
 |_,_,h=>h
theorem YO{S S':Nat→Bool}{t:Nat}:∀(ms:List MOper) (ts:List TS) (i:Nat) (ρ ρ':Frame),(∀(k:Nat) (m:MOper),ms[k]?=some m→m.dst=some t→S (i+k)=S' (i+k))→fget ρ t=fget ρ' t→fget (frS S i ms ts ρ) t=fget (frS S' i ms ts ρ') t
 |[],_,_,_,_,_,h=>by simpa[frS] using h
 |_::_,[],_,_,_,_,h=>by simpa[frS] using h
 |m::ms,x::ts,i,ρ,ρ',hs,h=>by
  simp only[frS];refine YO ms ts (i+1) _ _ (λk m' e1 e2=>by have:=hs (k+1) m' (by simpa using e1) e2; grind) ?_;by_cases hd:m.dst=some t
  ·have:=hs 0 m rfl hd;rw[Nat.add_zero] at this
   grind [XV]
  ·have e1:∀(b:Bool) (r:Frame),fget (if b then putF m.dst x.v r else r) t=fget r t:=by simp_all [XV]
   rw[e1,e1,h]
theorem Zbg:∀(up:List (Nat×ABlk)) (h h':Hp) (b:Nat),b∈up.map (·.1)→hups h up b=hups h' up b
 |[],_,_,_,e=>by cases e
 |(a,x)::up,h,h',b,e=>by
  by_cases hb:b∈up.map (·.1)
  ·exact Zbg up _ _ b hb
  ·have:b=a:=by simp_all
   subst this;have out:∀(up:List (Nat×ABlk)) (h:Hp),b∉up.map (·.1)→hups h up b=h b:=by
    intro up
    induction up<;>simp_all [hups,Xl]
   simp_all [hups,Ym]
theorem XaL:∀(up:List (Nat×ABlk)) (h:Hp) (b:Nat),b∉up.map (·.1)→hups h up b=h b
 |[],_,_,_=>rfl
 |(a,x)::up,h,b,hn=>by
  simp only[List.map_cons,List.mem_cons,not_or] at hn;show hups (hup h a x) up b=h b;rw[XaL up _ b hn.2,Xl _ _ hn.1]
theorem QO{S S':Nat→Bool}{b:Nat}:∀(ts:List TS) (i:Nat) (h h':Hp),(∀(k:Nat) (t:TS),ts[k]?=some t→b∈t.up.map (·.1)→S (i+k)=S' (i+k))→h b=h' b→hpS S i ts h b=hpS S' i ts h' b
 |[],_,_,_,_,h=>by simpa[hpS] using h
 |x::ts,i,h,h',hs,e=>by
  simp only[hpS];refine QO ts (i+1) _ _ (λk t e1 e2=>by have:=hs (k+1) t (by simpa using e1) e2; grind) ?_;by_cases hd:b∈x.up.map (·.1)
  ·have:=hs 0 x rfl hd;rw[Nat.add_zero] at this
   grind [Zbg]
  ·have e1:∀(c:Bool) (r:Hp),(if c then hups r x.up else r) b=r b:=by simp_all [XaL]
   rw[e1,e1,e]
theorem Xbe{S:Nat→Bool}{t:Nat}:∀(ms:List MOper) (ts:List TS) (i:Nat) (ρ:Frame) (j:Nat) (m:MOper) (x:TS),ms[j]?=some m→ts[j]?=some x→m.dst=some t→S (i+j)=true →
  (∀(k:Nat) (m':MOper),ms[k]?=some m'→m'.dst=some t→S (i+k)=true→k≤j)→fget (frS S i ms ts ρ) t=x.v
 |m::ms,x::ts,i,ρ,0,m0,x0,e1,e2,e3,e4,hl=>by
  simp at e1 e2; subst e1 e2;rw[Nat.add_zero] at e4;simp only[frS,e4,if_true];have:=YO (S:=S) (S':=λ_=>false) (t:=t) ms ts (i + 1) (putF m.dst x.v ρ) (putF m.dst x.v ρ) (λk m' q1 q2=>by
   cases hS:S (i+1+k) with
   |false=>rfl
   | true=>have:=hl (k + 1) m' (by simpa using q1) q2 (by grind); omega) rfl
  rw[this];have hid:∀(ms:List MOper) (ts:List TS) (i:Nat) (ρ:Frame),frS (λ_=>false) i ms ts ρ=ρ:=by
   intro ms
   induction ms with
   |nil=>intros; simp[frS]
   |cons m ms ih=>intro ts i ρ; cases ts<;>simp_all [frS]
  rw[hid,XV,if_pos e3]
 |m::ms,x::ts,i,ρ,j+1,m0,x0,e1,e2,e3,e4,hl=>by
  simp only[frS];exact Xbe ms ts (i + 1) _ j m0 x0 (by simpa using e1) (by simpa using e2) e3 (by rwa [show i + 1 + j=i + (j + 1) by omega]) (λk m' q1 q2 q3=>by
   have:=hl (k + 1) m' (by simpa using q1) q2 (by rwa [show i + (k + 1)=i + 1 + k by omega]); omega)
 |[],_,_,_,_,_,_,e1,_,_,_,_=>by simp at e1
 |_::_,[],_,_,_,_,_,_,e2,_,_,_=>by simp at e2
theorem Qbf{S:Nat→Bool}{b:Nat}:∀(ts:List TS) (i:Nat) (h:Hp) (j:Nat) (x:TS),ts[j]?=some x→b∈x.up.map (·.1)→S (i+j)=true →
  (∀(k:Nat) (x':TS),ts[k]?=some x'→b∈x'.up.map (·.1)→S (i+k)=true→k≤j)→∀h':Hp,hpS S i ts h b=hups h' x.up b
 |x::ts,i,h,0,x0,e2,e3,e4,hl,h'=>by
  simp at e2; subst e2;rw[Nat.add_zero] at e4;simp only[hpS,e4,if_true];have:=QO (S:=S) (S':=λ_=>false) (b:=b) ts (i + 1) (hups h x.up) (hups h' x.up) (λk m' q1 q2=>by
   cases hS:S (i+1+k) with
   |false=>rfl
   | true=>have:=hl (k + 1) m' (by simpa using q1) q2 (by grind); omega) (Zbg _ _ _ _ e3)
  rw[this];have hid:∀(ts:List TS) (i:Nat) (h:Hp),hpS (λ_=>false) i ts h=h:=by
   intro ts
   induction ts<;>grind [hpS]
  rw[hid]
 |x::ts,i,h,j+1,x0,e2,e3,e4,hl,h'=>by
  simp only[hpS];exact Qbf ts (i + 1) _ j x0 (by simpa using e2) e3 (by rwa [show i + 1 + j=i + (j + 1) by omega]) (λk m' q1 q2 q3=>by
   have:=hl (k + 1) m' (by simpa using q1) q2 (by rwa [show i + (k + 1)=i + 1 + k by omega]); omega) h'
 |[],_,_,_,_,e2,_,_,_,_=>by simp at e2
theorem ZcD:∀(ms:List MOper) (ts:List TS) (i:Nat) (ρ:Frame) (σ:List ABlk) (lg:Log) (Q:Frame→List ABlk→Log→Prop),Tr P GL ms ts ρ σ lg Q →
  ts.length=ms.length ∧
  (∀(j:Nat) (m:MOper) (x:TS),ms[j]?=some m→ts[j]?=some x→∃ρ',(∀t,fget ρ' t=fget (frS (λk=>decide (k<i+j)) i ms ts ρ) t)∧Loc P GL m ρ' (hpS (λk=>decide (k<i+j)) i ts (hp σ)) x.v x.rd x.up) ∧
  ∃ρ' σ',(∀t,fget ρ' t=fget (frS (λ_=>true) i ms ts ρ) t)∧hp σ'=hpS (λ_=>true) i ts (hp σ)∧Q ρ' σ' (lg++ts.map λx=>(x.rd,x.up.map (·.1)))
 |[],[],i,ρ,σ,lg,Q,h=>⟨rfl,by simp,ρ,σ,by simp[frS],by simp[hpS],by simpa[Tr] using h⟩
 |[],_::_,_,_,_,_,_,h=>h.elim
 |_::_,[],_,_,_,_,_,h=>h.elim
 |m::ms,x::ts,i,ρ,σ,lg,Q,h=>by
  obtain⟨h1,σ',h2,h3⟩:=h;obtain⟨k1,k2,ρ2,σ2,k3,k4,k5⟩:=ZcD ms ts (i+1) _ _ _ _ h3;have hu:=Xaw _ _ _ h2;refine⟨by simp[k1],λj m' x' e1 e2=>?_,ρ2,σ2,λt=>by rw[k3 t]; simp[frS],by simp_all [hpS],by simpa[List.append_assoc] using k5⟩;cases j with
  |zero=>
   simp at e1 e2; subst e1 e2;have hf:∀t,fget ρ t=fget (frS (λk=>decide (k<i+0)) i (m::ms) (x::ts) ρ) t:=by
    intro t;have:=YO (S:=λk=>decide (k<i+0)) (S':=λ_=>false) (t:=t) (m::ms) (x::ts) i ρ ρ (λk _ _ _=>by simp) rfl;rw[this];have hid:∀(ms:List MOper) (ts:List TS) (i:Nat) (ρ:Frame),frS (λ_=>false) i ms ts ρ=ρ:=by
     intro ms
     induction ms with
     |nil=>intros; simp[frS]
     |cons m ms ih=>intro ts i ρ; cases ts<;>simp_all [frS]
    rw[hid]
   have hh:hpS (λk=>decide (k<i+0)) i (x::ts) (hp σ)=hp σ:=by
    funext b
    have:=QO (S:=λk=>decide (k<i+0)) (S':=λ_=>false) (b:=b) (x::ts) i (hp σ) (hp σ) (λk _ _ _=>by simp) rfl;rw[this];have hid:∀(ts:List TS) (i:Nat) (h:Hp),hpS (λ_=>false) i ts h=h:=by
     intro ts
     induction ts<;>simp_all [hpS]
    rw[hid]
   grind
  |succ j=>
   grind [frS,hpS]
end
end Go.Ah
end
section
namespace Go.Ah
theorem Z4:∀ {a b:List Nat},disj a b=true→∀x,x∈a→x∉b
 |[],_,_,x,h=>by cases h
 |y::a,b,hd,x,h=>by
  simp only[disj,Bool.and_eq_true,Bool.not_eq_true'] at hd;rcases List.mem_cons.1 h with rfl|h
  ·intro hb; have:=List.contains_iff_mem.2 hb; rw[hd.1] at this; cases this
  ·exact Z4 hd.2 x h
theorem QZ{h:List Nat}{q:List Nat×List Nat}:∀ {lg:Log} {i:Nat},YT h q i lg=true→∀(k:Nat) (p:List Nat×List Nat),lg[k]?=some p→(i+k)∈h∨apart2 p q=true
 |[],_,_,_,_,e=>by simp at e
 |p::lg,i,hh,0,p',e=>by
  simp_all [YT]
 |p::lg,i,hh,k+1,p',e=>by
  simp only[YT,Bool.and_eq_true] at hh;have:=QZ hh.2 k p' (by simpa using e)
  grind
def cnt(S:Nat→Bool):Nat→Nat
 |0=>0
 |n+1=>cnt S n+(if S n then 0 else 1)
theorem YaJ{S:Nat→Bool}:∀ {n:Nat},cnt S n=0→∀k,k<n→S k=true
 |0,_,k,h=>by omega
 |n+1,e,k,h=>by
  simp only[cnt] at e;by_cases hk:k=n
  ·simp_all
  ·exact YaJ (S:=S) (n:=n) (by omega) k (by omega)
theorem ZbP{S S':Nat→Bool}:∀ {n:Nat},(∀k,k<n→S' k=S k)→cnt S' n=cnt S n
 |0,_=>rfl
 |n+1,h=>by simp only[cnt]; rw[ZbP (λk hk=>h k (by omega)),h n (by omega)]
theorem Ybb{S S':Nat→Bool}{j:Nat}:∀ {n:Nat},j<n→S j=false→S' j=true→(∀k,k<n→k≠j→S' k=S k)→cnt S' n+1=cnt S n
 |0,h,_,_,_=>by omega
 |n+1,h,h1,h2,h3=>by
  simp only[cnt];by_cases hj:j=n
  ·grind [ZbP]
  ·have:=Ybb (n:=n) (by omega) h1 h2 (λk hk hne=>h3 k (by omega) hne)
   grind
structure DrawFacts (ops:List Oper) (ms:List MOper) (hd:List (List Nat)):Prop where
 len:ops.length=ms.length
 back:∀j,j<ms.length→∀i∈waits (ops.getD j default),i<j
 ahd:∀j,j<ms.length→∀i∈Yt hd j,i<j∧(i∈waits (ops.getD j default)∨∃k∈waits (ops.getD j default),i∈Yt hd k)
 slots:∀j,j<ms.length→∀i,i<j→i∈Yt hd j∨((∀t∈defsT (ms.getD i default),t∉usesT (ms.getD j default))∧(∀t∈defsT (ms.getD i default),t∉defsT (ms.getD j default))∧∀t∈usesT (ms.getD i default),t∉defsT (ms.getD j default))
theorem YY{ops:List Oper}{ms:List MOper}{hd:List (List Nat)}(h:Yas ops ms hd=true):DrawFacts ops ms hd:=by
 unfold Yas at h;simp only[Bool.and_eq_true,List.all_eq_true,List.mem_range,Bool.or_eq_true,List.any_eq_true] at h;obtain⟨⟨⟨⟨h1,h2⟩,h3⟩,h4⟩,h5⟩:=h;refine⟨YNB h1,λj hj i hi=>YNL (h3 j hj i hi),λj hj i hi=>?_,λj hj i hi=>?_⟩
 ·simp_all
 grind [Z4]
section
variable {P:Program} {GL:Globs}
theorem Yaq{ops:List Oper}{ms:List MOper}{hd:List (List Nat)}(D:DrawFacts ops ms hd){S:Nat→Bool}(hS:∀j,S j=true→j<ms.length∧∀i∈waits (ops.getD j default),S i=true) :
  ∀(j:Nat),j<ms.length→(∀i∈waits (ops.getD j default),S i=true)→∀i∈Yt hd j,S i=true:=by
 intro j
 induction j using Nat.strongRecOn with
 |_ j ih=>
  intro hj hw i hi;rcases (D.ahd j hj i hi).2 with q|⟨k,q,q'⟩
  ·exact hw i q
  ·have hk:=hw k q;exact ih k (D.back j hj k q) (hS k hk).1 (hS k hk).2 i q'
theorem Z5{o:Oper}{i:Nat}:i∈waits o↔∃e∈o.after,Region.binds .any e=true∧e.on=i:=by
 grind [waits]
theorem QM(ops:Array Oper)(j:Nat){o:Oper}(h:ops[j]?=some o):ops.toList.getD j default=o:=by
 simp_all
theorem Zb3{n:Nat}{ops:Array Oper}{ms:List MOper}{hd:List (List Nat)}(hsz:ops.size=ms.length)(hok:∀(j:Nat) (m:MOper),ms[j]?=some m→∃o,ops[j]?=some o∧OperOk P GL n ops o m)(hdr:Yas ops.toList ms hd=true)
 {ρ:Frame}{σ:List ABlk}{ts:List TS}{K:Frame→List ABlk→Log→Prop}(htr:Tr P GL ms ts ρ σ [] K)(hap:Xq hd (ts.map λx=>(x.rd,x.up.map (·.1)))=true)
 {w0:World}{L:Ln}{g:Gm}(Q:Exit→Act→World→Prop)(hQ:∀g' ρ' σ' a w,g.Le g'→Rep GL w0 L g' (hp σ') w→DenF n g' ρ' a→K ρ' σ' (ts.map λx=>(x.rd,x.up.map (·.1)))→Q .normal a w) :
  ∀(fuel:Nat) (listed:Array Bool) (a:Act) (w:World),listed.size=ms.length→(∀j,listed.getD j false=true→j<ms.length∧∀i∈waits (ops.toList.getD j default),listed.getD i false=true) →
   cnt (λk=>listed.getD k false) ms.length≤fuel→(∃g' ρ',g.Le g'∧Rep GL w0 L g' (hpS (λk=>listed.getD k false) 0 ts (hp σ)) w∧DenF n g' ρ' a∧∀t,fget ρ' t=fget (frS (λk=>listed.getD k false) 0 ms ts ρ) t) →
   wpAny P .any ops Q fuel listed a w:=by
 have D:=YY hdr;obtain⟨hlen,hat,ρf,σf,hf1,hf2,hf3⟩:=ZcD ms ts 0 ρ σ [] K htr;rw[List.nil_append] at hf3;have hA:∀j,j<ms.length→∀i,i<j→i∈Yt hd j∨apart2 (YZ (ts.map λx=>(x.rd,x.up.map (·.1))) i) (YZ (ts.map λx=>(x.rd,x.up.map (·.1))) j)=true:=by
  intro j hj i hi;unfold Xq at hap;simp only[List.all_eq_true,List.mem_range,List.length_map] at hap;have:=QZ (hap j (by omega)) i (YZ (ts.map λx=>(x.rd,x.up.map (·.1))) i) (by
   grind [YZ])
  rwa [Nat.zero_add] at this
 have hlog:∀j x,ts[j]?=some x→YZ (ts.map λx=>(x.rd,x.up.map (·.1))) j=(x.rd,x.up.map (·.1)):=by
  simp_all [YZ]
 have fin:∀(listed:Array Bool) (a:Act) (w:World),(∀k,k<ms.length→listed.getD k false=true)→(∃g' ρ',g.Le g'∧Rep GL w0 L g' (hpS (λk=>listed.getD k false) 0 ts (hp σ)) w∧DenF n g' ρ' a∧∀t,fget ρ' t=fget (frS (λk=>listed.getD k false) 0 ms ts ρ) t)→Q .normal a w:=by
  rintro listed a w hall ⟨g',ρ',h1,h2,h3,h4⟩;refine hQ g' ρf σf a w h1 ?_ ?_ hf3
  ·rw[hf2];have:hpS (λk=>listed.getD k false) 0 ts (hp σ)=hpS (λ_=>true) 0 ts (hp σ):=by
    funext b
    simp_all [QO,List.getElem?_eq_some_iff]
   rw[←this]; exact h2
  ·refine h3.weak (λt=>.inl ?_);rw[hf1 t,h4 t];refine YO _ _ _ _ _ (λk m e _=>?_) rfl
   grind
 have rdy:∀(listed:Array Bool),listed.size=ms.length→Region.ready .any ops listed=[]→∀k,k<ms.length→listed.getD k false=true:=by
  intro listed hs hr k
  induction k using Nat.strongRecOn with
  |_ k ih=>
   intro hk;cases hl:listed.getD k false with
   |true=>rfl
   |false=>
    exfalso;have hko:ops[k]?=some ops[k]:=by simp
    have:k∈Region.ready .any ops listed:=by
     rw[mem_ready];refine⟨?_,ops[k],hko,λe he hb=>?_⟩
     ·simp_all
     ·have hw:e.on∈waits (ops.toList.getD k default):=by rw[QM ops k hko,Z5]; exact⟨e,he,hb,rfl⟩
      have hlt:=D.back k hk _ hw;exact ih e.on hlt (by omega)
    rw[hr] at this; cases this
 intro fuel
 induction fuel with
 |zero=>
  intro listed a w hs hS hc hst;have hall:=YaJ (Nat.le_zero.1 hc);refine⟨?_,fin listed a w hall hst⟩;cases hr:Region.ready .any ops listed with
  |nil=>rfl
  |cons k r=>
   exfalso;have:k∈Region.ready .any ops listed:=by rw[hr]; simp
   grind [mem_ready]
 |succ fuel ih=>
  intro listed a w hs hS hc hst;refine⟨λhr=>fin listed a w (rdy listed hs hr) hst,λj hj=>?_⟩;obtain⟨h1,o,ho,hedge⟩:=mem_ready.1 hj;have hjn:j<ms.length:=by grind
  have hSj:listed.getD j false=false:=by
   grind
  have hwj:∀i∈waits (ops.toList.getD j default),listed.getD i false=true:=by
   intro i hi;rw[QM ops j ho,Z5] at hi
   grind
  have hhd:=Yaq D (S:=λk=>listed.getD k false) hS j hjn hwj;have hmj:ms[j]?=some ms[j]:=by simp
  have htj:ts[j]?=some (ts[j]'(by omega)):=by simp[show j<ts.length by omega]
  generalize hmd:ms[j]=m at hmj;generalize hxd:(ts[j]'(by omega))=x at htj;have hmD:ms.getD j default=m:=by grind
  obtain⟨o',ho',oko⟩:=hok j m hmj;rw[ho] at ho'; cases ho';obtain⟨ρj,q1,q2⟩:=hat j m x hmj htj;simp only[Nat.zero_add] at q1 q2;obtain⟨g',ρ',s1,s2,s3,s4⟩:=hst;have key:∀k,k<ms.length→(k<j→k∈Yt hd j)→(j<k→j∈Yt hd k)→(k≠j)→(listed.getD k false=decide (k<j)):=by
   intro k hk ha hb hne;by_cases hlt:k<j
   ·grind
   ·rw[decide_eq_false hlt];have hgt:j<k:=by omega
    cases hl:listed.getD k false with
    |false=>rfl
    |true=>
     have:listed.getD j false=true:=Yaq D (S:=λk=>listed.getD k false) hS k hk (hS k hl).2 j (hb hgt);rw[hSj] at this; cases this
  have hslot:∀t,(t∈usesT m)→∀k mk,ms[k]?=some mk→mk.dst=some t→k≠j→listed.getD k false=decide (k<j):=by
   intro t ht k mk hk hdst hne;have hkn:k<ms.length:=(YLG hk).1;have hkD:ms.getD k default=mk:=by grind
   have hdef:t∈defsT mk:=by unfold defsT; rw[hdst]; simp
   refine key k hkn (λhlt=>?_) (λhgt=>?_) hne
   ·rcases D.slots j hjn k hlt with q|⟨q,_,_⟩
    ·exact q
    grind
   ·rcases D.slots k hkn j hgt with q|⟨_,_,q⟩
    ·exact q
    grind
  have hblk:∀b,(b∈x.rd∨b∈x.up.map (·.1))→∀k xk,ts[k]?=some xk→b∈xk.up.map (·.1)→k≠j→listed.getD k false=decide (k<j):=by
   intro b hb k xk hk hin hne;have hkn:k<ms.length:=by grind
   refine key k hkn (λhlt=>?_) (λhgt=>?_) hne
   ·rcases hA j hjn k hlt with q|q
    ·exact q
    ·rw[hlog k xk hk,hlog j x htj] at q;simp only[apart2,Bool.and_eq_true] at q
     grind [Z4]
   ·rcases hA k hkn j hgt with q|q
    ·exact q
    ·rw[hlog k xk hk,hlog j x htj] at q;simp only[apart2,Bool.and_eq_true] at q
     grind [Z4]
  have hjself:∀k,k=j→listed.getD k false=decide (k<j):=by rintro k rfl; rw[hSj]; simp
  have heq:∀b,(b∈x.rd∨b∈x.up.map (·.1))→hpS (λk=>listed.getD k false) 0 ts (hp σ) b=hpS (λk=>decide (k<j)) 0 ts (hp σ) b:=by
   intro b hb;refine QO _ _ _ _ (λk xk e1 e2=>?_) rfl
   grind
  unfold wpOp;simp only[ho];refine q2 n ops o oko ρ' _ w0 L g' w a (λt ht=>?_) (λb hb=>heq b (.inl hb)) (λp hp'=>heq p.1 (.inr (List.mem_map.2 ⟨p,hp',rfl⟩))) s2 s3 _ _ (λg2 w2 u hle hr hd2=>?_)
  ·rw[s4 t,q1 t];refine YO _ _ _ _ _ (λk mk e1 e2=>?_) rfl
   grind
  ·have hset:∀k,k<ms.length→(listed.setIfInBounds j true).getD k false=if k=j then true else listed.getD k false:=by
    intro k hk;by_cases hkj:k=j
    ·subst hkj; simp[show k<listed.size by omega]
    ·rw[if_neg hkj]; simp[Array.getElem?_setIfInBounds_ne (Ne.symm hkj)]
   have hset':∀k,(listed.setIfInBounds j true).getD k false=if k=j then true else listed.getD k false:=by
    intro k;by_cases hk:k<ms.length
    ·exact hset k hk
    ·rw[if_neg (by omega)]
     grind
   refine ih _ _ _ (by simpa using hs) (λk hk=>?_) ?_ ⟨g2,putF m.dst x.v ρ',s1.trans hle,?_,hd2,λt=>?_⟩
   ·rw[hset'] at hk;by_cases hkj:k=j
    ·subst hkj;refine⟨hjn,λi hi=>?_⟩;rw[hset']; split
     ·rfl
     ·exact hwj i hi
    ·rw[if_neg hkj] at hk;refine⟨(hS k hk).1,λi hi=>?_⟩;rw[hset']; split
     ·rfl
     ·exact(hS k hk).2 i hi
   ·have:=Ybb (S:=λk=>listed.getD k false) (S':=λk=>(listed.setIfInBounds j true).getD k false) (j:=j) (n:=ms.length) hjn hSj (by simp only[hset']; simp) (λk hk hne=>by simp only[hset']; rw[if_neg hne]);omega
   ·have:hpS (λk=>(listed.setIfInBounds j true).getD k false) 0 ts (hp σ)=hups (hpS (λk=>listed.getD k false) 0 ts (hp σ)) x.up:=by
     funext b
     by_cases hb:b∈x.up.map (·.1)
     ·refine Qbf ts 0 (hp σ) j x htj hb (by rw[Nat.zero_add,hset',if_pos rfl]) (λk xk e1 e2 e3=>?_) _;rw[Nat.zero_add,hset'] at e3;by_cases hkj:k=j
      ·omega
      grind
     ·rw[XaL _ _ _ hb];refine QO _ _ _ _ (λk xk e1 e2=>?_) rfl;rw[Nat.zero_add];simp only[hset'];have hkj:k≠j:=by grind
      rw[if_neg hkj]
    rw[this]; exact hr
   ·rw[XV];by_cases hdt:m.dst=some t
    ·rw[if_pos hdt];refine(Xbe ms ts 0 ρ j m x hmj htj hdt (by rw[Nat.zero_add,hset',if_pos rfl]) (λk mk e1 e2 e3=>?_)).symm;rw[Nat.zero_add,hset'] at e3;by_cases hkj:k=j
     ·omega
     ·rw[if_neg hkj] at e3;have hkn:k<ms.length:=(YLG e1).1;have hkD:ms.getD k default=mk:=by grind
      have hdefm:t∈defsT m:=by unfold defsT; rw[hdt]; simp
      have hdefk:t∈defsT mk:=by unfold defsT; rw[e2]; simp
      have:=key k hkn (λhlt=>by
       rcases D.slots j hjn k hlt with q|⟨_,q,_⟩
       ·exact q
       grind) (λhgt=>by
       rcases D.slots k hkn j hgt with q|⟨_,q,_⟩
       ·exact q
       grind) hkj
      grind
    ·rw[if_neg hdt,s4 t];refine YO _ _ _ _ _ (λk mk e1 e2=>?_) rfl;rw[Nat.zero_add];simp only[hset'];have hkj:k≠j:=by grind
     rw[if_neg hkj]
theorem ZbO(hP:P.follows .mixedOrders=true){n:Nat}{id:Nat}{ms:List MOper}{hd:List (List Nat)}{ρ:Frame}{σ:List ABlk}{Q:APost}
 (h:AwpR true P GL ms ρ σ [] (λρ' σ' lg=>Xq hd lg=true∧Q .normal ρ' σ')):Awp P GL n (.region id ms (some hd)) ρ σ Q:=by
 intro c hc w0 L g a w r d;cases hc with
 |draw _ ops _ _ hsz hok hdr=>
  obtain⟨ts,htr⟩:=QaX ms ρ σ [] _ h;obtain⟨hlen,_,ρf,σf,_,_,hf3⟩:=ZcD ms ts 0 ρ σ [] _ htr;rw[List.nil_append] at hf3;refine wp_region_any hP ?_;refine Zb3 (w0:=w0) (L:=L) (g:=g) hsz hok hdr htr hf3.1 _ (λg' ρ' σ' a' w' k1 k2 k3 k4=>⟨g',ρ',σ',k1,k2,k3,k4.2⟩) ops.size _ a _ (by simp[hsz]) (λj hj=>?_) ?_ ⟨g,ρ,Gm.Le.refl g,?_,d,λt=>?_⟩
  ·exfalso;rw[Array.getD_eq_getD_getElem?,Array.getElem?_replicate] at hj;split at hj<;>simp at hj
  ·rw[hsz];have:∀m,cnt (λk=>(Array.replicate ms.length false).getD k false) m≤m:=by
    intro m
    induction m<;>grind [cnt]
   exact this _
  ·have hF:(λk=>(Array.replicate ops.size false).getD k false)=λ_=>false:=by
    funext k; rw[Array.getD_eq_getD_getElem?,Array.getElem?_replicate]; split<;>rfl
   rw[hF];have hid:∀(ts:List TS) (i:Nat) (h:Hp),hpS (λ_=>false) i ts h=h:=by
    intro ts
    induction ts<;>simp_all [hpS]
   rw[hid];exact r.drew
  ·have hF:(λk=>(Array.replicate ops.size false).getD k false)=λ_=>false:=by
    funext k; rw[Array.getD_eq_getD_getElem?,Array.getElem?_replicate]; split<;>rfl
   rw[hF];have hid:∀(ms:List MOper) (ts:List TS) (i:Nat) (ρ:Frame),frS (λ_=>false) i ms ts ρ=ρ:=by
    intro ms
    induction ms with
    |nil=>intros; simp[frS]
    |cons m ms ih=>intro ts i ρ; cases ts<;>grind [frS]
   rw[hid]
end
end Go.Ah
end
section
namespace Go.Ah
theorem Steps.peel{P:Program}{m m₁ t:Machine}(h:Steps P m t)(hs:step P m=.next m₁):t=m∨Steps P m₁ t:=by
 obtain⟨n,hn⟩:=h;cases n with
 |zero=>simp[runN] at hn; exact .inl hn.symm
 |succ n=>simp only[runN,hs] at hn; exact .inr ⟨n,hn⟩
theorem Xa3:∀(k k':List Item) (id:Nat),exitTo id k=some k'→k'.length≤k.length
  |[],k',id,h=>by simp[exitTo] at h
  |x::k,k',id,h=>by
    have ih:=Xa3 k k' id;cases x<;>simp only[exitTo] at h<;>first
      |(have:=ih h; simp; omega)
      | (split at h
         · cases h; simp
         · have:=ih h; simp; omega)
theorem Zbr{b:Go.Frame}{a a':Act}{k k':List Item}{cs:List Go.Frame}{w w':World}(h:lone (b.at a k) cs w=lone (b.at a' k') cs w'):k=k':=by
 simp_all [lone,Go.Frame.at]
theorem Qbq{b:Go.Frame}{a a':Act}{k k':List Item}{cs:List Go.Frame}{w w':World}{m:FrameMode}(hm:m≠.run)(h:lone { b.at a' k' with mode:=m } cs w'=lone (b.at a k) cs w):False:=by
 simp_all [lone,Go.Frame.at]
theorem Ycp{P:Program}{c:Code}{Q:Exit→Act→World→Prop}{a:Act}{w:World}(hQ:∀a w,¬Q .outgrown a w)(hQ2:∀l a w,¬Q (.goto l) a w)(h:(Code.loop c).wp P Q a w)(b:Go.Frame)(k:List Item)(cs:List Go.Frame) :
  ∃e a' w',Q e a' w'∧Arrives P (lone (b.at a (.code c::.inLoop c::k)) cs w) b k cs e a' w':=by
 obtain⟨e,a',w',hq,harr⟩:=h b k cs;refine⟨e,a',w',hq,?_⟩;cases e with
 |normal=>
  rcases Steps.peel harr step_loop with e|e
  ·have:=Zbr e; have:=congrArg List.length this; simp at this
  ·exact e
 |exit id=>
  intro k' hk;rcases Steps.peel (harr k' hk) step_loop with e|e
  ·have:=Zbr e; have:=congrArg List.length this; have:=Xa3 _ _ _ hk; simp at *; omega
  ·exact e
 |goto l=>exact(hQ2 _ _ _ hq).elim
 |ret=>
  obtain⟨todo,hs⟩:=harr;rcases Steps.peel hs step_loop with e|e
  ·exact(Qbq (by simp) e).elim
  ·exact⟨todo,e⟩
 |panic ch=>
  obtain⟨todo,hs⟩:=harr;rcases Steps.peel hs step_loop with e|e
  ·exact(Qbq (by simp) e).elim
  ·exact⟨todo,e⟩
 |outgrown=>exact(hQ _ _ hq).elim
theorem Qa1{P:Program}{c:Code}{Q:Exit→Act→World→Prop}{a:Act}{w:World}(hQ:∀a w,¬Q .outgrown a w)(hQ2:∀l a w,¬Q (.goto l) a w)
 (h:c.wp P (Exit.then (λa w=>(Code.loop c).wp P Q a w) Q) a w):(Code.loop c).wp P Q a w:=by
 intro b k cs;obtain⟨e,a₁,w₁,hq,harr⟩:=h b (.inLoop c::k) cs;cases e with
 |normal=>
  obtain⟨e₂,a₂,w₂,hq₂,harr₂⟩:=Ycp hQ hQ2 hq b k cs;exact⟨e₂,a₂,w₂,hq₂,.of_steps (.one step_loop) (.of_steps (Steps.trans harr (.one step_inLoop)) harr₂)⟩
 |exit id=>exact⟨_,a₁,w₁,hq,.of_steps (.one step_loop) (.pass (x:=.inLoop c) rfl (λ_ _=>.inl (by simp)) harr)⟩
 |goto l=>exact(hQ2 _ _ _ hq).elim
 |ret=>exact⟨_,a₁,w₁,hq,.of_steps (.one step_loop) (.pass (x:=.inLoop c) rfl (λ_ _=>.inl (by simp)) harr)⟩
 |panic ch=>exact⟨_,a₁,w₁,hq,.of_steps (.one step_loop) (.pass (x:=.inLoop c) rfl (λ_ _=>.inl (by simp)) harr)⟩
 |outgrown=>exact(hQ _ _ hq).elim
theorem Xb0{P:Program}{GL:Globs}{n:Nat}{x:MCode}{ρ:Frame}{σ:List ABlk}{Q:APost}(h:Awp P GL n x ρ σ (APost.andThen (λρ σ=>Awp P GL n (.loop x) ρ σ Q) Q)):Awp P GL n (.loop x) ρ σ Q:=by
 intro c hc w0 L g a w r d;cases hc with
 |loop c1 _ h1=>
  refine Qa1 (λa w h=>h) (λl a w h=>h) (wp_mono (h c1 h1 w0 L g a w r d) (λe a' w' hl=>?_));cases e with
  |normal=>
   obtain⟨g',ρ',σ',k1,k2,k3,k4⟩:=hl;exact wp_mono (k4 (.loop c1) (.loop _ _ h1) w0 L g' a' w' k2 k3) (LiftQ.mono k1 (λ_ _ _ q=>q))
  |_=>exact hl
section
variable (runner:Bool→Nat→List MOper→Frame→List ABlk→Log→Cons→MRes)
def Qq:MK→List AVal→Option (Nat×List AVal)
 |.call f,xs=>some (f,xs)
 |.callv,.func (.func f) first captured::xs=>some (f,first++xs++captured)
 |.invoke _ tbl,.iface t v::xs=>match XaX t tbl with
  |some f=>some (f,v::xs)
  |none=>none
 |_,_=>none
end
section
variable {P:Program} {GL:Globs}
theorem Xa7{F:MFn}{f:FuncId}{k:MK}{xs ys:List AVal}(hc:Qq k xs=some (f,ys))(hp:Zh P f=true)(ok:FnOk P GL f F)(hn:ys.length=F.np){σ:List ABlk}{R:AVal→List ABlk→Prop}
 (h:Awp P GL F.n F.body (frame0 ys) σ (λe ρ σ'=>(e=.normal∨e=.ret)∧∃v,retV F.rets ρ σ'=some v∧R v σ')):OpRel P GL k xs σ R:=by
 have key:=Yae (P:=P) (GL:=GL) ok hn h;intro o os hco w0 L g w a r hx;unfold Qq at hc;split at hc
 ·cases hc;generalize ho:o.op=op at hco;cases hco with
  |call _ args ts _=>
   have hrun:(execOp a.eval o).run P w=.ok (.enter f (args.map a.eval)) w:=by
    simp_all [execOp,resolve,Act.eval,Deferred.ofValue,invoke,XP]
   rw[hrun];have:=key w0 L g w _ r hx
   rwa [←Array.toList_map,Array.toArray_toList] at this
 ·rename_i first captured xs'
  cases hc;generalize ho:o.op=op at hco;cases hco with
  |callv x args ts=>
   obtain⟨d,dr⟩:=hx;generalize hu:a.eval x=u0 at d;cases d with
   |func _ _ _ _ vs ws h1 h2 h3 h4=>
    have hrun:(execOp a.eval o).run P w=.ok (.enter f (vs++args.map a.eval++ws)) w:=by
     simp_all [execOp,resolve,Deferred.ofValue,invoke,XP]
    rw[hrun];have hl:=dr.length;simp at hl;have:=key w0 L g w (vs ++ args.map a.eval ++ ws).toList r (DenL.of_get (by simp[h1,h2,hl]) (λi y u e1 e2=>by
     simp only[Array.toList_append] at e2;by_cases hi:i<first.length
     ·rw[List.append_assoc,List.getElem?_append_left hi] at e1;rw[List.append_assoc,List.getElem?_append_left (by simpa[h1] using hi)] at e2;exact h3 i y u e1 (by simpa using e2)
     ·by_cases hi2:i<first.length+xs'.length
      ·rw[List.append_assoc,List.getElem?_append_right (by omega),List.getElem?_append_left (by omega)] at e1;rw[List.append_assoc,List.getElem?_append_right (by simp; omega),List.getElem?_append_left (by simp; omega)] at e2;refine dr.get (i-first.length) y u e1 ?_;simpa[h1] using e2
      ·rw[List.getElem?_append_right (by simp; omega)] at e1;rw[List.getElem?_append_right (by simp; omega)] at e2;refine h4 (i - (first ++ xs').length) y u e1 ?_;simpa[h1,hl] using e2))
    rwa [Array.toArray_toList] at this
 ·rename_i name tbl ty v xs';split at hc
  ·rename_i f' hl;cases hc;generalize ho:o.op=op at hco;cases hco with
   |invoke y _ args ts _ hok=>
    obtain⟨d,dr⟩:=hx;generalize hu:a.eval y=u0 at d;cases d with
    |iface _ _ _ vv hvv=>
     obtain⟨k1,k2⟩:=hok _ (Zao hl);have hrun:(execOp a.eval o).run P w=.ok (.enter f (#[vv]++args.map a.eval)) w:=by
      simp only[execOp,ho,resolve,Sem.run_bind,hu,Sem.run_pure,Result.andThen_ok,invoke];have e0:(#[Value.iface ty vv]++args.map a.eval)[0]?=some (Value.iface ty vv):=by grind
      have e1:(#[Value.iface ty vv]++args.map a.eval).extract 1 (#[Value.iface ty vv]++args.map a.eval).size=args.map a.eval:=by
       simp
      grind [Xa6]
     rw[hrun];have:=key w0 L g w (vv::(args.map a.eval).toList) r ⟨hvv,by rwa [Array.toList_map]⟩;have e2:(vv::(args.map a.eval).toList).toArray = #[vv]++args.map a.eval:=by apply Array.ext'; simp
     rw[e2] at this;exact this
  ·cases hc
 ·cases hc
end
end Go.Ah
end
section
namespace Go.Ah
def nilOf:NilCls→Value→Bool
 |.ptr,.pointer none=>true
 |.slice,.slice none 0 0=>true
 |.iface,.nilIface=>true
 |.func,.nilFunc=>true
 |.map,.map none=>true
 |_,_=>false
theorem XcK{c:NilCls}{v:Value}(h:nilOf c v=true):v=nilV c:=by
 unfold nilOf at h;split at h<;>first|rfl|cases h
def optB{α β:Type}(o:Option α)(f:α→Option β):Option β:=match o with
 |some a=>f a
 |none=>none
theorem Qd{α β:Type}{o:Option α}{f:α→Option β}{b:β}(h:optB o f=some b):∃a,o=some a∧f a=some b:=by
 cases o with
 |none=>cases h
 |some a=>exact⟨a,rfl,h⟩
def QQ{β:Type}(c:Bool)(x:Option β):Option β:=match c with
 |true=>x
 |false=>none
theorem Yo{β:Type}{c:Bool}{x:Option β}{b:β}(h:QQ c x=some b):c=true∧x=some b:=by
 cases c with
 |true=>exact⟨rfl,h⟩
 |false=>cases h
def mapM'{α β:Type}(f:α→Option β):List α→Option (List β)
 |[]=>some []
 |a::l=>optB (f a) λb=>optB (mapM' f l) λr=>some (b::r)
theorem ZbV{α β:Type}(f:α→Option β):∀(l:List α),l.mapM f=mapM' f l
 |[]=>rfl
 |a::l=>by
  rw[List.mapM_cons,ZbV f l,mapM'];cases f a with
  |none=>rfl
  |some b=>cases mapM' f l<;>rfl
def zeroCells(P:Program)(t:TypeId):Option (List AVal):=optB (zero? P t) λv=>YE v.cells.toList
def ZaS(P:Program)(t:TypeId):Bool:=match P.underlying t with
 |some .bool=>true
 |_=>false
theorem Yay{P:Program}{t:TypeId}(h:ZaS P t=true):P.underlying t=some .bool:=by
 grind [ZaS]
def Zco(P:Program)(t:TypeId):Bool:=match P.underlying t with
 |some .string=>true
 |_=>false
theorem Yco{P:Program}{t:TypeId}(h:Zco P t=true):P.underlying t=some .string:=by
 grind [Zco]
def intT?(P:Program)(t:TypeId):Option IntKind:=match P.underlying t with
 |some (.int k)=>some k
 |_=>none
theorem Zc0{P:Program}{t:TypeId}{k:IntKind}(h:intT? P t=some k):P.underlying t=some (.int k):=by
 grind [intT?]
theorem YbR{P:Program}{t e:TypeId}(h:elemS? P t=some e):P.underlying t=some (.slice e):=by
 grind [elemS?]
def keyT?(P:Program)(k:TypeId):Option Bool:=match P.underlying k with
 |some .string=>some true
 |some (.int _)=>some false
 |_=>none
theorem XbJ{P:Program}{k:TypeId}{s:Bool}(h:keyT? P k=some s):KeyT P k s:=by
 unfold keyT? at h;split at h
 ·rename_i e; cases h; exact e
 ·rename_i q e; cases h; exact⟨q,e⟩
 ·cases h
def QbV(c:NilCls):Operand→Bool
 |.const v=>nilOf c v
 |_=>false
theorem Ybs{c:NilCls}{x:Operand}(h:QbV c x=true):x=.const (nilV c):=by
 cases x<;>simp only[QbV] at h<;>first|cases h|rw[XcK h]
def eqOp:BinOp→Option Bool
 |.eql=>some false
 |.neq=>some true
 |_=>none
theorem ZcZ{op:BinOp}{b:Bool}(h:eqOp op=some b):op=if b then .neq else .eql:=by
 grind [eqOp]
def YbA(P:Program)(op:BinOp)(t:TypeId)(x y:Operand):Option (MK×List Operand):=
 match eqOp op with
 |none=>some (.bin op (ZaS P t),[x,y])
 |some neq=>match clsT P t with
  |some c=>match QbV c y with
   |true=>some (.eqNil c neq false,[x,y])
   |false=>match QbV c x with
    |true=>some (.eqNil c neq true,[x,y])
    |false=>some (.bin op (ZaS P t),[x,y])
  |none=>match leaves? P t with
   |some ls=>QQ (!P.stoodInHeld t && !P.eqGuardType P.depth t) (some (.eqS neq ls,[x,y]))
   |none=>some (.bin op (ZaS P t),[x,y])
def Xbb(P:Program)(c:Call):Option (MK×List Operand):=
 match c.callee with
 |.value (.func f)=>QQ (Zh P f) (some (.call f,c.args.toList))
 |.value x=>some (.callv,x::c.args.toList)
 |.invoke x name=>some (.invoke name (Qcq P name),x::c.args.toList)
 |.builtin .len=>match c.args.toList,c.argTypes.toList with
  |[x],[t]=>match P.underlying t with
   |some (.slice _)=>some (.lenS,[x])
   |some .string=>some (.lenStr,[x])
   |some (.array n _)=>some (.lenA n,[x])
   |some (.map _ _)=>some (.lenM,[x])
   |_=>none
  |_,_=>none
 |.builtin .clear=>match c.args.toList,c.argTypes.toList with
  |[x],[t]=>optB (elemS? P t) λe=>optB (size? P e) λn=>optB (zero? P e) λv=>optB (YE v.cells.toList) λz=>
   QQ (Nat.beq v.cells.size n && !(Nat.beq n 0)) (some (.clearS n z,[x]))
  |_,_=>none
 |.builtin .min=>match c.args.toList with
  |[x,y]=>some (.min2,[x,y])
  |_=>none
 |.builtin .max=>match c.args.toList with
  |[x,y]=>some (.max2,[x,y])
  |_=>none
 |.builtin .append=>match c.args.toList,c.argTypes.toList with
  |[x,y],[t,t']=>optB (elemS? P t) λe=>optB (elemS? P t') λ_=>optB (size? P e) λn=>optB (zero? P e) λv=>optB (YE v.cells.toList) λz=>
   QQ (Nat.beq v.cells.size n&&(!(Nat.beq (P.bytesOf e) 0) && !(Nat.beq n 0))) (some (.append n (P.bytesOf e) z,[x,y]))
  |_,_=>none
 |_=>none
def XbK:Operand→Operand→Bool
 |.tmp a,.tmp b=>Nat.beq a b
 |_,_=>false
theorem Qb7{x y:Operand}(h:XbK x y=true):x=y:=by
 cases x<;>cases y<;>simp only[XbK] at h<;>first|cases h|rw[YNB h]
def implB(P:Program)(ms:Array (String×TypeId))(t:TypeId):Bool:=match P.info? t with
 |some i=>match i.methods.size with
  |0=>false
  |_=>ms.toList.all λp=>i.methods.any λm=>m.name==p.1&&m.sig==p.2
 |none=>false
def Qcn(P:Program)(ms:Array (String×TypeId)):List TypeId:=(List.range P.types.size).filter (implB P ms)
theorem Xb6{P:Program}{ms:Array (String×TypeId)}{q:TypeId}(h:q∈Qcn P ms):∃i,P.info? q=some i∧Instr.missingMethod ms i.methods=none:=by
 have h:=(List.mem_filter.1 h).2;unfold implB at h;split at h
 ·rename_i i hi;refine⟨i,hi,?_⟩;split at h
  ·cases h
  ·have e:(ms.toList.filter λ(x:String×TypeId)=>!i.methods.any λm=>m.name==x.1&&m.sig==x.2)=[]:=by
    grind [List.filter_eq_nil_iff]
   unfold Instr.missingMethod;simp only;rw[show (List.filter (λx=>match x with|(name,sig)=>!i.methods.any λm=>m.name==name&&m.sig==sig) ms.toList)=[] from e];rfl
 ·cases h
def Qch(P:Program):Op→Option (MK×List Operand)
 |.move x=>some (.mv,[x])
 |.assign x=>some (.mv,[x])
 |.pick c a b=>some (.pick,[c,a,b])
 |.alloc t=>optB (zeroCells P t) λz=>some (.alloc z,[])
 |.box _ x=>some (.box,[x])
 |.build t parts=>match P.underlying t with
  |some (.struct fs)=>optB (zeroCells P t) λz=>optB (mapM' (λf=>(P.info? f.type).map λi=>(f.offset,i.size)) fs.toList) λplaces=>
   optB (mapM' (λ(p:Nat×Operand)=>places[p.1]?) parts.toList) λps=>some (.build z ps,parts.toList.map (·.2))
  |some (.array _ e)=>optB (zeroCells P t) λz=>optB (size? P e) λsz=>some (.build z (parts.toList.map (λp=>(p.1*sz,sz))),parts.toList.map (·.2))
  |_=>none
 |.buildSlice t 0 parts=>optB (elemS? P t) λe=>optB (size? P e) λsz=>match parts.toList with
  |[]=>some (.buildS0 sz,[])
  |_=>none
 |.makeSlice t l c=>optB (elemS? P t) λe=>optB (size? P e) λn=>optB ((P.info? e).map (·.bytes)) λby_=>optB (zero? P e) λv=>optB (YE v.cells.toList) λz=>
  QQ (!(Nat.beq n 0) && Nat.beq v.cells.size n) (match XbK l c with
   |true=>some (.makeS n by_ z,[l])
   | false=>none)
 |.buildSlice t n parts=>optB (elemS? P t) λe=>optB (size? P e) λsz=>optB (zero? P e) λv=>optB (YE v.cells.toList) λz0=>
  QQ (Nat.ble (n*sz) (2 ^ 24)&&(!(Nat.beq (n*sz) 0)&&Nat.beq v.cells.size sz)) (some (.buildS sz n (List.replicate n z0).flatten (parts.toList.map (λp=>(p.1*sz,sz))),parts.toList.map (·.2)))
 |.load t x=>optB (isAgg? P t) λagg=>optB (size? P t) λn=>some (.load agg n,[x])
 |.store t x y=>optB (size? P t) λn=>some (.store n,[x,y])
 |.nilCheck x=>some (.nilCheck,[x])
 |.binOp op t x y _=>YbA P op t x y
 |.unOp op _ x=>some (.un op,[x])
 |.convert s d x=>QQ (P.underlying s).isSome (optB (intT? P d) λk=>some (.conv k,[x]))
 |.makeInterface t x=>QQ (P.concrete t) (some (.mkIface t,[x]))
 |.makeFunc fn xs ys=>some (.mkFunc fn xs.size,xs.toList++ys.toList)
 |.makeMap _ none=>some (.makeMap,[])
 |.fieldAddr t x f=>match P.underlying t with
  |some (.struct fs)=>optB fs[f]? λfd=>optB (size? P fd.type) λn=>QQ (!(Nat.beq n 0)) (some (.fieldAddr fd.offset,[x]))
  |_=>none
 |.field t x f=>match P.underlying t with
  |some (.struct fs)=>optB fs[f]? λfd=>optB (size? P fd.type) λn=>optB (isAgg? P fd.type) λagg=>some (.field agg fd.offset n,[x])
  |_=>none
 |.indexAddr t x i=>match P.underlying t with
  |some (.array len e)=>optB (size? P e) λn=>some (.idxAddrA len n,[x,i])
  |some (.slice e)=>optB (size? P e) λn=>some (.idxAddrS n,[x,i])
  |_=>none
 |.index t x i=>match P.underlying t with
  |some (.array len e)=>optB (size? P e) λn=>optB (isAgg? P e) λagg=>some (.idxA agg len n,[x,i])
  |some .string=>some (.idxStr,[x,i])
  |_=>none
 |.extract x i=>some (.extract i,[x])
 |.slice t x lo hi mx=>match P.underlying t with
  |some (.slice e)=>optB (size? P e) λn=>some (.sliceS n lo.isSome hi.isSome mx.isSome,[x]++lo.toList++hi.toList++mx.toList)
  |some .string=>match mx with
   |none=>some (.sliceStr lo.isSome hi.isSome,[x]++lo.toList++hi.toList)
   |some _=>none
  |_=>none
 |.call c=>Xbb P c
 |.lookup t x i ok=>match P.underlying t with
  |some (.map k e)=>optB (keyT? P k) λstr=>optB (zero? P e) λv=>optB (aVal v) λz=>some (.lookup str ok z,[x,i])
  |_=>none
 |.mapUpdate t x i y=>match P.underlying t with
  |some (.map k _)=>optB (keyT? P k) λstr=>some (.mapUpd str,[x,i,y])
  |_=>none
 |.insert t x i y=>match P.underlying t with
  |some (.map k _)=>optB (keyT? P k) λstr=>some (.mapUpd str,[x,i,y])
  |_=>none
 |.range t x=>QQ (Zco P t) (some (.range,[x]))
 |.next x true=>some (.next,[x])
 |.typeAssert x _ u ok=>match P.underlying u with
  |some (.interface ms)=>match ok,zero? P u with
   |true,some .nilIface=>some (.assertI (Qcn P ms),[x])
   |_,_=>none
  |_=>QQ (P.concrete u&&(P.underlying u).isSome) (optB (zero? P u) λv=>optB (aVal v) λz=>some (.assertT u ok z,[x]))
 |_=>none
section
variable {P:Program} {GL:Globs}
theorem Xb1{op:BinOp}{t t':TypeId}{x y:Operand}{k:MK}{os:List Operand}(h:YbA P op t x y=some (k,os)):Comp P GL (.binOp op t x y t') k os:=by
 unfold YbA at h;split at h
 ·cases h; exact .bin _ _ _ _ _ _ Yay
 ·rename_i neq heq;have hop:=ZcZ heq;split at h
  ·rename_i c hc;split at h
   ·rename_i hn;cases h;rw[hop,Ybs hn];exact .eqNilR _ _ _ _ _ hc
   ·split at h
    ·rename_i hn;cases h;rw[hop,Ybs hn];exact .eqNilL _ _ _ _ _ hc
    ·cases h; exact .bin _ _ _ _ _ _ Yay
  ·split at h
   ·rename_i ls hl;obtain⟨hg,h⟩:=Yo h;cases h;simp only[Bool.and_eq_true,Bool.not_eq_true'] at hg;rw[hop];exact .eqS _ _ _ _ _ _ hl hg.1 hg.2
   ·cases h; exact .bin _ _ _ _ _ _ Yay
theorem Qaq{α:Type}{a:Array α}{x:α}(h:a.toList=[x]):a = #[x]:=by
 cases a; simp at h; subst h; rfl
theorem Zar{α:Type}{a:Array α}{x y:α}(h:a.toList=[x,y]):a = #[x,y]:=by
 cases a; simp at h; subst h; rfl
theorem XbA{c:Call}{k:MK}{os:List Operand}(h:Xbb P c=some (k,os)):Comp P GL (.call c) k os:=by
 unfold Xbb at h;obtain⟨callee,args,ts⟩:=c;simp only at h;split at h
 ·obtain⟨hg,h⟩:=Yo h;cases h;exact .call _ _ _ hg
 ·cases h; exact .callv _ _ _
 ·cases h;refine .invoke _ _ _ _ _ (λp hp=>?_)
  grind [Qcq]
 ·split at h
  ·rename_i ha ht;have:=Qaq ha; subst this;have:=Qaq ht; subst this;split at h
   ·rename_i hu; cases h; exact .lenS _ _ _ hu
   ·rename_i hu; cases h; exact .lenStr _ _ hu
   ·rename_i hu; cases h; exact .lenA _ _ _ _ hu
   ·rename_i hu; cases h; exact .lenM _ _ _ _ hu
   ·cases h
  ·cases h
 ·split at h
  ·rename_i ha ht;have:=Qaq ha; subst this;have:=Qaq ht; subst this;obtain⟨e,he,h⟩:=Qd h;obtain⟨n,hn,h⟩:=Qd h;obtain⟨v,hv,h⟩:=Qd h;obtain⟨z,hz,h⟩:=Qd h;obtain⟨hg,h⟩:=Yo h;simp only[Bool.and_eq_true,Bool.not_eq_true'] at hg;cases h;exact .clearS _ e _ _ v _ he hn (λe0=>by rw[e0] at hg; cases hg.2) hv (YNB hg.1) hz
  ·cases h
 ·split at h
  ·rename_i ha; have:=Zar ha; subst this; cases h; exact .min2 _ _ _
  ·cases h
 ·split at h
  ·rename_i ha; have:=Zar ha; subst this; cases h; exact .max2 _ _ _
  ·cases h
 ·split at h
  ·rename_i ha ht;have:=Zar ha; subst this;have:=Zar ht; subst this;obtain⟨e,he,h⟩:=Qd h;obtain⟨e',he',h⟩:=Qd h;obtain⟨n,hn,h⟩:=Qd h;obtain⟨v,hv,h⟩:=Qd h;obtain⟨z,hz,h⟩:=Qd h;obtain⟨hg,h⟩:=Yo h;simp only[Bool.and_eq_true,Bool.not_eq_true'] at hg;cases h;exact .append _ _ e _ _ _ _ v _ (YbR he) ⟨_,YbR he',by simp⟩ hn rfl hv (YNB hg.1) hz (λe0=>by rw[e0] at hg; cases hg.2.1) (λe0=>by rw[e0] at hg; cases hg.2.2)
  ·cases h
 ·cases h
theorem Xbr{α β:Type}{f:α→Option β}:∀ {l:List α} {r:List β},mapM' f l=some r→l.map f=r.map some
 |[],r,h=>by simp[mapM'] at h; subst h; rfl
 |a::l,r,h=>by
  obtain⟨b,hb,h⟩:=Qd h;obtain⟨r',hr,h⟩:=Qd h;cases h;simp[hb,Xbr hr]
theorem Zci{op:Op}{k:MK}{os:List Operand}(h:Qch P op=some (k,os)):Comp P GL op k os:=by
 unfold Qch at h;split at h
 ·cases h; exact .move _
 ·cases h; exact .assign _
 ·cases h; exact .pick _ _ _
 ·obtain⟨z,hz,h⟩:=Qd h;obtain⟨v,hv,hz⟩:=Qd hz;cases h; exact .alloc _ v _ hv hz
 ·cases h; exact .box _ _
 ·split at h
  ·rename_i fs hu;obtain⟨z,hz,h⟩:=Qd h;obtain⟨v,hv,hz⟩:=Qd hz;obtain⟨places,hp,h⟩:=Qd h;obtain⟨ps,hps,h⟩:=Qd h;cases h;exact .buildStruct _ fs v _ _ places _ hu hv hz (by rw[ZbV]; exact hp) (Xbr hps)
  ·rename_i n e hu;obtain⟨z,hz,h⟩:=Qd h;obtain⟨v,hv,hz⟩:=Qd hz;obtain⟨sz,hs,h⟩:=Qd h;cases h;exact .buildArray _ n e v _ _ _ sz hu hv hz hs rfl
  ·cases h
 ·obtain⟨e,he,h⟩:=Qd h;obtain⟨sz,hs,h⟩:=Qd h;split at h
  ·rename_i hp; cases h; exact .buildSlice0 _ e _ _ he hs hp
  ·cases h
 ·obtain⟨e,he,h1⟩:=Qd h;obtain⟨n,hn,h2⟩:=Qd h1;obtain⟨b,hb,h3⟩:=Qd h2;obtain⟨v,hv,h4⟩:=Qd h3;obtain⟨z,hz,h5⟩:=Qd h4;obtain⟨hg,h6⟩:=Yo h5;clear h h1 h2 h3 h4 h5;simp only[Bool.and_eq_true,Bool.not_eq_true'] at hg;split at h6
  ·rename_i hs;have:=Qb7 hs;subst this;cases h6;exact .makeSlice _ _ e v _ _ _ he hn hb (λe0=>by rw[e0] at hg; cases hg.1) hv (YNB hg.2) hz
  ·cases h6
 ·obtain⟨e,he,h⟩:=Qd h;obtain⟨sz,hs,h⟩:=Qd h;obtain⟨v,hv,h⟩:=Qd h;obtain⟨z0,hz,h⟩:=Qd h;obtain⟨hg,h⟩:=Yo h;simp only[Bool.and_eq_true,Bool.not_eq_true'] at hg;cases h;exact .buildSlice _ _ e v z0 _ _ _ _ he hs (YNL hg.1) (λe0=>by rw[e0] at hg; cases hg.2.1) hv (YNB hg.2.2) hz rfl rfl
 ·obtain⟨agg,ha,h⟩:=Qd h;obtain⟨n,hn,h⟩:=Qd h;cases h; exact .load _ _ _ _ ha hn
 ·obtain⟨n,hn,h⟩:=Qd h;cases h; exact .store _ _ _ _ hn
 ·cases h; exact .nilCheck _
 ·exact Xb1 h
 ·cases h; exact .un _ _ _
 ·obtain⟨hg,h⟩:=Yo h;obtain⟨q,hq,h⟩:=Qd h;cases h; exact .conv _ _ _ _ hg (Zc0 hq)
 ·obtain⟨hg,h⟩:=Yo h;cases h; exact .mkIface _ _ hg
 ·cases h; exact .mkFunc _ _ _
 ·cases h; exact .makeMap _
 ·split at h
  ·rename_i fs hu;obtain⟨fd,hf,h⟩:=Qd h;obtain⟨n,hn,h⟩:=Qd h;obtain⟨hg,h⟩:=Yo h;cases h;exact .fieldAddr _ _ _ fs fd n hu hf hn (λe0=>by rw[e0] at hg; cases hg)
  ·cases h
 ·split at h
  ·rename_i fs hu;obtain⟨fd,hf,h⟩:=Qd h;obtain⟨n,hn,h⟩:=Qd h;obtain⟨agg,ha,h⟩:=Qd h;cases h;exact .field _ _ _ fs fd _ _ hu hf hn ha
  ·cases h
 ·split at h
  ·rename_i len e hu;obtain⟨n,hn,h⟩:=Qd h;cases h; exact .idxAddrA _ _ _ _ e _ hu hn
  ·rename_i e hu;obtain⟨n,hn,h⟩:=Qd h;cases h; exact .idxAddrS _ _ _ e _ hu hn
  ·cases h
 ·split at h
  ·rename_i len e hu;obtain⟨n,hn,h⟩:=Qd h;obtain⟨agg,ha,h⟩:=Qd h;cases h; exact .idxA _ _ _ _ e _ _ hu hn ha
  ·rename_i hu; cases h; exact .idxStr _ _ _ hu
  ·cases h
 ·cases h; exact .extract _ _
 ·split at h
  ·rename_i e hu;obtain⟨n,hn,h⟩:=Qd h;cases h; exact .sliceS _ _ _ _ _ e _ hu hn
  ·rename_i hu;split at h
   ·cases h; exact .sliceStr _ _ _ _ hu
   ·cases h
  ·cases h
 ·exact XbA h
 ·split at h
  ·rename_i k e hu;obtain⟨s,hs,h⟩:=Qd h;obtain⟨v,hv,h⟩:=Qd h;obtain⟨z,hz,h⟩:=Qd h;cases h; exact .lookup _ k e _ _ _ _ v _ hu (XbJ hs) hv hz
  ·cases h
 ·split at h
  ·rename_i k e hu;obtain⟨s,hs,h⟩:=Qd h;cases h; exact .mapUpdate _ k e _ _ _ _ hu (XbJ hs)
  ·cases h
 ·split at h
  ·rename_i k e hu;obtain⟨s,hs,h⟩:=Qd h;cases h; exact .mapInsert _ k e _ _ _ _ hu (XbJ hs)
  ·cases h
 ·obtain⟨hg,h⟩:=Yo h;cases h; exact .range _ _ (Yco hg)
 ·cases h; exact .next _
 ·split at h
  ·rename_i hu;split at h
   ·rename_i hz; cases h; exact .assertI _ _ _ _ _ hu hz (λq hq=>Xb6 hq)
   ·cases h
  ·obtain⟨hg,h⟩:=Yo h;simp only[Bool.and_eq_true] at hg;obtain⟨v,hv,h⟩:=Qd h;obtain⟨z,hz,h⟩:=Qd h;cases h; exact .assertT _ _ _ _ v _ hg.1 hg.2 hv hz
 ·cases h
end
end Go.Ah
end
section
namespace Go.Ah
def ZbT(g:Nat):Globs→Option (List AVal)
 |[]=>none
 |(q,row)::r=>match Nat.beq g q with
  |true=>some row
  |false=>ZbT g r
theorem Xbp{g:Nat}{row:List AVal}:∀ {GL:Globs},ZbT g GL=some row→(g,row)∈GL
 |[],h=>by cases h
 |(q,r)::GL,h=>by
  simp only[ZbT] at h;split at h
  ·rename_i e; cases h; rw[YNB e]; simp
  ·exact List.mem_cons_of_mem _ (Xbp h)
def ZbB(GL:Globs):Operand→Option Opd
 |.tmp t=>some (.t t)
 |.const v=>optB (aVal v) λx=>some (.c x)
 |.global g=>optB (ZbT g GL) λrow=>some (.c (.rptr row 0))
 |.func f=>some (.c (.func (.func f) [] []))
theorem Xa2{GL:Globs}{x:Operand}{y:Opd}(h:ZbB GL x=some y):OpdOk GL x y:=by
 cases x with
 |tmp t=>cases h; exact .tmp _
 |const v=>obtain⟨z,hz,h⟩:=Qd h; cases h; exact .const _ _ hz
 |global g=>obtain⟨z,hz,h⟩:=Qd h; cases h; exact .glob _ _ (Xbp hz)
 |func f=>cases h; exact .func _
theorem Qay{α β:Type}{f:α→Option β}{R:α→β→Prop}(hR:∀ {a b},f a=some b→R a b):∀ {l:List α} {r:List β},mapM' f l=some r→All2 R l r
 |[],r,h=>by simp[mapM'] at h; subst h; trivial
 |a::l,r,h=>by
  obtain⟨b,hb,h⟩:=Qd h;obtain⟨r',hr,h⟩:=Qd h;cases h;exact⟨hR hb,Qay hR hr⟩
def dstOk(n:Nat):Option Nat→Bool
 |none=>true
 |some d=>Nat.blt d n
def Xch(ops:List Oper):Option (Nat×Bool)→Option (Option (Nat×Bool))
 |none=>some none
 |some (j,w)=>optB (nth ops j) λo=>optB o.dst λs=>some (some (s,w))
def YbP(P:Program)(GL:Globs)(o:Op):Option (MK×List Opd):=optB (Qch P o) λ(k,os)=>optB (mapM' (ZbB GL) os) λxs=>some (k,xs)
def Qbb(P:Program)(GL:Globs)(n:Nat)(ops:List Oper)(o:Oper):Option MOper:=
 QQ (dstOk n o.dst) (optB (Xch ops o.guard) λg=>match YbP P GL o.op with
  |some (k,xs)=>some ⟨o.dst,k,xs,g⟩
  | none=>some ⟨o.dst,.bad,[],g⟩)
theorem YbB{P:Program}{GL:Globs}{n:Nat}{ops:Array Oper}{o:Oper}{m:MOper}(h:Qbb P GL n ops.toList o=some m):OperOk P GL n ops o m:=by
 unfold Qbb at h;obtain⟨hd,h⟩:=Yo h;obtain⟨g,hg,h⟩:=Qd h;have hk:∃k xs,m=⟨o.dst,k,xs,g⟩∧∃os,Comp P GL o.op k os∧All2 (OpdOk GL) os xs:=by
  split at h
  ·rename_i k xs hk;cases h;unfold YbP at hk;obtain⟨⟨k,os⟩,hc,hk⟩:=Qd hk;obtain⟨xs,hx,hk⟩:=Qd hk;cases hk;exact⟨_,_,rfl,os,Zci hc,Qay Xa2 hx⟩
  ·cases h;exact⟨_,_,rfl,[],.bad _,trivial⟩
 obtain⟨k,xs,rfl,hos⟩:=hk;refine⟨rfl,λd e=>?_,hos,?_⟩
 ·simp only at e; rw[e] at hd; exact YNL hd
 ·cases hog:o.guard with
  |none=>rw[hog] at hg; cases hg; trivial
  |some jw=>
   obtain⟨j,w⟩:=jw;rw[hog] at hg;obtain⟨o',ho',hg⟩:=Qd hg;obtain⟨s,hs,hg⟩:=Qd hg;cases hg<;>simp_all [X5]
theorem Qat{l:List Nat}{n:Nat}:memN l n=true↔n∈l:=by
 induction l with
 |nil=>simp[memN]
 |cons x l ih=>
  simp only[memN,Bool.or_eq_true,ih,List.mem_cons]
  grind [YNB,Nat.beq_refl]
def Qby{β:Type}:List Nat→List Nat→(List Nat→β)→β
 |[],l,k=>k l
 |x::xs,l,k=>match memN l x with
  |true=>Qby xs l k
  |false=>Qby xs (x::l) k
def nthQ:List (List Nat)→Nat→List Nat
 |[],_=>[]
 |x::_,0=>x
 |_::l,n+1=>nthQ l n
def closQ{β:Type}(acc:List (List Nat)):List Nat→List Nat→(List Nat→β)→β
 |[],s,k=>k s
 |i::r,s,k=>Qby (i::nthQ acc i) s λs=>closQ acc r s k
def sortQ{β:Type}(s:List Nat):Nat→List Nat→(List Nat→β)→β
 |0,l,k=>k l
 |i+1,l,k=>match memN s i with
  |true=>sortQ s i (i::l) k
  |false=>sortQ s i l k
def Za4{β:Type}:List (List Nat)→Nat→List (List Nat)→(List (List Nat)→β)→β
 |[],_,acc,k=>k acc
 |w::r,j,acc,k=>closQ acc w [] λs=>sortQ s j [] λl=>Zag (acc++[l]) λacc=>Za4 r (j+1) acc k
def allN(p:Nat→Bool):Nat→Bool
 |0=>true
 |i+1=>p i&&allN p i
def allQ(p:Nat→Bool):List Nat→Bool
 |[]=>true
 |x::l=>p x&&allQ p l
def disjQ:List Nat→List Nat→Bool
 |[],_=>true
 |x::a,b=>!(memN b x)&&disjQ a b
def drawQ(n:Nat)(ws hd ds us:List (List Nat)):Bool:=
 allN (λj=>Zag (nthQ ws j) λwj=>Zag (nthQ hd j) λhj=>Zag (nthQ ds j) λdj=>Zag (nthQ us j) λuj=>
  allQ (λi=>Nat.blt i j) wj && (allQ (λi=>Nat.blt i j && (memN wj i || !(allQ (λk=>!(memN (nthQ hd k) i)) wj))) hj &&
  allN (λi=>memN hj i || (disjQ (nthQ ds i) uj && (disjQ (nthQ ds i) dj && disjQ (nthQ us i) dj))) j)) n
def eachQ{α β:Type}(f:α→List Nat):List α→(List (List Nat)→β)→β
 |[],k=>k []
 |x::r,k=>Zag (f x) λl=>eachQ f r λr=>k (l::r)
theorem QbQ{α β:Type}(f:α→List Nat):∀(l:List α) (k:List (List Nat)→β),eachQ f l k=k (l.map f)
 |[],_=>rfl
 |x::r,k=>by simp only[eachQ,Yag,QbQ f r,List.map_cons]
theorem Xaz:∀(l:List (List Nat)) (n:Nat),nthQ l n=(l[n]?).getD []
 |[],_=>rfl
 |x::_,0=>rfl
 |_::l,n+1=>by simp[nthQ,Xaz l n]
theorem Xaq{p:Nat→Bool}:∀ {n:Nat},allN p n=true→∀i,i<n→p i=true
 |0,_,i,h=>by omega
 |n+1,h,i,hi=>by
  simp only[allN,Bool.and_eq_true] at h;by_cases e:i=n
  ·rw[e]; exact h.1
  ·exact Xaq h.2 i (by omega)
theorem Zba{p:Nat→Bool}:∀ {l:List Nat},allQ p l=true↔∀i∈l,p i=true
 |[]=>by simp[allQ]
 |x::l=>by simp only[allQ,Bool.and_eq_true,Zba (l:=l),List.mem_cons,forall_eq_or_imp]
theorem ZbQ:∀ {a b:List Nat},disjQ a b=true→disj a b=true
 |[],_,_=>rfl
 |x::a,b,h=>by
  simp only[disjQ,disj,Bool.and_eq_true,Bool.not_eq_true'] at h ⊢;refine⟨?_,ZbQ h.2⟩;cases e:b.contains x with
  |false=>rfl
  |true=>rw[Qat.2 (List.contains_iff_mem.1 e)] at h; cases h.1
theorem QcH{ops:List Oper}{ms:List MOper}{hd:List (List Nat)}(h1:Nat.beq ops.length ms.length=true)(h2:Nat.beq hd.length ms.length=true)(h:drawQ ms.length (ops.map waits) hd (ms.map defsT) (ms.map usesT)=true):Yas ops ms hd=true:=by
 have e1:=YNB h1;unfold drawQ at h;simp only[Yag] at h;unfold Yas;simp only[Bool.and_eq_true,List.all_eq_true,List.mem_range,Bool.or_eq_true,List.any_eq_true];have key:=λj hj=>Xaq h j hj;simp only[Bool.and_eq_true,Zba] at key;have hw:∀j,j<ms.length→nthQ (ops.map waits) j=waits (ops.getD j default):=by
  simp_all [Xaz]
 have hd':∀j,nthQ hd j=Yt hd j:=λj=>Xaz _ _;have hds:∀j,j<ms.length→nthQ (ms.map defsT) j=defsT (ms.getD j default):=by
  simp_all [Xaz]
 have hus:∀j,j<ms.length→nthQ (ms.map usesT) j=usesT (ms.getD j default):=by
  simp_all [Xaz]
 refine⟨⟨⟨⟨h1,h2⟩,λj hj i hi=>?_⟩,λj hj i hi=>?_⟩,λj hj i hi=>?_⟩
 ·simp_all
 ·have:=(key j hj).2.1 i (by rw[hd']; exact hi);rw[hw j hj] at this;refine⟨this.1,?_⟩;have q:=this.2;simp only[Bool.or_eq_true,Qat,Bool.not_eq_true'] at q
  grind [Zba,Qat]
 ·have:=Xaq (key j hj).2.2 i hi;rw[hd',hds j hj,hus j hj,hds i (by omega),hus i (by omega)] at this;simp only[Bool.or_eq_true,Bool.and_eq_true,Qat] at this
  grind [ZbQ]
theorem Qbp{β:Type}:∀(ws:List (List Nat)) (j:Nat) (acc:List (List Nat)) (k:List (List Nat)→β),∃hd,Za4 ws j acc k=k hd
 |[],_,acc,_=>⟨acc,rfl⟩
 |w::r,j,acc,k=>by
  have hu:∀ {γ:Type} (xs l:List Nat) (k:List Nat→γ),∃s,Qby xs l k=k s:=by
   intro γ xs
   induction xs with
   |nil=>intro l k; exact⟨l,rfl⟩
   |cons x xs ih=>
    intro l k;unfold Qby;cases memN l x<;>simp_all
  have hc:∀ {γ:Type} (w s:List Nat) (k:List Nat→γ),∃s',closQ acc w s k=k s':=by
   intro γ w
   induction w with
   |nil=>intro s k; exact⟨s,rfl⟩
   |cons i w ih=>
    intro s k;unfold closQ;obtain⟨s1,h1⟩:=hu (i::nthQ acc i) s (λs=>closQ acc w s k);rw[h1]; exact ih s1 k
  have hs:∀ {γ:Type} (s:List Nat) (j:Nat) (l:List Nat) (k:List Nat→γ),∃l',sortQ s j l k=k l':=by
   intro γ s j
   induction j with
   |zero=>intro l k; exact⟨l,rfl⟩
   |succ j ih=>
    intro l k;unfold sortQ;cases memN s j<;>simp_all
  unfold Za4;obtain⟨s,h1⟩:=hc w [] (λs=>sortQ s j [] λl=>Zag (acc++[l]) λacc=>Za4 r (j+1) acc k);rw[h1];obtain⟨l,h2⟩:=hs s j [] (λl=>Zag (acc++[l]) λacc=>Za4 r (j+1) acc k);simp_all [Yag,Qbp]
def Yw(P:Program)(GL:Globs)(n:Nat):Code→Option MCode
 |.skip=>some .skip
 |.region id ops dr=>optB (mapM' (Qbb P GL n ops.toList) ops.toList) λms=>match dr with
  |false=>some (.region id ms none)
  |true=>eachQ waits ops.toList λws=>Za4 ws 0 [] λhd=>eachQ defsT ms λds=>eachQ usesT ms λus=>
   QQ (Nat.beq ops.toList.length ms.length&&(Nat.beq hd.length ms.length&&drawQ ms.length ws hd ds us)) (some (.region id ms (some hd)))
 |.seq a b=>optB (Yw P GL n a) λx=>optB (Yw P GL n b) λy=>some (.seq x y)
 |.cond c a b=>optB (ZbB GL c) λd=>optB (Yw P GL n a) λx=>optB (Yw P GL n b) λy=>some (.cond d x y)
 |.block id a=>optB (Yw P GL n a) λx=>some (.block id x)
 |.loop a=>optB (Yw P GL n a) λx=>some (.loop x)
 |.scope a=>optB (Yw P GL n a) λx=>some (.scope x)
 |.exit id=>some (.exit id)
 |.label l=>some (.label l)
 |.ret=>some .ret
 |_=>none
theorem Ybr{α β:Type}{f:α→Option β}:∀ {l:List α} {r:List β},mapM' f l=some r→l.length=r.length∧∀(j:Nat) (b:β),r[j]?=some b→∃a,l[j]?=some a∧f a=some b
 |[],r,h=>by simp[mapM'] at h; subst h; simp
 |a::l,r,h=>by
  obtain⟨b,hb,h⟩:=Qd h;obtain⟨r',hr,h⟩:=Qd h;cases h;obtain⟨h1,h2⟩:=Ybr hr
  grind
theorem QbA{P:Program}{GL:Globs}{n:Nat}:∀ {c:Code} {m:MCode},Yw P GL n c=some m→CodeOk P GL n c m:=by
 intro c
 induction c with
 |skip=>intro m h; cases h; exact .skip
 |region id ops dr=>
  intro m h;simp only[Yw] at h;obtain⟨ms,hm,h⟩:=Qd h;obtain⟨h1,h2⟩:=Ybr hm;have hok:∀(j:Nat) (x:MOper),ms[j]?=some x→∃o,ops[j]?=some o∧OperOk P GL n ops o x:=λj x e=>by
   grind [YbB]
  cases dr with
  |false=>cases h; exact .region _ _ _ (by simpa using h1) hok
  |true=>
   simp only[QbQ] at h;obtain⟨hd,hh⟩:=Qbp (ops.toList.map waits) 0 [] (λhd=>QQ (Nat.beq ops.toList.length ms.length&&(Nat.beq hd.length ms.length&&drawQ ms.length (ops.toList.map waits) hd (ms.map defsT) (ms.map usesT))) (some (MCode.region id ms (some hd))));rw[hh] at h;obtain⟨hg,h⟩:=Yo h;simp only[Bool.and_eq_true] at hg;cases h; exact .draw _ _ _ _ (by simpa using h1) hok (QcH hg.1 hg.2.1 hg.2.2)
 |seq a b iha ihb=>
  intro m h;simp only[Yw] at h;obtain⟨x,hx,h⟩:=Qd h;obtain⟨y,hy,h⟩:=Qd h;cases h; exact .seq _ _ _ _ (iha hx) (ihb hy)
 |cond c a b iha ihb=>
  intro m h;simp only[Yw] at h;obtain⟨d,hd,h⟩:=Qd h;obtain⟨x,hx,h⟩:=Qd h;obtain⟨y,hy,h⟩:=Qd h;cases h; exact .cond _ _ _ _ _ _ (Xa2 hd) (iha hx) (ihb hy)
 |block id a ih=>
  intro m h;simp only[Yw] at h;obtain⟨x,hx,h⟩:=Qd h;cases h; exact .block _ _ _ (ih hx)
 |loop a ih=>
  intro m h;simp only[Yw] at h;obtain⟨x,hx,h⟩:=Qd h;cases h; exact .loop _ _ (ih hx)
 |scope a ih=>
  intro m h;simp only[Yw] at h;obtain⟨x,hx,h⟩:=Qd h;cases h; exact .scope _ _ (ih hx)
 |exit id=>intro m h; cases h; exact .exit _
 |label l=>intro m h; cases h; exact .label _
 |ret=>intro m h; cases h; exact .ret
 |_=>intro m h; simp[Yw] at h
def Yci(P:Program):ResultVar→Option RV
 |.tmp t=>some (.t t)
 |.cell s t=>optB (isAgg? P t) λagg=>optB (size? P t) λn=>some (.c s agg n)
theorem Qb1{P:Program}{r:ResultVar}{v:RV}(h:Yci P r=some v):RvOk P r v:=by
 cases r with
 |tmp t=>cases h; exact .tmp _
 |cell s t=>
  obtain⟨agg,ha,h⟩:=Qd h;obtain⟨n,hn,h⟩:=Qd h;cases h; exact .cell _ _ _ _ ha hn
def Zch(P:Program)(GL:Globs)(np:Nat)(f:FuncId):Option MFn:=
 optB P.funcs[f]? λfn=>optB fn.body λc=>QQ (Nat.ble np fn.ntmps) (optB (Yw P GL fn.ntmps c) λm=>optB (mapM' (Yci P) fn.results.toList) λrs=>some ⟨np,fn.ntmps,m,rs⟩)
theorem Ych{P:Program}{GL:Globs}{np:Nat}{f:FuncId}{F:MFn}(h:Zch P GL np f=some F):FnOk P GL f F:=by
 unfold Zch at h;obtain⟨fn,h1,h⟩:=Qd h;obtain⟨c,h2,h⟩:=Qd h;obtain⟨h3,h⟩:=Yo h;obtain⟨m,h4,h⟩:=Qd h;obtain⟨rs,h5,h⟩:=Qd h;cases h;exact⟨⟨fn,c,h1,h2,rfl,QbA h4,Qay Qb1 h5⟩,YNL h3⟩
theorem Bor.ptr{h0:Hp}{rd:List Nat}{b i j sz:Nat}{rs:List (List AVal)}{row row':List AVal}(hb:h0 b=some (.rows sz rs))(hin:b∈rd)(hi:rs[i]?=some row)(hr:BorL h0 rd row row'):Bor h0 rd (.ptr b i j) (.rptr row' j):=by
 intro GL w0 L g h w M2 r hM hrd v d;have hb':h b=some (.rows sz rs):=by rw[hrd b hin]; exact hb
 cases d with
 |ptr _ _ _ _ cb ec=>
 cases hvirt:cb.virt with
 |true=>
  have:=(r.virtRows hb' ec hvirt).2;subst this; simp at hi
 |false=>
 obtain⟨e1,arr,T,ho',hs,hle,hrow,hden⟩:=r.rowsBlk hb' ec hvirt;have hw:M2 cb.blk=some (.cells arr T (0,0)):=hM.2 b _ cb _ hb' rfl ec hvirt ho';have hlt:i<rs.length:=(YLG hi).1;have hrl:=hrow _ _ hi;have hin2:∀k,k<sz→cb.base+i*sz+k<arr.size:=by
  intro k hk;have:(i+1)*sz≤rs.length*sz:=Nat.mul_le_mul_right sz hlt;rw[Nat.succ_mul] at this; omega
 obtain⟨k1,k2⟩:=hr.get r hM hrd (vs:=(arr.extract (cb.base + i * sz) (cb.base + i * sz + sz)).toList) (by
  simp[hrl];by_cases h0:sz=0
  ·subst h0; simp
  ·have:=hin2 (sz-1) (by omega); omega) (λk x v q3 q4=>by
  have hk:k<sz:=by rw[←hrl]; exact(YLG q3).1
  have hl2:=hin2 k hk;rw[Array.getElem?_toList] at q4;obtain⟨_,q4⟩:=Array.getElem?_eq_some_iff.1 q4;rw[Array.getElem_extract] at q4;exact hden _ row k x v hi q3 (by rw[Array.getElem?_eq_getElem hl2,q4]))
 have hlen:row'.length=sz:=by
  rw[k1]; simp;by_cases h0:sz=0
  ·subst h0; simp
  ·have:=hin2 (sz-1) (by omega); omega
 rw[e1];refine .rptr _ _ _ _ _ (λk=>(arr[cb.base+i*sz+k]?).getD undef) (λk hk=>?_) (λk x e=>?_)
 ·have hk':=hin2 k (by omega);simp[mcell,hw,hk']
 ·have hk:k<sz:=by rw[←hlen]; exact(YLG e).1
  have hl2:=hin2 k hk;simp only[Array.getElem?_eq_getElem hl2,Option.getD_some];refine k2 k x _ e ?_;rw[Array.getElem?_toList,Array.getElem?_eq_getElem (by simp; omega),Array.getElem_extract]
def ZaT(f:List AVal→Option (List AVal×List Nat)):List (List AVal)→Option (List (List AVal)×List Nat)
 |[]=>some ([],[])
 |r::rs=>match f r,ZaT f rs with
  |some (r',rd),some (rs',rd')=>some (r'::rs',rd++rd')
  |_,_=>none
def roES:List (AVal×AVal)→Bool
 |[]=>true
 |(k,v)::r=>k.ro&&(v.ro&&roES r)
def Xs(σ:List ABlk):Nat→List AVal→Option (List AVal×List Nat)
 |_,[]=>some ([],[])
 |0,_::_=>none
 |fuel+1,x::xs=>match Xs σ fuel xs with
  |none=>none
  |some (ys,rd)=>match x with
   |.bptr b j=>match hget σ b with
    |.box row=>match Xs σ fuel row with
     |some (row',rd')=>some (.rptr row' j::ys,b::rd'++rd)
     |none=>none
    |_=>none
   |.ptr b i j=>match hget σ b with
    |.rows _ rs=>match nth rs i with
     |some row=>match Xs σ fuel row with
      |some (row',rd')=>some (.rptr row' j::ys,b::rd'++rd)
      |none=>none
     |none=>none
    |_=>none
   |.sl b off len ex=>match hget σ b with
    | .rows sz rs=>bif Nat.ble (off + len) rs.length then (match ZaT (Xs σ fuel) (cut off (off + len) rs) with
     |some (rs',rd')=>some (.rsl ex false sz rs'::ys,b::rd'++rd)
     | none=>none) else none
    |_=>none
   |.map b=>match hget σ b with
    |.map es=>bif roES es then some (.rmap es::ys,b::rd) else none
    |_=>none
   |.iface t v=>match Xs σ fuel [v] with
    |some ([v'],rd')=>some (.iface t v'::ys,rd'++rd)
    |_=>none
   |.agg cs=>match Xs σ fuel cs with
    |some (cs',rd')=>some (.agg cs'::ys,rd'++rd)
    |_=>none
   |.func fn a b=>match Xs σ fuel a,Xs σ fuel b with
    |some (a',rd'),some (b',rd'')=>some (.func fn a' b'::ys,rd'++rd''++rd)
    |_,_=>none
   |x=>bif x.ro then some (x::ys,rd) else none
theorem Qct:∀ {es:List (AVal×AVal)},roES es=true→∀p∈es,p.1.ro=true∧p.2.ro=true
 |[],_,_,h=>by cases h
 |(k,v)::r,h,p,hp=>by
  simp only[roES,Bool.and_eq_true] at h;rcases List.mem_cons.1 hp with rfl|hp
  ·exact⟨h.1,h.2.1⟩
  ·exact Qct h.2.2 p hp
theorem Xa5{f:List AVal→Option (List AVal×List Nat)}:∀ {rs rs':List (List AVal)} {rd:List Nat},ZaT f rs=some (rs',rd)→rs'.length=rs.length∧∀(i:Nat) (r r':List AVal),rs[i]?=some r→rs'[i]?=some r'→∃rd',f r=some (r',rd')∧∀b∈rd',b∈rd
 |[],rs',rd,h=>by simp only[ZaT] at h; cases h; simp
 |r::rs,rs',rd,h=>by
  simp only[ZaT] at h;split at h
  ·rename_i r1 rd1 rs1 rd2 e1 e2;cases h;obtain⟨h1,h2⟩:=Xa5 e2;refine⟨by simp[h1],λi x x' q1 q2=>?_⟩;cases i with
   |zero=>simp at q1 q2; subst q1 q2; exact⟨rd1,e1,λb hb=>List.mem_append.2 (.inl hb)⟩
   |succ i=>
    simp at q1 q2;obtain⟨rd',k1,k2⟩:=h2 i x x' q1 q2;exact⟨rd',k1,λb hb=>List.mem_append.2 (.inr (k2 b hb))⟩
  ·cases h
theorem Z3{σ:List ABlk}:∀(fuel:Nat) (xs ys:List AVal) (rd:List Nat),Xs σ fuel xs=some (ys,rd)→∀rd',(∀b∈rd,b∈rd')→BorL (hp σ) rd' xs ys:=by
 intro fuel
 induction fuel with
 |zero=>
  intro xs ys rd h rd' hs;cases xs<;>simp_all [Xs,BorL.nil]
 |succ fuel ih=>
  intro xs ys rd h rd' hs;cases xs with
  |nil=>simp_all [Xs]
  |cons x xs=>
   simp only[Xs] at h;cases h0:Xs σ fuel xs with
   |none=>simp[h0] at h
   |some p=>
    obtain⟨ys0,rd0⟩:=p;simp only[h0] at h;split at h
    ·rename_i b j;split at h<;>grind [BorL.cons,Bor.box,ZaL]
    ·rename_i b i j;split at h
     ·rename_i sz rs hg;split at h<;>grind [X5,BorL.cons,Bor.ptr,Yz]
     ·cases h
    ·rename_i b off len ex;split at h
     ·rename_i sz rs hg
      replace h:=Yu h
      obtain⟨hle,h⟩:=h;split at h
      ·rename_i rs' rd1 hr;cases h;obtain⟨m1,m2⟩:=Xa5 hr;have hle':=YNL hle;refine BorL.cons (Bor.sl (Yz hg) (hs _ (by simp)) hle' (by rw[m1,X3 hle']; omega) (λi r r' q1 q2=>?_)) (ih _ _ _ h0 rd' (λq hq=>hs q (by simp[hq])));have hi:i<len:=by
        grind [X3]
       have hc:(cut off (off+len) rs)[i]?=some r:=by
        grind [cut]
       grind
      ·cases h
     ·cases h
    ·rename_i b;split at h
     ·rename_i es hg
      replace h:=Yu h
      obtain⟨hro,h⟩:=h;cases h;exact BorL.cons (Bor.map (YaL hg) (hs _ (by simp)) (Qct hro)) (ih _ _ _ h0 rd' (λq hq=>hs q (by simp[hq])))
     ·cases h
    ·split at h
     ·rename_i v' rd1 hr;cases h;have:=ih _ _ _ hr rd' (λq hq=>hs q (by simp[hq]));refine BorL.cons (Bor.iface (λGL w0 L g h w M2 r hM hrd v d=>?_)) (ih _ _ _ h0 rd' (λq hq=>hs q (by simp[hq])));exact(this GL w0 L g h w M2 r hM hrd [v] ⟨d,trivial⟩).1
     ·cases h
    ·grind [BorL.cons,Bor.agg]
    ·grind [BorL.cons,Bor.func]
    ·replace h:=Yu h
     grind [BorL.cons,Bor.ro]
end Go.Ah
end
section
namespace Go.Ah
mutual
def AVal.ren (m:Nat→Option Nat):AVal→AVal
 |.bptr b j=>match m b with
  |some b'=>.bptr b' j
  |none=>.junk
 |.ptr b i j=>match m b with
  |some b'=>.ptr b' i j
  |none=>.junk
 |.sl b off len ex=>match m b with
  |some b'=>.sl b' off len ex
  |none=>.junk
 |.map b=>match m b with
  |some b'=>.map b'
  |none=>.junk
 |.iter b=>match m b with
  |some b'=>.iter b'
  |none=>.junk
 |.func fn xs ys=>.func fn (renL m xs) (renL m ys)
 |.iface t v=>.iface t (v.ren m)
 |.agg cs=>.agg (renL m cs)
 |.tup cs=>.tup (renL m cs)
 |.when cs x=>.when cs (x.ren m)
 |.junk=>.junk
 |.bool b=>.bool b
 |.int k n=>.int k n
 |.str s=>.str s
 |.nilp=>.nilp
 |.rptr row j=>.rptr row j
 |.nils=>.nils
 |.cap0=>.cap0
 |.rsl a b c d=>.rsl a b c d
 |.rmap es=>.rmap es
 |.nilmap=>.nilmap
 |.nilf=>.nilf
 |.nili=>.nili
def renL (m:Nat→Option Nat):List AVal→List AVal
 |[]=>[]
 |x::xs=>x.ren m::renL m xs
end
theorem Ybi(m:Nat→Option Nat):∀xs:List AVal,renL m xs=xs.map (AVal.ren m)
 |[]=>rfl
 |x::xs=>by simp[renL,Ybi m xs]
theorem Xai{m:Nat→Option Nat}{xs:List AVal}{i:Nat}{y:AVal}(h:(renL m xs)[i]?=some y):∃x,xs[i]?=some x∧y=x.ren m:=by
 rw[Ybi,List.getElem?_map] at h
 grind
theorem Xv(m:Nat→Option Nat)(xs:List AVal):(renL m xs).length=xs.length:=by rw[Ybi]; simp
theorem Den.ren{M:Nat→Option Obj}{m:Nat→Option Nat}{c':Own}{c:Own}{x:AVal}{v:Value}(h:Den M c x v):(∀b b' cb,m b=some b'→c b=some cb→c' b'=some cb)→Den M c' (x.ren m) v:=by
 induction h with
 |junk=>intro _; exact .junk _ _
 |bool=>intro _; exact .bool _ _
 |int=>intro _; exact .int _ _ _
 |str=>intro _; exact .str _ _
 |nilp=>intro _; exact .nilp _
 |bptr c b j cb e=>
  intro hm; simp only[AVal.ren];cases hb:m b with
  |none=>exact .junk _ _
  |some b'=>exact .bptr _ _ _ _ (hm _ _ _ hb e)
 |ptr c b i j cb e=>
  intro hm; simp only[AVal.ren];cases hb:m b with
  |none=>exact .junk _ _
  |some b'=>exact .ptr _ _ _ _ _ (hm _ _ _ hb e)
 |rptr c row j blk off f h1 h2 ih=>intro _; exact .rptr _ _ _ _ _ f h1 h2
 |nils=>intro _; exact .nils _
 |cap0=>intro _; exact .cap0 _ _
 |sl c b off len ex cb cap e h1 h2 h3 h4=>
  intro hm; simp only[AVal.ren];cases hb:m b with
  |none=>exact .junk _ _
  |some b'=>exact .sl _ _ _ _ _ _ _ (hm _ _ _ hb e) h1 h2 h3 h4
 |slv c b ex cb a e h1=>
  intro hm; simp only[AVal.ren];cases hb:m b with
  |none=>exact .junk _ _
  |some b'=>exact .slv _ _ _ _ _ (hm _ _ _ hb e) h1
 |sle c b off ex cb a e h1 h2 h3=>
  intro hm; simp only[AVal.ren];cases hb:m b with
  |none=>exact .junk _ _
  |some b'=>exact .sle _ _ _ _ _ _ (hm _ _ _ hb e) h1 h2 h3
 |rsl c ex nn sz rows a cap blk off f h1 h2 h3 h3' h4 h5 h6 h7 ih=>intro _; exact .rsl _ _ _ _ _ _ _ blk off f h1 h2 h3 h3' h4 h5 h6 h7
 |map c b cb e=>
  intro hm; simp only[AVal.ren];cases hb:m b with
  |none=>exact .junk _ _
  |some b'=>exact .map _ _ _ (hm _ _ _ hb e)
 |rmap c es blk arr clock e h1 h2 h3 ih1 ih2=>intro _; exact .rmap _ _ _ _ _ e h1 h2 h3
 |nilmap=>intro _; exact .nilmap _
 |func c fn first captured vs ws h1 h2 h3 h4 ih1 ih2=>
  intro hm; simp only[AVal.ren];exact .func _ _ _ _ _ _ (by rw[Xv]; exact h1) (by rw[Xv]; exact h2)
   (λi y u e1 e2=>by obtain⟨x,q1,rfl⟩:=Xai e1; exact ih1 i x u q1 e2 hm) (λi y u e1 e2=>by obtain⟨x,q1,rfl⟩:=Xai e1; exact ih2 i x u q1 e2 hm)
 |nilf=>intro _; exact .nilf _
 |iface c t x v h ih=>intro hm; exact .iface _ _ _ _ (ih hm)
 |nili=>intro _; exact .nili _
 |agg c cs vs h1 h2 ih=>intro hm; simp only[AVal.ren]; exact .agg _ _ _ (by rw[Xv]; exact h1) (λi y u e1 e2=>by obtain⟨x,q1,rfl⟩:=Xai e1; exact ih i x u q1 e2 hm)
 |tup c cs vs h1 h2 ih=>intro hm; simp only[AVal.ren]; exact .tup _ _ _ (by rw[Xv]; exact h1) (λi y u e1 e2=>by obtain⟨x,q1,rfl⟩:=Xai e1; exact ih i x u q1 e2 hm)
 |when c cs x v h h2 ih=>intro hm; exact .when _ _ _ _ (λhp=>ih hp hm) h2
 |iter c b cb e=>
  intro hm; simp only[AVal.ren];cases hb:m b with
  |none=>exact .junk _ _
  |some b'=>exact .iter _ _ _ (hm _ _ _ hb e)
mutual
def AVal.nosh:AVal→Bool
 |.rptr _ _=>false
 |.rsl _ _ _ (_::_)=>false
 |.rmap _=>false
 |.func _ xs ys=>noshL xs&&noshL ys
 |.iface _ v=>v.nosh
 |.agg cs=>noshL cs
 |.tup cs=>noshL cs
 |.when _ x=>x.nosh
 |_=>true
def noshL:List AVal→Bool
 |[]=>true
 |x::xs=>x.nosh&&noshL xs
end
theorem Xad:∀ {xs:List AVal} {i:Nat} {x:AVal},noshL xs=true→xs[i]?=some x→x.nosh=true
 |[],i,x,_,e=>by simp at e
 |y::xs,0,x,h,e=>by simp_all [noshL]
 |y::xs,i+1,x,h,e=>by simp[noshL] at h; simp at e; exact Xad h.2 e
mutual
theorem AVal.nosh_ren (m:Nat→Option Nat):∀(x:AVal),x.nosh=true→(x.ren m).nosh=true
 |.bptr b j,_=>by simp only[AVal.ren]; split<;>rfl
 |.ptr b i j,_=>by simp only[AVal.ren]; split<;>rfl
 |.sl b off len ex,_=>by simp only[AVal.ren]; split<;>rfl
 |.map b,_=>by simp only[AVal.ren]; split<;>rfl
 |.iter b,_=>by simp only[AVal.ren]; split<;>rfl
 |.func fn xs ys,h=>by
  simp only[AVal.nosh,Bool.and_eq_true] at h
  simp only[AVal.ren,AVal.nosh,Bool.and_eq_true]
  exact⟨Qad m xs h.1,Qad m ys h.2⟩
 |.iface t v,h=>by simp only[AVal.nosh] at h; simp only[AVal.ren,AVal.nosh]; exact AVal.nosh_ren m v h
 |.agg cs,h=>by simp only[AVal.nosh] at h; simp only[AVal.ren,AVal.nosh]; exact Qad m cs h
 |.tup cs,h=>by simp only[AVal.nosh] at h; simp only[AVal.ren,AVal.nosh]; exact Qad m cs h
 |.when cs x,h=>by simp only[AVal.nosh] at h; simp only[AVal.ren,AVal.nosh]; exact AVal.nosh_ren m x h
 |.junk,_=>rfl
 |.bool b,_=>rfl
 |.int k n,_=>rfl
 |.str s,_=>rfl
 |.nilp,_=>rfl
 |.rptr row j,h=>h
 |.nils,_=>rfl
 |.cap0,_=>rfl
 |.rsl a b c d,h=>h
 |.rmap es,h=>h
 |.nilmap,_=>rfl
 |.nilf,_=>rfl
 |.nili,_=>rfl
theorem Qad (m:Nat→Option Nat):∀(xs:List AVal),noshL xs=true→noshL (renL m xs)=true
 |[],_=>rfl
 |x::xs,h=>by
  simp only[noshL,Bool.and_eq_true] at h
  simp only[renL,noshL,Bool.and_eq_true]
  exact⟨AVal.nosh_ren m x h.1,Qad m xs h.2⟩
end
def ABlk.mapV(f:AVal→AVal):ABlk→ABlk
 |.dead=>.dead
 |.box row=>.box (row.map f)
 |.rows sz rs=>.rows sz (rs.map λr=>r.map f)
 |.map es=>.map (es.map λp=>(f p.1,f p.2))
 |.siter s p=>.siter s p
 |.full sz rs=>.full sz (rs.map λr=>r.map f)
def ABlk.AllV(p:AVal→Prop):ABlk→Prop
 |.dead=>True
 |.box row=>∀x∈row,p x
 |.rows _ rs=>∀r∈rs,∀x∈r,p x
 |.map es=>∀e∈es,p e.1∧p e.2
 |.siter _ _=>True
 |.full _ rs=>∀r∈rs,∀x∈r,p x
def XR:List (List AVal)→Bool
 |[]=>true
 |r::rs=>noshL r&&XR rs
def ZbW:List (AVal×AVal)→Bool
 |[]=>true
 |(k,v)::r=>k.nosh&&(v.nosh&&ZbW r)
def ABlk.nosh:ABlk→Bool
 |.dead=>true
 |.box row=>noshL row
 |.rows _ rs=>XR rs
 |.map es=>ZbW es
 |.siter _ _=>true
 |.full _ rs=>XR rs
def Xak:List ABlk→Bool
 |[]=>true
 |b::bs=>b.nosh&&Xak bs
theorem YaU:∀ {xs:List AVal},noshL xs=true→∀x∈xs,x.nosh=true
 |y::xs,h,x,hx=>by
  simp only[noshL,Bool.and_eq_true] at h;rcases List.mem_cons.1 hx with rfl|hx
  ·exact h.1
  ·exact YaU h.2 x hx
theorem Zae:∀ {rs:List (List AVal)},XR rs=true→∀r∈rs,∀x∈r,x.nosh=true
 |y::rs,h,r,hr=>by
  simp only[XR,Bool.and_eq_true] at h;rcases List.mem_cons.1 hr with rfl|hr
  ·exact YaU h.1
  ·exact Zae h.2 r hr
theorem Ya7:∀ {es:List (AVal×AVal)},ZbW es=true→∀e∈es,e.1.nosh=true∧e.2.nosh=true
 |(k,v)::r,h,e,he=>by
  simp only[ZbW,Bool.and_eq_true] at h;rcases List.mem_cons.1 he with rfl|he
  ·exact⟨h.1,h.2.1⟩
  ·exact Ya7 h.2.2 e he
theorem ABlk.nosh_all{b:ABlk}(h:b.nosh=true):b.AllV (λx=>x.nosh=true):=by
 cases b with
 |dead=>trivial
 |box row=>exact YaU h
 |rows sz rs=>exact Zae h
 |map es=>exact Ya7 h
 |siter s q=>trivial
 |full sz rs=>exact Zae h
theorem Za7:∀ {bs:List ABlk},Xak bs=true→∀b∈bs,b.AllV (λx=>x.nosh=true)
 |y::bs,h,b,hb=>by
  simp only[Xak,Bool.and_eq_true] at h;rcases List.mem_cons.1 hb with rfl|hb
  ·exact ABlk.nosh_all h.1
  ·exact Za7 h.2 b hb
theorem ABlk.all_true(b:ABlk):b.AllV (λ_=>True):=by
 cases b<;>simp[ABlk.AllV]
theorem Den.nosh{M:Nat→Option Obj}{c:Own}{x:AVal}{v:Value}(h:Den M c x v):x.nosh=true→∀M',Den M' c x v:=by
 induction h with
 |junk=>intro _ _; exact .junk _ _
 |bool=>intro _ _; exact .bool _ _
 |int=>intro _ _; exact .int _ _ _
 |str=>intro _ _; exact .str _ _
 |nilp=>intro _ _; exact .nilp _
 |bptr c b j cb e=>intro _ _; exact .bptr _ _ _ _ e
 |ptr c b i j cb e=>intro _ _; exact .ptr _ _ _ _ _ e
 |rptr=>intro h; simp[AVal.nosh] at h
 |nils=>intro _ _; exact .nils _
 |cap0=>intro _ _; exact .cap0 _ _
 |sl c b off len ex cb cap e h1 h2 h3 h4=>intro _ _; exact .sl _ _ _ _ _ _ _ e h1 h2 h3 h4
 |slv c b ex cb a e h1=>intro _ _; exact .slv _ _ _ _ _ e h1
 |sle c b off ex cb a e h1 h2 h3=>intro _ _; exact .sle _ _ _ _ _ _ e h1 h2 h3
 |rsl c ex nn sz rows a cap blk off f h1 h2 h3 h3' h4 h5 h6 h7 ih=>
  intro h M';cases rows with
  |nil=>exact .rsl _ _ _ _ [] _ _ blk off f h1 h2 h3 h3' h4 h5 (by simp) (by simp)
  |cons r rs=>simp[AVal.nosh] at h
 |map c b cb e=>intro _ _; exact .map _ _ _ e
 |rmap=>intro h; simp[AVal.nosh] at h
 |nilmap=>intro _ _; exact .nilmap _
 |func c fn first captured vs ws h1 h2 h3 h4 ih1 ih2=>
  intro h M';simp[AVal.nosh] at h;exact .func _ _ _ _ _ _ h1 h2 (λi x v e1 e2=>ih1 i x v e1 e2 (Xad h.1 e1) M') (λi x v e1 e2=>ih2 i x v e1 e2 (Xad h.2 e1) M')
 |nilf=>intro _ _; exact .nilf _
 |iface c t x v h ih=>intro hr M'; exact .iface _ _ _ _ (ih (by simpa[AVal.nosh] using hr) M')
 |nili=>intro _ _; exact .nili _
 |agg c cs vs h1 h2 ih=>intro h M'; exact .agg _ _ _ h1 (λi x v e1 e2=>ih i x v e1 e2 (Xad (by simpa[AVal.nosh] using h) e1) M')
 |tup c cs vs h1 h2 ih=>intro h M'; exact .tup _ _ _ h1 (λi x v e1 e2=>ih i x v e1 e2 (Xad (by simpa[AVal.nosh] using h) e1) M')
 |when c cs x v h h2 ih=>intro hr M'; exact .when _ _ _ _ (λhp=>ih hp (by simpa[AVal.nosh] using hr) M') h2
 |iter c b cb e=>intro _ _; exact .iter _ _ _ e
theorem ABlk.mapV_live(f:AVal→AVal)(b:ABlk):(b.mapV f).live=b.live:=by cases b<;>rfl
theorem BlkOk.mapV{M M':Nat→Option Obj}{c c':Own}{f:AVal→AVal}{p:AVal→Prop}(hf:∀x v,p x→Den M c x v→Den M' c' (f x) v){cb:CB}{o:Obj}{b:ABlk}(h:BlkOk M c cb o b)(hp:b.AllV p):BlkOk M' c' cb o (b.mapV f):=by
 cases b with
 |dead=>trivial
 |box row=>
  obtain⟨arr,T,h1,h2,h3⟩:=h;refine⟨arr,T,h1,by simpa using h2,λj x v e1 e2=>?_⟩;rw[List.getElem?_map] at e1;cases hx:row[j]? with
  |none=>simp[hx] at e1
  |some y=>simp[hx] at e1; subst e1; exact hf y v (hp y (List.mem_of_getElem? hx)) (h3 j y v hx e2)
 |rows sz rows=>
  obtain⟨h0,arr,T,h1,h2,h3,h4,h5⟩:=h;refine⟨h0,arr,T,h1,h2,by simpa using h3,λi row e=>?_,λi row j x v e1 e2 e3=>?_⟩
  ·grind
  ·rw[List.getElem?_map] at e1;cases hx:rows[i]? with
   |none=>simp[hx] at e1
   |some y=>
    simp[hx] at e1; subst e1;rw[List.getElem?_map] at e2;cases hy:y[j]? with
    |none=>simp[hy] at e2
    |some z=>simp[hy] at e2; subst e2; exact hf z v (hp y (List.mem_of_getElem? hx) z (List.mem_of_getElem? hy)) (h5 i y j z v hx hy e3)
 |map es=>
  obtain⟨arr,clock,h1,h2,h3⟩:=h;refine⟨arr,clock,h1,by simpa using h2,λi k x e e1 e2=>?_⟩;rw[List.getElem?_map] at e1;cases hx:es[i]? with
  |none=>simp[hx] at e1
  |some y=>
   simp[hx] at e1; obtain⟨rfl,rfl⟩:=e1;have:=h3 i y.1 y.2 e hx e2;have hpy:=hp y (List.mem_of_getElem? hx);simp_all
 |siter s q=>exact h
 |full sz rows=>
  obtain⟨hq,h0,arr,T,h1,h2,h3,h4,h5⟩:=h;refine⟨by simpa using hq,h0,arr,T,h1,h2,by simpa using h3,λi row e=>?_,λi row j x v e1 e2 e3=>?_⟩
  ·grind
  ·rw[List.getElem?_map] at e1;cases hx:rows[i]? with
   |none=>simp[hx] at e1
   |some y=>
    simp[hx] at e1; subst e1;rw[List.getElem?_map] at e2;cases hy:y[j]? with
    |none=>simp[hy] at e2
    |some z=>simp[hy] at e2; subst e2; exact hf z v (hp y (List.mem_of_getElem? hx) z (List.mem_of_getElem? hy)) (h5 i y j z v hx hy e3)
def Zw(N:Nat):Nat→Option Nat:=λb=>some (b+N)
def Xt(N:Nat):List ABlk→List (Nat×ABlk)
 |[]=>[]
 |b::bs=>(N,b)::Xt (N+1) bs
theorem XaD:∀(bs:List ABlk) (N:Nat) (h:Hp) (b:Nat),hups h (Xt N bs) b=if N≤b∧b<N+bs.length then bs[b-N]? else h b
 |[],N,h,b=>by simp[Xt,hups]; intro h1 h2; omega
 |x::bs,N,h,b=>by
  simp only[Xt,hups];rw[XaD bs (N+1)];by_cases h1:b=N
  ·subst h1; rw[if_neg (by omega),if_pos (by simp),Ym]; simp
  ·by_cases h2:N+1≤b∧b<N+1+bs.length
   ·grind
   ·rw[if_neg h2,if_neg (by simp; omega),Xl _ _ h1]
section
variable {P:Program} {GL:Globs}
def NCall(P:Program)(GL:Globs)(f:FuncId)(xs:List AVal)(v:AVal)(bs:List ABlk):Prop:=
 ∀(w:World) (M:Nat→Option Obj) (vs:List Value),(∀b o,M b=some o→w.heap[b]?=some o)→(∀p∈GL,Den M noOwn (.rptr p.2 0) (.pointer (some ⟨p.1,0,none⟩)))→DenL ⟨M,noOwn⟩ xs vs →
  Calls P f vs.toArray w λe w'=>∃u,e=.returned u∧∃g',MLe M g'.M∧Rep GL w ⟨[],M⟩ g' (hp bs) w'∧g'.den v u
theorem ZaE{f:FuncId}{F:MFn}(ok:FnOk P GL f F){xs:List AVal}(hn:xs.length=F.np){v:AVal}{bs:List ABlk}
 (h:Awp P GL F.n F.body (frame0 xs) [] (λe ρ σ=>(e=.normal∨e=.ret)∧retV F.rets ρ σ=some v∧σ=bs)):NCall P GL f xs v bs:=by
 intro w M vs hM hg hx;obtain⟨fn,c,h1,h2,h3,h4,h5⟩:=ok.ok;have r0:=Rep.start (GL:=GL) w M hM hg;have hh:hp []=noHp:=by funext b; simp[hp,noHp]
 rw[←hh] at r0;have d0:=X4 hx (n:=F.n) (by rw[hn]; exact ok.np);refine calls_of_wp h1 h2 ?_;rw[h3];refine wp_mono (h c h4 w ⟨[],M⟩ _ _ w r0 d0) (λe a' w' hl=>?_);have fin:∀g' ρ σ,(⟨M,noOwn⟩:Gm).Le g'→Rep GL w ⟨[],M⟩ g' (hp σ) w'→DenF F.n g' ρ a'→(retV F.rets ρ σ=some v∧σ=bs)→∃u,(results fn a'.tmps).run P w'=.ok u w'∧(∃u',Ending.returned u=.returned u'∧∃g',MLe M g'.M∧Rep GL w ⟨[],M⟩ g' (hp bs) w'∧g'.den v u'):=by
  rintro g' ρ σ hle hr hd ⟨hret,rfl⟩;obtain⟨u,k1,k2⟩:=Yau hr hd h5 hret;exact⟨u,k1,u,rfl,g',hle.m,hr,k2⟩
 cases e with
 |normal=>obtain⟨g',ρ,σ,k1,k2,k3,k4⟩:=hl; exact⟨k3.defers,fin g' ρ σ k1 k2 k3 k4.2⟩
 |ret=>obtain⟨g',ρ,σ,k1,k2,k3,k4⟩:=hl; exact⟨k3.defers,fin g' ρ σ k1 k2 k3 k4.2⟩
 |exit id=>obtain⟨g',ρ,σ,k1,k2,k3,k4⟩:=hl; rcases k4.1 with q|q<;>cases q
 |_=>exact hl.elim
theorem Rep.joinG{w0:World}{L:Ln}{g:Gm}{h:Hp}{w w':World}(r:Rep GL w0 L g h w){M:Nat→Option Obj}{g':Gm}{h':Hp}{bs:List ABlk}(r':Rep GL w ⟨[],M⟩ g' h' w')(s:Nat)(hs:∀i,i<bs.length→h' (s+i)=bs[i]?)(m:Nat→Option Nat)(M2:Nat→Option Obj)(p:AVal→Prop)
 (hM:MLe g.M M2)(hst:∀b o,M2 b=some o→w'.heap[b]?=some o)(hsrc:∀b o,M2 b=some o→g.M b=some o∨w.heap.size≤b)(hfresh:∀b,w.heap.size≤b→g'.M b=none→M2 b=none)
 (hden:∀c x v,p x→Den g'.M c x v→Den M2 c x v)(hp':∀b∈bs,b.AllV p)(hren:∀x m,p x→p (AVal.ren m x)){N:Nat}(hN:∀i,i<bs.length→h (N+i)=none)
 (hm:∀b b' cb,m b=some b'→g'.c b=some cb→(∃i,i<bs.length∧b=s+i∧b'=N+i)∨(g.c b'=some cb)) :
  ∃c2,CLe g.c c2∧(∀b b' cb,m b=some b'→g'.c b=some cb→c2 b'=some cb)∧Rep GL w0 L ⟨M2,c2⟩ (hups h (Xt N (bs.map (ABlk.mapV (AVal.ren m))))) w':=by
 let c2:Own:=λb=>if N≤b∧b<N+bs.length then g'.c (b-N+s) else g.c b
 have hc:CLe g.c c2:=by
  intro b cb e;by_cases hb:N≤b∧b<N+bs.length
  ·have:=r.empt b (by have:=hN (b-N) (by omega); simp_all);rw[this] at e; cases e
  ·simp only[c2,if_neg hb]; exact e
 have hc2:∀b b' cb,m b=some b'→g'.c b=some cb→c2 b'=some cb:=by
  intro b b' cb e1 e2;rcases hm b b' cb e1 e2 with ⟨i,q1,q2,q3⟩|q
  ·grind
  ·exact hc _ _ q
 have hH:∀b,hups h (Xt N (bs.map (ABlk.mapV (AVal.ren m)))) b=if N≤b∧b<N+bs.length then (bs[b-N]?).map (ABlk.mapV (AVal.ren m)) else h b:=by
  intro b; rw[XaD]; simp
 have hcase:∀b blk,hups h (Xt N (bs.map (ABlk.mapV (AVal.ren m)))) b=some blk→(h b=some blk∧c2 b=g.c b)∨∃i blk0,i<bs.length∧b=i+N∧h' (s+i)=some blk0∧blk=blk0.mapV (AVal.ren m)∧c2 b=g'.c (s+i)∧blk0∈bs:=by
  grind
 have hsize:=r.keeps.size;refine⟨c2,hc,hc2,?_⟩;refine { keeps:=r.keeps.trans' r'.keeps.os r'.keeps.tape r'.keeps.output r'.keeps.size (λb hb _=>r'.keeps.block b (by omega) (by simp)),stable:=hst,src:=λb o e=>?_,globs:=λq hq=>(r.globs q hq).mono hM (CLe.refl _),empt:=λb e=>?_,dom:=λb blk e=>?_,own:=λb blk cb e hl ec hv=>?_,hollow:=λb blk cb e hl ec hv=>?_,inj:=λb b' blk blk' cb cb' e e' hl hl' ec ec' hv hv' hq=>?_ }
 ·rcases hsrc b o e with q|q
  ·exact r.src b o q
  ·exact .inr (.inl (by omega))
 ·rw[hH] at e;show c2 b=none;by_cases hb:N≤b∧b<N+bs.length
  ·grind
  ·rw[if_neg hb] at e; simp only[c2]; rw[if_neg hb]; exact r.empt b e
 ·rcases hcase b blk e with ⟨q1,q2⟩|⟨i,blk0,q1,q2,q3,q4,q5,q6⟩
  ·obtain⟨cb,k⟩:=r.dom b blk q1; simp_all
  ·obtain⟨cb,k⟩:=r'.dom (s+i) blk0 q3; simp_all
 ·replace ec:c2 b=some cb:=ec
  rcases hcase b blk e with ⟨q1,q2⟩|⟨i,blk0,q1,q2,q3,q4,q5,q6⟩
  ·rw[q2] at ec;obtain⟨k1,k2,o,ho,hok⟩:=r.own b blk cb q1 hl ec hv;have hlt:=r.lt_of_own q1 hl ec hv;refine⟨?_,k2,o,by rw[r'.keeps.block _ hlt (by simp)]; exact ho,hok.mono hM hc⟩;show M2 cb.blk=none;cases hm2:M2 cb.blk<;>grind
  ·rw[q5] at ec;obtain⟨k1,k2,o,ho,hok⟩:=r'.own (s+i) blk0 cb q3 (by rw[q4,ABlk.mapV_live] at hl; exact hl) ec hv;have hge:w.heap.size≤cb.blk:=by simp_all
   refine⟨hfresh _ hge k1,.inr (by omega),o,ho,?_⟩;rw[q4];refine hok.mapV (p:=p) (λx v hx hd=>?_) (hp' _ q6);exact hden _ _ _ (hren _ _ hx) (hd.ren hc2)
 ·replace ec:c2 b=some cb:=ec
  rcases hcase b blk e with ⟨q1,q2⟩|⟨i,blk0,q1,q2,q3,q4,q5,q6⟩
  ·rw[q2] at ec; exact r.hollow b blk cb q1 hl ec hv
  ·rw[q5] at ec;have:=r'.hollow (s+i) blk0 cb q3 (by rw[q4,ABlk.mapV_live] at hl; exact hl) ec hv;rw[q4,this]; rfl
 ·replace ec:c2 b=some cb:=ec
  replace ec':c2 b'=some cb':=ec'
  rcases hcase b blk e with ⟨q1,q2⟩|⟨i,blk0,q1,q2,q3,q4,q5,q6⟩<;>rcases hcase b' blk' e' with ⟨p1,p2⟩|⟨i',blk0',p1,p2,p3,p4,p5,p6⟩
  ·rw[q2] at ec; rw[p2] at ec'; exact r.inj b b' blk blk' cb cb' q1 p1 hl hl' ec ec' hv hv' hq
  ·rw[q2] at ec; rw[p5] at ec';have h1:=r.lt_of_own q1 hl ec hv;obtain⟨_,k2,_⟩:=r'.own (s+i') blk0' cb' p3 (by simp_all [ABlk.mapV_live]) ec' hv'
   grind
  ·rw[q5] at ec; rw[p2] at ec';have h1:=r.lt_of_own p1 hl' ec' hv';obtain⟨_,k2,_⟩:=r'.own (s+i) blk0 cb q3 (by rw[q4,ABlk.mapV_live] at hl; exact hl) ec hv
   grind
  ·rw[q5] at ec; rw[p5] at ec';have:=r'.inj (s+i) (s+i') blk0 blk0' cb cb' q3 p3 (by rw[q4,ABlk.mapV_live] at hl; exact hl) (by simp_all [ABlk.mapV_live]) ec ec' hv hv' hq;omega
theorem Rep.join{w0:World}{L:Ln}{g:Gm}{h:Hp}{w w':World}(r:Rep GL w0 L g h w){M:Nat→Option Obj}{g':Gm}{bs:List ABlk}(r':Rep GL w ⟨[],M⟩ g' (hp bs) w')(M2:Nat→Option Obj)(p:AVal→Prop)
 (hM:MLe g.M M2)(hst:∀b o,M2 b=some o→w'.heap[b]?=some o)(hsrc:∀b o,M2 b=some o→g.M b=some o∨w.heap.size≤b)(hfresh:∀b,w.heap.size≤b→g'.M b=none→M2 b=none)
 (hden:∀c x v,p x→Den g'.M c x v→Den M2 c x v)(hp':∀b∈bs,b.AllV p)(hren:∀x m,p x→p (AVal.ren m x)){N:Nat}(hN:∀i,i<bs.length→h (N+i)=none) :
  ∃c2,CLe g.c c2∧(∀b cb,b<bs.length→g'.c b=some cb→c2 (b+N)=some cb)∧Rep GL w0 L ⟨M2,c2⟩ (hups h (Xt N (bs.map (ABlk.mapV (AVal.ren (Zw N)))))) w':=by
 obtain⟨c2,k1,k2,k3⟩:=r.joinG r' 0 (λi hi=>by simp[hp]) (Zw N) M2 p hM hst hsrc hfresh hden hp' hren hN (λb b' cb e1 e2=>by
  simp only[Zw,Option.some.injEq] at e1;subst e1;by_cases hb:b<bs.length
  ·exact .inl ⟨b,hb,by omega,by omega⟩
  ·have:=r'.empt b (by simp[hp]; omega);rw[this] at e2; cases e2)
 exact⟨c2,k1,λb cb _ e=>k2 b (b+N) cb rfl e,k3⟩
def Xp(N:Nat)(bs:List ABlk):List ABlk:=bs.map (ABlk.mapV (AVal.ren (Zw N)))
theorem Q8:∀(bs:List ABlk) (N:Nat) (i:Nat),i<bs.length→∃b,(N+i,b)∈Xt N bs
 |b::bs,N,0,_=>⟨b,by simp[Xt]⟩
 |b::bs,N,i+1,h=>by
  obtain⟨x,hx⟩:=Q8 bs (N+1) i (by simpa using h);exact⟨x,by rw[show N+(i+1)=N+1+i by omega]; exact List.mem_cons_of_mem _ hx⟩
theorem NCall.here{f:FuncId}{xs:List AVal}{v:AVal}{bs:List ABlk}(hc:NCall P GL f xs v bs)(hxs:roL xs=true){h0:Hp}{N:Nat}(hN:∀i,i<bs.length→h0 (N+i)=none):ACall P GL f xs h0 (v.ren (Zw N)) [] (Xt N (Xp N bs)):=by
 intro w0 L g h w vs r hx _ hup;refine(hc w g.M vs r.stable r.globs (Qbi hxs hx noOwn)).mono ?_;rintro e w' ⟨u,he,g',hle,r',hd⟩;obtain⟨c2,k1,k2,k3⟩:=r.join r' g'.M (λ_=>True) hle r'.stable (λb o e=>by
  rcases r'.src b o e with q|q|q<;>simp_all) (λ_ _ e=>e) (λ_ _ _ _ d=>d) (λb _=>ABlk.all_true b) (λ_ _ _=>trivial) (N:=N) (λi hi=>by
   obtain⟨b,hb⟩:=Q8 (Xp N bs) N i (by simpa[Xp] using hi);rw[hup _ hb]; exact hN i hi)
 refine⟨u,he,⟨g'.M,c2⟩,⟨hle,k1⟩,k3,hd.ren (λb b' cb e1 e2=>?_)⟩;simp only[Zw,Option.some.injEq] at e1;subst e1;refine k2 b cb ?_ e2;by_cases hb:b<bs.length
 ·exact hb
 ·have:=r'.empt b (by simp[hp]; omega);rw[this] at e2; cases e2
theorem NCall.lend{f:FuncId}{xs ys:List AVal}{v:AVal}{bs:List ABlk}{rd:List Nat}{h0:Hp}(hc:NCall P GL f ys v bs)(hb:BorL h0 rd xs ys)(hv:v.nosh=true)(hbs:Xak bs=true){N:Nat}(hN:∀i,i<bs.length→h0 (N+i)=none):ACall P GL f xs h0 (v.ren (Zw N)) rd (Xt N (Xp N bs)):=by
 intro w0 L g h w vs r hx hrd hup;refine(hc w (World.all w) vs (λ_ _ e=>e) (λp hp=>(r.globs p hp).mono r.le_all (CLe.refl _)) (hb GL w0 L g h w _ r r.cov_all hrd vs hx)).mono ?_;rintro e w' ⟨u,he,g',hle,r',hd⟩;obtain⟨c2,k1,k2,k3⟩:=r.join r' g.M (λx=>x.nosh=true) (MLe.refl _) (λb o e=>by rw[r'.keeps.block b (r.stable_lt e) (by simp)]; exact r.stable b o e) (λb o e=>.inl e) (λb hge e=>by
   cases hm:g.M b with
   |none=>rfl
   |some z=>have:=r.stable_lt hm; omega) (λ_ _ _ hn d=>d.nosh hn _) (Za7 hbs) (λx m hn=>AVal.nosh_ren m x hn) (N:=N) (λi hi=>by
   obtain⟨b,hb⟩:=Q8 (Xp N bs) N i (by simpa[Xp] using hi);rw[hup _ hb]; exact hN i hi)
 refine⟨u,he,⟨g.M,c2⟩,⟨MLe.refl _,k1⟩,k3,?_⟩;refine(hd.ren (c':=c2) (m:=Zw N) (λb b' cb e1 e2=>?_)).nosh (AVal.nosh_ren _ _ hv) _;simp only[Zw,Option.some.injEq] at e1;subst e1;refine k2 b cb ?_ e2;by_cases hb:b<bs.length
 ·exact hb
 ·have:=r'.empt b (by simp[hp]; omega);rw[this] at e2; cases e2
def XE:List ABlk→List ABlk
 |[]=>[]
 |_::l=>.dead::XE l
theorem XL:∀(l:List ABlk) (i:Nat),(XE l)[i]?=if i<l.length then some .dead else none
 |[],i=>by simp[XE]
 |x::l,0=>by simp[XE]
 |x::l,i+1=>by simp[XE,XL l i]
theorem ZaZ(l:List ABlk):(XE l).length=l.length:=by induction l<;>simp_all [XE]
def ltM(n:Nat):Nat→Option Nat:=λb=>bif Nat.blt b n then some b else none
def keepM(ids:List Nat)(n k:Nat):Nat→Option Nat:=λb=>bif ids.contains b||(Nat.ble n b&&Nat.blt b (n+k)) then some b else none
theorem Zaq{f:FuncId}{F:MFn}(ok:FnOk P GL f F){xs:List AVal}(hn:xs.length=F.np)(σ:List ABlk)(ids:List Nat)(hids:∀i∈ids,i<σ.length){v:AVal}{news bs:List ABlk}(hbs:bs=news∨bs=[])
 (h:Awp P GL F.n F.body (frame0 (renL (ltM σ.length) xs)) (XE σ) (λe ρ σ'=>(e=.normal∨e=.ret)∧retV F.rets ρ σ'=some v∧σ'=XE σ++news)) :
  ACall P GL f xs (hp σ) (v.ren (keepM ids σ.length bs.length)) ids (Xt σ.length (bs.map (ABlk.mapV (AVal.ren (keepM ids σ.length bs.length))))):=by
 intro w0 L g hq w vs r hx hrd hup
 let dm:CB:=⟨0,0,0,true,0⟩
 let c':Own:=λb=>if b<σ.length then some ((g.c b).getD dm) else none
 have r0:Rep GL w ⟨[],g.M⟩ ⟨g.M,c'⟩ (hp (XE σ)) w:={
  keeps:=Keeps.refl _ _,stable:=r.stable,src:=λb o e=>.inl e,globs:=r.globs
  empt:=λb e=>by
   show c' b=none;simp only[hp,XL] at e
   grind
  dom:=λb blk e=>by
   simp only[hp,XL] at e;split at e
   ·rename_i hb; exact⟨_,by show c' b=_; simp only[c']; rw[if_pos hb]⟩
   ·cases e
  own:=λb blk cb e hl _ _=>by
   simp only[hp,XL] at e;split at e
   ·cases e; cases hl
   ·cases e
  hollow:=λb blk cb e hl _ _=>by
   simp only[hp,XL] at e;split at e
   ·cases e; cases hl
   ·cases e
  inj:=λb b' blk blk' cb cb' e _ hl _ _ _ _ _ _=>by
   simp only[hp,XL] at e;split at e
   ·cases e; cases hl
   ·cases e }
 have hx':DenL ⟨g.M,c'⟩ (renL (ltM σ.length) xs) vs:=by
  refine DenL.of_get (by rw[Xv]; exact hx.length) (λi y u e1 e2=>?_);obtain⟨x,q1,rfl⟩:=Xai e1;refine(hx.get i x u q1 e2).ren (λb b' cb k1 k2=>?_);unfold ltM at k1;obtain⟨k0,k1⟩:=Yu k1;cases k1;have hlt:b<σ.length:=YNL k0
  grind
 obtain⟨fn,c,h1,h2,h3,h4,h5⟩:=ok.ok;have d0:=X4 hx' (n:=F.n) (by rw[Xv,hn]; exact ok.np);refine calls_of_wp h1 h2 ?_;rw[h3];refine wp_mono (h c h4 w ⟨[],g.M⟩ _ _ w r0 d0) (λe a' w' hl=>?_);have fin:∀g' ρ σ',(⟨g.M,c'⟩:Gm).Le g'→Rep GL w ⟨[],g.M⟩ g' (hp σ') w'→DenF F.n g' ρ a'→(retV F.rets ρ σ'=some v∧σ'=XE σ++news)→∃u,(results fn a'.tmps).run P w'=.ok u w'∧(∃u',Ending.returned u=.returned u'∧∃g2,g.Le g2∧Rep GL w0 L g2 (hups hq (Xt σ.length (bs.map (ABlk.mapV (AVal.ren (keepM ids σ.length bs.length)))))) w'∧g2.den (v.ren (keepM ids σ.length bs.length)) u'):=by
  rintro g' ρ σ' hle hr hd ⟨hret,rfl⟩;obtain⟨u,k1,k2⟩:=Yau hr hd h5 hret;obtain⟨c2,j1,j2,j3⟩:=r.joinG hr σ.length (bs:=bs) (λi hi=>by
    rcases hbs with rfl|rfl<;>simp_all [hp,ZaZ]) (keepM ids σ.length bs.length) g'.M (λ_=>True) hle.m hr.stable (λb o e=>by
    rcases hr.src b o e with q|q|q<;>simp_all) (λ_ _ e=>e) (λ_ _ _ _ d=>d) (λb _=>ABlk.all_true b) (λ_ _ _=>trivial) (N:=σ.length) (λi hi=>by
    obtain⟨b,hb⟩:=Q8 (bs.map (ABlk.mapV (AVal.ren (keepM ids σ.length bs.length)))) σ.length i (by simpa using hi);rw[hup _ hb]; simp[hp]) (λb b' cb e1 e2=>by
    unfold keepM at e1;obtain⟨e0,e1⟩:=Yu e1;cases e1;by_cases hin:b∈ids∧b<σ.length
    ·right;obtain⟨hin,hb⟩:=hin;have hb':hq b=some (σ[b]):=by rw[hrd b hin]; simp[hp,hb]
     obtain⟨cb0,hcb⟩:=r.dom b _ hb';have:c' b=some cb0:=by grind
     have:=hle.c b cb0 this;rw[e2] at this; cases this; exact hcb
    ·left;simp only[Bool.or_eq_true,Bool.and_eq_true] at e0;rcases e0 with q|⟨q1,q2⟩
     ·simp_all
     ·have:=YNL q1;have:b < σ.length + bs.length:=YNL q2;exact⟨b - σ.length,by omega,by omega,by omega⟩)
  exact⟨u,k1,u,rfl,⟨g'.M,c2⟩,⟨hle.m,j1⟩,j3,k2.ren j2⟩
 cases e with
 |normal=>obtain⟨g',ρ,σ,k1,k2,k3,k4⟩:=hl; exact⟨k3.defers,fin g' ρ σ k1 k2 k3 k4.2⟩
 |ret=>obtain⟨g',ρ,σ,k1,k2,k3,k4⟩:=hl; exact⟨k3.defers,fin g' ρ σ k1 k2 k3 k4.2⟩
 |exit id=>obtain⟨g',ρ,σ,k1,k2,k3,k4⟩:=hl; rcases k4.1 with q|q<;>cases q
 |_=>exact hl.elim
end
end Go.Ah
end
section
namespace Go.Ah
mutual
def AVal.ids:AVal→List Nat
 |.bptr b _=>[b]
 |.ptr b _ _=>[b]
 |.sl b _ _ _=>[b]
 |.map b=>[b]
 |.iter b=>[b]
 |.func _ xs ys=>idsL xs++idsL ys
 |.iface _ v=>v.ids
 |.agg cs=>idsL cs
 |.tup cs=>idsL cs
 |.when _ x=>x.ids
 |_=>[]
def idsL:List AVal→List Nat
 |[]=>[]
 |x::xs=>x.ids++idsL xs
end
def ZX:Nat→List ABlk→Option (List ABlk)
 |0,l=>some l
 |n+1,.dead::l=>ZX n l
 |_+1,_=>none
theorem ZaG:∀(σ l news:List ABlk),ZX σ.length l=some news→l=XE σ++news
 |[],l,news,h=>by simp_all [ZX,XE]
 |x::σ,l,news,h=>by
  cases l with
  |nil=>simp[ZX] at h
  |cons y l=>
   cases y with
   |dead=>simp only[List.length_cons,ZX] at h; rw[ZaG σ l news h]; rfl
   |_=>simp[ZX] at h
def Yr(n:Nat):List Nat→Bool
 |[]=>true
 |x::xs=>Nat.blt x n&&Yr n xs
theorem Q6{n:Nat}:∀ {l:List Nat},Yr n l=true→∀i∈l,i<n
 |x::xs,h,i,hi=>by
  simp only[Yr,Bool.and_eq_true] at h;rcases List.mem_cons.1 hi with rfl|hi
  ·exact YNL h.1
  ·exact Q6 h.2 i hi
def much:Nat:=1000000000
end Go.Ah
end
section
namespace Go.Ah
def bndQ(n:Nat)(hd:List (List Nat))(c:Nat):Bool:=allN (λj=>Nat.blt j c||Zag (nthQ hd j) λh=>allN (λi=>memN h i) c) n
theorem Xcd{n:Nat}{hd:List (List Nat)}{c:Nat}(h:bndQ n hd c=true):∀j,j<n→c≤j→∀i,i<c→i∈Yt hd j:=by
 intro j hj hc i hi;have:=Xaq h j hj;simp only[Yag,Bool.or_eq_true] at this;rcases this with q|q
 ·have:j<c:=YNL q;omega
 ·have:=Qat.1 (Xaq q i hi)
  rwa [Xaz] at this
def hdSeg(hd:List (List Nat))(lo n:Nat):List (List Nat):=(List.range n).map λj=>(Yt hd (lo+j)).filterMap λi=>match Nat.ble lo i with
 |true=>some (i-lo)
 |false=>none
theorem XcJ{hd:List (List Nat)}{lo n j i:Nat}(h:i∈Yt (hdSeg hd lo n) j):lo+i∈Yt hd (lo+j):=by
 unfold hdSeg Yt at h;rw[List.getElem?_map] at h;cases e:(List.range n)[j]? with
 |none=>rw[e] at h; simp at h
 |some k=>
  rw[e] at h;have hk:k=j:=by
   grind
  subst hk;simp only[Option.map_some,Option.getD_some,List.mem_filterMap] at h;obtain⟨x,hx,h⟩:=h;split at h
  ·rename_i hb;have:=YNL hb;cases h
   rwa [show lo+(x-lo)=x by omega]
  ·cases h
section
variable {P:Program} {GL:Globs}
theorem YcI{n:Nat}{ops:Array Oper}{ms:List MOper}{hd:List (List Nat)}(hsz:ops.size=ms.length)(hok:∀(j:Nat) (m:MOper),ms[j]?=some m→∃o,ops[j]?=some o∧OperOk P GL n ops o m)(hdr:Yas ops.toList ms hd=true)
 {lo hi:Nat}{seg:List MOper}(hlh:lo+seg.length=hi)(hhi:hi≤ms.length)(hseg:∀j m,seg[j]?=some m→ms[lo+j]?=some m)(bhi:∀j,j<ms.length→hi≤j→∀i,i<hi→i∈Yt hd j)
 {ρ:Frame}{σ:List ABlk}{ts:List TS}{K:Frame→List ABlk→Log→Prop}(htr:Tr P GL seg ts ρ σ [] K)(hap:Xq (hdSeg hd lo seg.length) (ts.map λx=>(x.rd,x.up.map (·.1)))=true)
 {w0:World}{L:Ln}{g:Gm}(Q:Exit→Act→World→Prop)
 (hQ:∀ g' ρ' σ' a w fuel (listed:Array Bool),g.Le g'→Rep GL w0 L g' (hp σ') w→DenF n g' ρ' a→K ρ' σ' (ts.map λx=>(x.rd,x.up.map (·.1)))→listed.size=ms.length→(∀ k,k < hi→listed.getD k false=true)→(∀ k,hi≤k→listed.getD k false=false) →
   cnt (λk=>listed.getD k false) ms.length≤fuel→wpAny P .any ops Q fuel listed a w) :
  ∀(fuel:Nat) (listed:Array Bool) (a:Act) (w:World),listed.size=ms.length→(∀j,listed.getD j false=true→j<ms.length∧∀i∈waits (ops.toList.getD j default),listed.getD i false=true) →
   (∀k,k<lo→listed.getD k false=true)→(∀k,hi≤k→listed.getD k false=false) →
   cnt (λk=>listed.getD k false) ms.length≤fuel→(∃g' ρ',g.Le g'∧Rep GL w0 L g' (hpS (λk=>listed.getD k false) lo ts (hp σ)) w∧DenF n g' ρ' a∧∀t,fget ρ' t=fget (frS (λk=>listed.getD k false) lo seg ts ρ) t) →
   wpAny P .any ops Q fuel listed a w:=by
 have D:=YY hdr;obtain⟨hlen,hat,ρf,σf,hf1,hf2,hf3⟩:=ZcD seg ts lo ρ σ [] K htr;rw[List.nil_append] at hf3;have hA:∀j,j<seg.length→∀i,i<j→lo+i∈Yt hd (lo+j)∨apart2 (YZ (ts.map λx=>(x.rd,x.up.map (·.1))) i) (YZ (ts.map λx=>(x.rd,x.up.map (·.1))) j)=true:=by
  intro j hj i hi;unfold Xq at hap;simp only[List.all_eq_true,List.mem_range,List.length_map] at hap;have:=QZ (hap j (by omega)) i (YZ (ts.map λx=>(x.rd,x.up.map (·.1))) i) (by
   grind [YZ])
  rw[Nat.zero_add] at this;exact this.imp XcJ id
 have hlog:∀j x,ts[j]?=some x→YZ (ts.map λx=>(x.rd,x.up.map (·.1))) j=(x.rd,x.up.map (·.1)):=by
  simp_all [YZ]
 have fin:∀(fuel:Nat) (listed:Array Bool) (a:Act) (w:World),listed.size=ms.length→(∀k,k<hi→listed.getD k false=true)→(∀k,hi≤k→listed.getD k false=false)→cnt (λk=>listed.getD k false) ms.length≤fuel →
   (∃g' ρ',g.Le g'∧Rep GL w0 L g' (hpS (λk=>listed.getD k false) lo ts (hp σ)) w∧DenF n g' ρ' a∧∀t,fget ρ' t=fget (frS (λk=>listed.getD k false) lo seg ts ρ) t)→wpAny P .any ops Q fuel listed a w:=by
  rintro fuel listed a w hs hall hno hc ⟨g',ρ',h1,h2,h3,h4⟩;refine hQ g' ρf σf a w fuel listed h1 ?_ ?_ hf3 hs hall hno hc
  ·rw[hf2];have:hpS (λk=>listed.getD k false) lo ts (hp σ)=hpS (λ_=>true) lo ts (hp σ):=by
    funext b
    refine QO _ _ _ _ (λk t e _=>?_) rfl
    grind
   rw[←this]; exact h2
  ·refine h3.weak (λt=>.inl ?_);rw[hf1 t,h4 t];refine YO _ _ _ _ _ (λk m e _=>?_) rfl
   grind
 intro fuel
 induction fuel with
 |zero=>
  intro listed a w hs hS hlo hno hc hst;exact fin 0 listed a w hs (λk hk=>YaJ (Nat.le_zero.1 hc) k (by omega)) hno hc hst
 |succ fuel ih=>
  intro listed a w hs hS hlo hno hc hst;by_cases hall:∀k,k<hi→listed.getD k false=true
  ·grind
  refine⟨λhr=>?_,λj hj=>?_⟩
  ·exfalso;refine hall λk=>?_
   induction k using Nat.strongRecOn with
   |_ k ihk=>
    intro hk;cases hl:listed.getD k false with
    |true=>rfl
    |false=>
     exfalso;have hko:ops[k]?=some (ops[k]'(by omega)):=by simp[show k<ops.size by omega]
     have:k∈Region.ready .any ops listed:=by
      rw[mem_ready];refine⟨?_,_,hko,λe he hb=>?_⟩
      ·grind
      ·have hw:e.on∈waits (ops.toList.getD k default):=by rw[QM ops k hko,Z5]; exact⟨e,he,hb,rfl⟩
       have hlt:=D.back k (by omega) _ hw;exact ihk e.on hlt (by omega)
     rw[hr] at this; cases this
  obtain⟨h1,o,ho,hedge⟩:=mem_ready.1 hj;have hjn:j<ms.length:=by grind
  have hSj:listed.getD j false=false:=by
   grind
  have hwj:∀i∈waits (ops.toList.getD j default),listed.getD i false=true:=by
   intro i hi;rw[QM ops j ho,Z5] at hi;obtain⟨e,he,hb,rfl⟩:=hi;exact hedge e he hb
  have hhd:=Yaq D (S:=λk=>listed.getD k false) hS j hjn hwj;have hjlo:lo≤j:=by
   grind
  have hjhi:j<hi:=by
   grind
  obtain⟨j,rfl⟩:∃q,j=lo+q:=⟨j-lo,by omega⟩;have hjs:j<seg.length:=by omega
  have hmj:seg[j]?=some seg[j]:=by simp
  have htj:ts[j]?=some (ts[j]'(by omega)):=by simp[show j<ts.length by omega]
  generalize hmd:seg[j]=m at hmj;generalize hxd:(ts[j]'(by omega))=x at htj;have hmJ:=hseg j m hmj;have hmD:ms.getD (lo+j) default=m:=by grind
  obtain⟨o',ho',oko⟩:=hok (lo+j) m hmJ;rw[ho] at ho'; cases ho';obtain⟨ρj,q1,q2⟩:=hat j m x hmj htj;obtain⟨g',ρ',s1,s2,s3,s4⟩:=hst;have key:∀k,k<seg.length→(k<j→lo+k∈Yt hd (lo+j))→(j<k→lo+j∈Yt hd (lo+k))→(k≠j)→(listed.getD (lo+k) false=decide (lo+k<lo+j)):=by
   intro k hk ha hb hne;by_cases hlt:k<j
   ·grind
   ·rw[decide_eq_false (by omega)];have hgt:j<k:=by omega
    cases hl:listed.getD (lo+k) false with
    |false=>rfl
    |true=>
     have:listed.getD (lo+j) false=true:=Yaq D (S:=λk=>listed.getD k false) hS (lo+k) (by omega) (hS (lo+k) hl).2 (lo+j) (hb hgt);rw[hSj] at this; cases this
  have hslot:∀t,(t∈usesT m)→∀k mk,seg[k]?=some mk→mk.dst=some t→k≠j→listed.getD (lo+k) false=decide (lo+k<lo+j):=by
   intro t ht k mk hk hdst hne;have hkn:k<seg.length:=(YLG hk).1;have hkD:ms.getD (lo+k) default=mk:=by rw[List.getD_eq_getElem?_getD,hseg k mk hk]; rfl
   have hdef:t∈defsT mk:=by unfold defsT; rw[hdst]; simp
   refine key k hkn (λhlt=>?_) (λhgt=>?_) hne
   ·rcases D.slots (lo+j) hjn (lo+k) (by omega) with q|⟨q,_,_⟩
    ·exact q
    grind
   ·rcases D.slots (lo+k) (by omega) (lo+j) (by omega) with q|⟨_,_,q⟩
    ·exact q
    grind
  have hblk:∀b,(b∈x.rd∨b∈x.up.map (·.1))→∀k xk,ts[k]?=some xk→b∈xk.up.map (·.1)→k≠j→listed.getD (lo+k) false=decide (lo+k<lo+j):=by
   intro b hb k xk hk hin hne;have hkn:k<seg.length:=by grind
   refine key k hkn (λhlt=>?_) (λhgt=>?_) hne
   ·rcases hA j hjs k hlt with q|q
    ·exact q
    ·rw[hlog k xk hk,hlog j x htj] at q;simp only[apart2,Bool.and_eq_true] at q
     grind [Z4]
   ·rcases hA k hkn j hgt with q|q
    ·exact q
    ·rw[hlog k xk hk,hlog j x htj] at q;simp only[apart2,Bool.and_eq_true] at q
     grind [Z4]
  have hjself:∀k,k=j→listed.getD (lo+k) false=decide (lo+k<lo+j):=by rintro k rfl; rw[hSj]; simp
  have heq:∀b,(b∈x.rd∨b∈x.up.map (·.1))→hpS (λk=>listed.getD k false) lo ts (hp σ) b=hpS (λk=>decide (k<lo+j)) lo ts (hp σ) b:=by
   intro b hb;refine QO _ _ _ _ (λk xk e1 e2=>?_) rfl;by_cases hkj:k=j
   ·exact hjself k hkj
   ·exact hblk b hb k xk e1 e2 hkj
  unfold wpOp;simp only[ho];refine q2 n ops o oko ρ' _ w0 L g' w a (λt ht=>?_) (λb hb=>heq b (.inl hb)) (λp hp'=>heq p.1 (.inr (List.mem_map.2 ⟨p,hp',rfl⟩))) s2 s3 _ _ (λg2 w2 u hle hr hd2=>?_)
  ·rw[s4 t,q1 t];refine YO _ _ _ _ _ (λk mk e1 e2=>?_) rfl;by_cases hkj:k=j
   ·exact hjself k hkj
   ·exact hslot t ht k mk e1 e2 hkj
  ·have hset':∀k,(listed.setIfInBounds (lo+j) true).getD k false=if k=lo+j then true else listed.getD k false:=by
    intro k;by_cases hk:k<ms.length
    ·by_cases hkj:k=lo+j
     ·subst hkj; simp[show lo+j<listed.size by omega]
     ·rw[if_neg hkj]; simp[Array.getElem?_setIfInBounds_ne (Ne.symm hkj)]
    ·rw[if_neg (by omega)]
     grind
   refine ih _ _ _ (by simpa using hs) (λk hk=>?_) (λk hk=>?_) (λk hk=>?_) ?_ ⟨g2,putF m.dst x.v ρ',s1.trans hle,?_,hd2,λt=>?_⟩
   ·rw[hset'] at hk;by_cases hkj:k=lo+j
    ·subst hkj;refine⟨hjn,λi hi=>?_⟩;rw[hset']; split
     ·rfl
     ·exact hwj i hi
    ·rw[if_neg hkj] at hk;refine⟨(hS k hk).1,λi hi=>?_⟩;rw[hset']; split
     ·rfl
     ·exact(hS k hk).2 i hi
   ·rw[hset']; split
    ·rfl
    ·exact hlo k hk
   ·rw[hset',if_neg (by omega)]; exact hno k hk
   ·have:=Ybb (S:=λk=>listed.getD k false) (S':=λk=>(listed.setIfInBounds (lo+j) true).getD k false) (j:=lo+j) (n:=ms.length) hjn hSj (by simp only[hset']; simp) (λk hk hne=>by simp only[hset']; rw[if_neg hne]);omega
   ·have:hpS (λk=>(listed.setIfInBounds (lo+j) true).getD k false) lo ts (hp σ)=hups (hpS (λk=>listed.getD k false) lo ts (hp σ)) x.up:=by
     funext b
     by_cases hb:b∈x.up.map (·.1)
     ·refine Qbf ts lo (hp σ) j x htj hb (by rw[hset',if_pos rfl]) (λk xk e1 e2 e3=>?_) _;rw[hset'] at e3;by_cases hkj:k=j
      ·omega
      ·rw[if_neg (by omega)] at e3;rw[hblk b (.inr hb) k xk e1 e2 hkj] at e3;have:=of_decide_eq_true e3; omega
     ·rw[XaL _ _ _ hb];refine QO _ _ _ _ (λk xk e1 e2=>?_) rfl;simp only[hset'];have hkj:k≠j:=by grind
      rw[if_neg (by omega)]
    rw[this]; exact hr
   ·rw[XV];by_cases hdt:m.dst=some t
    ·rw[if_pos hdt];refine(Xbe seg ts lo ρ j m x hmj htj hdt (by rw[hset',if_pos rfl]) (λk mk e1 e2 e3=>?_)).symm;rw[hset'] at e3;by_cases hkj:k=j
     ·omega
     ·rw[if_neg (by omega)] at e3;have hkn:k<seg.length:=(YLG e1).1;have hkD:ms.getD (lo+k) default=mk:=by rw[List.getD_eq_getElem?_getD,hseg k mk e1]; rfl
      have hdefm:t∈defsT m:=by unfold defsT; rw[hdt]; simp
      have hdefk:t∈defsT mk:=by unfold defsT; rw[e2]; simp
      have:=key k hkn (λhlt=>by
       rcases D.slots (lo+j) hjn (lo+k) (by omega) with q|⟨_,q,_⟩
       ·exact q
       ·rw[hkD,hmD] at q; exact(q t hdefk hdefm).elim) (λhgt=>by
       rcases D.slots (lo+k) (by omega) (lo+j) (by omega) with q|⟨_,q,_⟩
       ·exact q
       ·rw[hkD,hmD] at q; exact(q t hdefm hdefk).elim) hkj
      grind
    ·rw[if_neg hdt,s4 t];refine YO _ _ _ _ _ (λk mk e1 e2=>?_) rfl;simp only[hset'];have hkj:k≠j:=by grind
     rw[if_neg (by omega)]
theorem ZcI{n:Nat}{ops:Array Oper}{ms:List MOper}{hd:List (List Nat)}(hsz:ops.size=ms.length)(hok:∀(j:Nat) (m:MOper),ms[j]?=some m→∃o,ops[j]?=some o∧OperOk P GL n ops o m)(hdr:Yas ops.toList ms hd=true)
 {lo:Nat}{m:MOper}(hm:ms[lo]?=some m)(bhi:∀j,j<ms.length→lo+1≤j→∀i,i<lo+1→i∈Yt hd j)
 {ρ:Frame}{σ:List ABlk}{K:Frame→List ABlk→Log→Prop}(hst:StepR false P GL m ρ σ [] K)
 {w0:World}{L:Ln}{g:Gm}(Q:Exit→Act→World→Prop)
 (hQ:∀ g' ρ' σ' lg a w fuel (listed:Array Bool),g.Le g'→Rep GL w0 L g' (hp σ') w→DenF n g' ρ' a→K ρ' σ' lg→listed.size=ms.length→(∀ k,k < lo + 1→listed.getD k false=true)→(∀ k,lo + 1≤k→listed.getD k false=false) →
   cnt (λk=>listed.getD k false) ms.length≤fuel→wpAny P .any ops Q fuel listed a w)
 (fuel:Nat)(listed:Array Bool)(a:Act)(w:World)(hs:listed.size=ms.length)(hlo:∀k,k<lo→listed.getD k false=true)(hno:∀k,lo≤k→listed.getD k false=false)
 (hc:cnt (λk=>listed.getD k false) ms.length≤fuel)(r:Rep GL w0 L g (hp σ) w)(d:DenF n g ρ a):wpAny P .any ops Q fuel listed a w:=by
 have D:=YY hdr;have hln:lo<ms.length:=(YLG hm).1;have hS:∀j,listed.getD j false=true→j<ms.length∧∀i∈waits (ops.toList.getD j default),listed.getD i false=true:=by
  intro j hj;have hjl:j<lo:=by
   grind
  exact⟨by omega,λi hi=>hlo i (by have:=D.back j (by omega) i hi; omega)⟩
 obtain⟨o,ho,oko⟩:=hok lo m hm;cases fuel with
 |zero=>have:=YaJ (Nat.le_zero.1 hc) lo hln; grind
 |succ fuel=>
  refine⟨λhr=>?_,λj hj=>?_⟩
  ·exfalso;have:lo∈Region.ready .any ops listed:=by
    rw[mem_ready];refine⟨?_,o,ho,λe he hb=>?_⟩
    ·grind
    ·have hw:e.on∈waits (ops.toList.getD lo default):=by rw[QM ops lo ho,Z5]; exact⟨e,he,hb,rfl⟩
     exact hlo _ (D.back lo hln _ hw)
   rw[hr] at this; cases this
  ·obtain⟨h1,o',ho',hedge⟩:=mem_ready.1 hj;have hjn:j<ms.length:=by grind
   have hSj:listed.getD j false=false:=by
    grind
   have hwj:∀i∈waits (ops.toList.getD j default),listed.getD i false=true:=by
    intro i hi;rw[QM ops j ho',Z5] at hi
    grind
   have hhd:=Yaq D (S:=λk=>listed.getD k false) hS j hjn hwj;have hjl:j=lo:=by
    grind
   subst hjl;rw[ho] at ho'; cases ho';unfold wpOp;simp only[ho];refine Xa9 oko hst r d _ Q (λa' w' ⟨g',ρ',σ',lg',hle,hr,hd',hk⟩=>?_);have hset':∀k,(listed.setIfInBounds j true).getD k false=if k=j then true else listed.getD k false:=by
    intro k;by_cases hk:k<ms.length
    ·by_cases hkj:k=j
     ·subst hkj; simp[show k<listed.size by omega]
     ·rw[if_neg hkj]; simp[Array.getElem?_setIfInBounds_ne (Ne.symm hkj)]
    grind
   refine hQ g' ρ' σ' lg' a' w' fuel _ hle hr hd' hk (by simpa using hs) (λk hk=>?_) (λk hk=>?_) ?_
   ·grind
   ·grind
   ·have:=Ybb (S:=λk=>listed.getD k false) (S':=λk=>(listed.setIfInBounds j true).getD k false) (j:=j) (n:=ms.length) hjn hSj (by simp only[hset']; simp) (λk hk hne=>by simp only[hset']; rw[if_neg hne]);omega
abbrev Pcs:=List (List MOper×Bool)
def Qz:Pcs→List MOper
 |[]=>[]
 |p::r=>p.1++Qz r
def pcsOk(n:Nat)(hd:List (List Nat)):Nat→Pcs→Bool
 |_,[]=>true
 |lo,(seg,s)::r=>(!s||Nat.beq seg.length 1)&&(bndQ n hd (lo+seg.length)&&pcsOk n hd (lo+seg.length) r)
def AwpS(P:Program)(GL:Globs)(hd:List (List Nat)):Nat→Pcs→Frame→List ABlk→(Frame→List ABlk→Prop)→Prop
 |_,[],ρ,σ,K=>K ρ σ
 |lo,(seg,true)::r,ρ,σ,K=>AwpR false P GL seg ρ σ [] λρ σ _=>AwpS P GL hd (lo+seg.length) r ρ σ K
 |lo,(seg,false)::r,ρ,σ,K=>AwpR true P GL seg ρ σ [] λρ σ lg=>Xq (hdSeg hd lo seg.length) lg=true∧AwpS P GL hd (lo+seg.length) r ρ σ K
theorem XaU{n:Nat}{ops:Array Oper}{ms:List MOper}{hd:List (List Nat)}(hsz:ops.size=ms.length)(hok:∀(j:Nat) (m:MOper),ms[j]?=some m→∃o,ops[j]?=some o∧OperOk P GL n ops o m)(hdr:Yas ops.toList ms hd=true)
 {w0:World}{L:Ln}{Q:Exit→Act→World→Prop}{K:Frame→List ABlk→Prop}:∀(ps:Pcs) (lo:Nat) (ρ:Frame) (σ:List ABlk) (g:Gm),pcsOk ms.length hd lo ps=true→lo+(Qz ps).length=ms.length→(∀j m,(Qz ps)[j]?=some m→ms[lo+j]?=some m) →
  AwpS P GL hd lo ps ρ σ K→(∀g' ρ' σ' a w,g.Le g'→Rep GL w0 L g' (hp σ') w→DenF n g' ρ' a→K ρ' σ'→Q .normal a w) →
  ∀(fuel:Nat) (listed:Array Bool) (a:Act) (w:World),listed.size=ms.length→(∀k,k<lo→listed.getD k false=true)→(∀k,lo≤k→listed.getD k false=false)→cnt (λk=>listed.getD k false) ms.length≤fuel→Rep GL w0 L g (hp σ) w→DenF n g ρ a→wpAny P .any ops Q fuel listed a w
 |[],lo,ρ,σ,g,_,hl,_,h,hQ,fuel,listed,a,w,hs,hlo,hno,hc,r,d=>by
  have hln:lo=ms.length:=by simpa[Qz] using hl
  have hq:Q .normal a w:=hQ g ρ σ a w (Gm.Le.refl g) r d h;have hr:Region.ready .any ops listed=[]:=by
   simp_all [Region.ready]
  cases fuel with
  |zero=>exact⟨hr,hq⟩
  |succ fuel=>exact⟨λ_=>hq,λi hi=>by rw[hr] at hi; cases hi⟩
 |(seg,true)::ps,lo,ρ,σ,g,hp',hl,hms,h,hQ,fuel,listed,a,w,hs,hlo,hno,hc,r,d=>by
  simp only[pcsOk,Bool.and_eq_true,Bool.not_true,Bool.false_or] at hp';have h1:=YNB hp'.1;obtain⟨m,rfl⟩:=List.length_eq_one_iff.1 h1;simp only[Qz,List.length_append,List.length_singleton] at hl;have hm:ms[lo]?=some m:=by have:=hms 0 m (by simp[Qz]); simpa using this
  have hst:StepR false P GL m ρ σ [] (λρ' σ' _=>AwpS P GL hd (lo + 1) ps ρ' σ' K):=h;refine ZcI hsz hok hdr hm (λj hj hc i hi=>Xcd hp'.2.1 j hj hc i hi) hst Q (λg' ρ' σ' lg a' w' fuel' listed' k1 k2 k3 k4 k5 k6 k7 k8=>?_) fuel listed a w hs hlo hno hc r d;exact XaU hsz hok hdr ps (lo + 1) ρ' σ' g' hp'.2.2 (by omega) (λj m' e=>by
   have:=hms (j+1) m' (by simpa[Qz] using e)
   grind) k4 (λg2 ρ2 σ2 a2 w2 q=>hQ g2 ρ2 σ2 a2 w2 (k1.trans q)) fuel' listed' a' w' k5 k6 k7 k8 k2 k3
 |(seg,false)::ps,lo,ρ,σ,g,hp',hl,hms,h,hQ,fuel,listed,a,w,hs,hlo,hno,hc,r,d=>by
  simp only[pcsOk,Bool.and_eq_true,Bool.not_false,Bool.true_or,true_and] at hp';simp only[Qz,List.length_append] at hl;have hseg:∀ j m,seg[j]?=some m→ms[lo + j]?=some m:=λj m e=>hms j m (by
   grind [Qz])
  have hw:AwpR true P GL seg ρ σ [] (λρ' σ' lg=>Xq (hdSeg hd lo seg.length) lg=true∧AwpS P GL hd (lo+seg.length) ps ρ' σ' K):=h;obtain⟨ts,htr⟩:=QaX seg ρ σ [] _ hw;obtain⟨hlen,_,ρf,σf,_,_,hf3⟩:=ZcD seg ts lo ρ σ [] _ htr;rw[List.nil_append] at hf3;have D:=YY hdr;refine YcI (w0:=w0) (L:=L) (g:=g) hsz hok hdr rfl (by omega) hseg (λj hj hc i hi=>Xcd hp'.1 j hj hc i hi) htr hf3.1 Q (λg' ρ' σ' a' w' fuel' listed' k1 k2 k3 k4 k5 k6 k7 k8=>?_) fuel listed a w hs (λj hj=>?_) hlo (λk hk=>hno k (by omega)) hc ⟨g,ρ,Gm.Le.refl g,?_,d,λt=>?_⟩
  ·exact XaU hsz hok hdr ps (lo + seg.length) ρ' σ' g' hp'.2 (by omega) (λj m' e=>by
    have:=hms (seg.length+j) m' (by simp_all [Qz,List.getElem?_append_right])
    grind) k4.2 (λg2 ρ2 σ2 a2 w2 q=>hQ g2 ρ2 σ2 a2 w2 (k1.trans q)) fuel' listed' a' w' k5 k6 k7 k8 k2 k3
  ·have hjl:j<lo:=by
    grind
   exact⟨by omega,λi hi=>hlo i (by have:=D.back j (by omega) i hi; omega)⟩
  ·have:hpS (λk=>listed.getD k false) lo ts (hp σ)=hpS (λ_=>false) lo ts (hp σ):=by
    funext b
    refine QO _ _ _ _ (λk t e _=>hno _ (by omega)) rfl
   rw[this];have hid:∀(ts:List TS) (i:Nat) (h:Hp),hpS (λ_=>false) i ts h=h:=by
    intro ts
    induction ts<;>simp_all [hpS]
   rw[hid]; exact r
  ·have hid:∀(ms:List MOper) (ts:List TS) (i:Nat) (ρ:Frame),frS (λ_=>false) i ms ts ρ=ρ:=by
    intro ms
    induction ms with
    |nil=>intros; simp[frS]
    |cons m ms ih=>intro ts i ρ; cases ts<;>simp_all [frS]
   have:fget (frS (λk=>listed.getD k false) lo seg ts ρ) t=fget (frS (λ_=>false) lo seg ts ρ) t:=YO _ _ _ _ _ (λk m e _=>hno _ (by omega)) rfl;rw[this,hid]
theorem YcV(hP:P.follows .mixedOrders=true){n:Nat}{id:Nat}{ps:Pcs}{hd:List (List Nat)}{ρ:Frame}{σ:List ABlk}{Q:APost}(hps:pcsOk (Qz ps).length hd 0 ps=true)
 (h:AwpS P GL hd 0 ps ρ σ (λρ' σ'=>Q .normal ρ' σ')):Awp P GL n (.region id (Qz ps) (some hd)) ρ σ Q:=by
 intro c hc w0 L g a w r d;cases hc with
 |draw _ ops _ _ hsz hok hdr=>
  refine wp_region_any hP ?_;have hF:∀k,(Array.replicate ops.size false).getD k false=false:=by
   intro k; rw[Array.getD_eq_getD_getElem?,Array.getElem?_replicate]; split<;>rfl
  refine XaU (w0:=w0) (L:=L) hsz hok hdr ps 0 ρ σ g hps (by simp) (λj m e=>by simpa using e) h (λg' ρ' σ' a' w' k1 k2 k3 k4=>⟨g',ρ',σ',k1,k2,k3,k4⟩) ops.size _ a _ (by simp[hsz]) (λk hk=>by omega) (λk _=>hF k) ?_ r.drew d;rw[hsz];have:∀m,cnt (λk=>(Array.replicate (Qz ps).length false).getD k false) m≤m:=by
   intro m
   induction m<;>simp_all [cnt]
  exact this _
end
end Go.Ah
end
section
namespace Go.Ah
structure Ans (α:Type) where
 stop:α
 call:MK→List AVal→List ABlk→(AVal→List ABlk→α)→α
 dcall:MK→List AVal→List ABlk→(AVal→List Nat×List Nat→List ABlk→α)→α
 test:AVal→α→α→α
 loop:((List AVal→List ABlk→α)→List AVal→List ABlk→α)→List AVal→List ABlk→α
section
variable {α:Type}
def Ans.rd(A:Ans α)(r:SRes)(K:AVal→α):α:=match r with
 |.ok v _ []=>K v
 |_=>A.stop
def Ans.pu(A:Ans α)(r:SRes)(K:AVal→α):α:=match r with
 |.ok v [] []=>K v
 |_=>A.stop
def Ans.wr(A:Ans α)(r:SRes)(σ:List ABlk)(K:AVal→List ABlk→α):α:=match r with
 |.ok v _ up=>match upL σ up with
  |some σ'=>K v σ'
  |none=>A.stop
 |.stop=>A.stop
def Ans.dr(A:Ans α)(r:SRes)(σ:List ABlk)(K:AVal→List Nat×List Nat→List ABlk→α):α:=match r with
 |.ok v rd up=>match upL σ up with
  |some σ'=>K v (rd,up.map (·.1)) σ'
  |none=>A.stop
 |.stop=>A.stop
def Ans.opt{β:Type}(A:Ans α)(o:Option β)(K:β→α):α:=match o with
 |some v=>K v
 |none=>A.stop
def Ans.gd(A:Ans α)(b:Bool)(k:α):α:=match b with
 |true=>k
 |false=>A.stop
@[reducible] def udf(cs:List (Bool×Bool)):AVal:=.when cs (.bool false)
def Ans.gx(A:Ans α)(c:AVal)(w:Bool)(r:α)(s:List (Bool×Bool)→α):α:=match c with
 |.when cs (.bool q)=>match Qaj.holdNot cs with
  |true=>s (cs++[(q,w)])
  |false=>A.stop
 |c=>A.test c (bif w then r else s [(true,w)]) (bif w then s [(false,w)] else r)
def Ans.gr(A:Ans α)(c:AVal)(w:Bool)(r:(AVal→α)→α)(K:AVal→α):α:=A.gx c w (r K) (λcs=>K (udf cs))
def Ans.gw(A:Ans α)(c:AVal)(w:Bool)(r:(AVal→List ABlk→α)→α)(σ:List ABlk)(K:AVal→List ABlk→α):α:=A.gx c w (r K) (λcs=>K (udf cs) σ)
def Ans.gl(A:Ans α)(c:AVal)(w:Bool)(r:(AVal→List Nat×List Nat→List ABlk→α)→α)(σ:List ABlk)(K:AVal→List Nat×List Nat→List ABlk→α):α:=
 A.gx c w (r K) (λcs=>K (udf cs) ([],[]) σ)
def joinK(f:(List AVal→List ABlk→α)→α)(k:List AVal→List ABlk→α):α:=f k
inductive Cls where
 |mv|pu|rd|wr|call
def clsOf:MK→Cls
 |.mv=>.mv
 |.call _ | .callv | .invoke _ _=>.call
 |.alloc _ | .box | .buildS _ _ _ _ | .store _ | .makeMap | .append _ _ _ | .mapUpd _ | .range | .next | .makeS _ _ _ | .clearS _ _=>.wr
 |.load _ _ | .lookup _ _ _ | .lenM | .sliceS _ _ _ _ | .idxAddrS _=>.rd
 |_=>.pu
def dnOp(A:Ans α)(o:MOper)(ρ:Frame)(σ:List ABlk)(K:Frame→List ABlk→α):α:=
 match o.guard with
 |none=>match clsOf o.k with
  |.mv=>match o.xs with
   |[x]=>K (putF o.dst (ev ρ x) ρ) σ
   |_=>A.stop
  |.pu | .rd=>A.rd (cstep o.k (o.xs.map (ev ρ)) σ) λv=>K (putF o.dst v ρ) σ
  |.wr=>A.wr (cstep o.k (o.xs.map (ev ρ)) σ) σ λv σ=>K (putF o.dst v ρ) σ
  |.call=>A.call o.k (o.xs.map (ev ρ)) σ λv σ=>K (putF o.dst v ρ) σ
 |some (s,w)=>match clsOf o.k with
  |.mv | .pu | .rd=>A.gr (fget ρ s) w (λk=>A.rd (cstep o.k (o.xs.map (ev ρ)) σ) k) λv=>K (putF o.dst v ρ) σ
  |.wr=>A.gw (fget ρ s) w (λk=>A.wr (cstep o.k (o.xs.map (ev ρ)) σ) σ k) σ λv σ=>K (putF o.dst v ρ) σ
  |.call=>A.gw (fget ρ s) w (λk=>A.call o.k (o.xs.map (ev ρ)) σ k) σ λv σ=>K (putF o.dst v ρ) σ
def dnOps(A:Ans α):List MOper→Frame→List ABlk→(Frame→List ABlk→α)→α
 |[],ρ,σ,K=>K ρ σ
 |o::r,ρ,σ,K=>dnOp A o ρ σ λρ σ=>dnOps A r ρ σ K
def dnOpD(A:Ans α)(o:MOper)(ρ:Frame)(σ:List ABlk)(lg:Log)(K:Frame→List ABlk→Log→α):α:=
 match o.guard with
 |none=>match clsOf o.k with
  |.mv=>match o.xs with
   |[x]=>K (putF o.dst (ev ρ x) ρ) σ (lg++[([],[])])
   |_=>A.stop
  |.pu=>A.pu (cstep o.k (o.xs.map (ev ρ)) σ) λv=>K (putF o.dst v ρ) σ (lg++[([],[])])
  |.rd | .wr=>A.dr (cstep o.k (o.xs.map (ev ρ)) σ) σ λv l σ=>K (putF o.dst v ρ) σ (lg++[l])
  |.call=>A.dcall o.k (o.xs.map (ev ρ)) σ λv l σ=>K (putF o.dst v ρ) σ (lg++[l])
 |some (s,w)=>match clsOf o.k with
  |.mv | .pu=>A.gr (fget ρ s) w (λk=>A.pu (cstep o.k (o.xs.map (ev ρ)) σ) k) λv=>K (putF o.dst v ρ) σ (lg++[([],[])])
  |.rd | .wr=>A.gl (fget ρ s) w (λk=>A.dr (cstep o.k (o.xs.map (ev ρ)) σ) σ k) σ λv l σ=>K (putF o.dst v ρ) σ (lg++[l])
  |.call=>A.gl (fget ρ s) w (λk=>A.dcall o.k (o.xs.map (ev ρ)) σ k) σ λv l σ=>K (putF o.dst v ρ) σ (lg++[l])
def XaP(A:Ans α):List MOper→Frame→List ABlk→Log→(Frame→List ABlk→Log→α)→α
 |[],ρ,σ,lg,K=>K ρ σ lg
 |o::r,ρ,σ,lg,K=>dnOpD A o ρ σ lg λρ σ lg=>XaP A r ρ σ lg K
def isWr:Cls→Bool
 |.wr=>true
 |.call=>true
 |_=>false
def noWr:List MOper→Bool
 |[]=>true
 |o::r=>!(isWr (clsOf o.k))&&noWr r
inductive DCode where
 |skip
 |region (id:Nat) (ms:List MOper) (draw:Option (List (List Nat)))
 |regionS (id:Nat) (ps:Pcs) (hd:List (List Nat))
 |seq (a b:DCode)
 |cond (c:Opd) (a b:DCode)
 |join (lv:List Nat) (a:DCode)
 |block (id:Nat) (a:DCode)
 |loop (lv:List Nat) (a:DCode)
 |exit (id:Nat)
 |scope (a:DCode)
 |label (l:Nat)
 |ret
 deriving Inhabited
def DCode.er:DCode→MCode
 |.skip=>.skip
 |.region id ms hd=>.region id ms hd
 |.regionS id ps hd=>.region id (Qz ps) (some hd)
 |.seq a b=>.seq a.er b.er
 |.cond c a b=>.cond c a.er b.er
 |.join _ a=>a.er
 |.block id a=>.block id a.er
 |.loop _ a=>.loop a.er
 |.exit id=>.exit id
 |.scope a=>.scope a.er
 |.label l=>.label l
 |.ret=>.ret
def Zx:List MOper→List Nat
 |[]=>[]
 |o::r=>match o.dst with
  |some d=>d::Zx r
  |none=>Zx r
def DCode.asg:DCode→List Nat
 |.region _ ms _=>Zx ms
 |.regionS _ ps _=>Zx (Qz ps)
 |.seq a b=>a.asg++b.asg
 |.cond _ a b=>a.asg++b.asg
 |.join _ a=>a.asg
 |.block _ a=>a.asg
 |.loop _ a=>a.asg
 |.scope a=>a.asg
 |_=>[]
def inL(x:Nat):List Nat→Bool
 |[]=>false
 |y::l=>Nat.beq x y||inL x l
def subL:List Nat→List Nat→Bool
 |[],_=>true
 |x::l,b=>inL x b&&subL l b
def DCode.ok:DCode→Bool
 |.regionS _ ps hd=>pcsOk (Qz ps).length hd 0 ps
 |.seq a b=>a.ok&&b.ok
 |.cond _ a b=>a.ok&&b.ok
 |.join lv a=>subL lv a.asg&&a.ok
 |.block _ a=>a.ok
 |.loop lv a=>subL lv a.asg&&a.ok
 |.scope a=>a.ok
 |_=>true
def hdV:List AVal→AVal
 |[]=>.junk
 |x::_=>x
def tlV:List AVal→List AVal
 |[]=>[]
 |_::l=>l
def zipF:List Nat→List AVal→Frame→Frame
 |[],_,ρ=>ρ
 |k::ks,vs,ρ=>(k,hdV vs)::zipF ks (tlV vs) ρ
def dropF(l:List Nat):Frame→Frame
 |[]=>[]
 |(k,v)::r=>match inL k l with
  |true=>dropF l r
  |false=>(k,v)::dropF l r
def getF(ρ:Frame):List Nat→List AVal
 |[]=>[]
 |s::r=>fget ρ s::getF ρ r
def dnPcs(A:Ans α)(hd:List (List Nat)):Nat→Pcs→Frame→List ABlk→(Frame→List ABlk→α)→α
 |_,[],ρ,σ,K=>K ρ σ
 |lo,(seg,true)::r,ρ,σ,K=>dnOps A seg ρ σ λρ σ=>dnPcs A hd (lo+seg.length) r ρ σ K
 |lo,(seg,false)::r,ρ,σ,K=>match noWr seg with
  |true=>dnOps A seg ρ σ λρ σ=>dnPcs A hd (lo+seg.length) r ρ σ K
  |false=>XaP A seg ρ σ [] λρ σ lg=>A.gd (Xq (hdSeg hd lo seg.length) lg) (dnPcs A hd (lo+seg.length) r ρ σ K)
def dn(A:Ans α):DCode→Frame→List ABlk→(Frame→List ABlk→α)→(Nat→Frame→List ABlk→α)→(Frame→List ABlk→α)→α
 |.skip,ρ,σ,K,_,_=>K ρ σ
 |.label _,ρ,σ,K,_,_=>K ρ σ
 |.region _ ms none,ρ,σ,K,_,_=>dnOps A ms ρ σ K
 |.region _ ms (some hd),ρ,σ,K,_,_=>match noWr ms with
  |true=>dnOps A ms ρ σ K
  |false=>XaP A ms ρ σ [] λρ σ lg=>A.gd (Xq hd lg) (K ρ σ)
 |.regionS _ ps hd,ρ,σ,K,_,_=>dnPcs A hd 0 ps ρ σ K
 |.seq a b,ρ,σ,K,E,R=>dn A a ρ σ (λρ σ=>dn A b ρ σ K E R) E R
 |.cond c a b,ρ,σ,K,E,R=>A.test (ev ρ c) (dn A a ρ σ K E R) (dn A b ρ σ K E R)
 |.join lv a,ρ,σ,K,E,R=>joinK (λk=>dn A a ρ σ (λρ' σ=>k (getF ρ' lv) σ) E R) (λvs σ=>K (zipF lv vs (dropF a.asg ρ)) σ)
 | .block id a,ρ,σ,K,E,R=>dn A a ρ σ K (λi ρ σ=>match Nat.beq i id with
  |true=>K ρ σ
  | false=>E i ρ σ) R
 |.loop lv a,ρ,σ,_,E,R=>A.loop (λagain vs σ=>dn A a (zipF lv vs (dropF a.asg ρ)) σ (λρ' σ=>again (getF ρ' lv) σ) E R) (getF ρ lv) σ
 |.exit id,ρ,σ,_,E,_=>E id ρ σ
 |.scope a,ρ,σ,K,E,R=>dn A a ρ σ K E R
 |.ret,ρ,σ,_,_,R=>R ρ σ
def cellV(agg:Bool)(n:Nat)(x:AVal)(σ:List ABlk):Option AVal:=match x with
 |.bptr b j=>match hget σ b with
  |.box row=>partA agg j n row
  |_=>none
 |_=>none
def Zas(A:Ans α):List RV→Frame→List ABlk→(List AVal→α)→α
 |[],_,_,K=>K []
 |.t n::r,ρ,σ,K=>Zas A r ρ σ λvs=>K (fget ρ n::vs)
 |.c s agg n::r,ρ,σ,K=>A.opt (cellV agg n (fget ρ s) σ) λv=>Zas A r ρ σ λvs=>K (v::vs)
structure DFn where
 np:Nat
 n:Nat
 body:DCode
 rets:List RV
 deriving Inhabited
def DFn.fn(D:DFn):MFn:=⟨D.np,D.n,D.body.er,D.rets⟩
def dnFn(A:Ans α)(D:DFn)(xs:List AVal)(σ:List ABlk)(ret:AVal→List ABlk→α):α:=
 dn A D.body (frame0 xs) σ (λρ σ=>Zas A D.rets ρ σ λvs=>ret (retOf vs) σ) (λ_ _ _=>A.stop) (λρ σ=>Zas A D.rets ρ σ λvs=>ret (retOf vs) σ)
def iterA(stop:α):Nat→((List AVal→List ABlk→α)→List AVal→List ABlk→α)→List AVal→List ABlk→α
 |0,_,_,_=>stop
 |n+1,F,vs,σ=>F (iterA stop n F) vs σ
structure AnsOk (P:Program) (GL:Globs) (A:Ans α) (hold:α→Prop):Prop where
 stop:¬hold A.stop
 call:∀ {k xs σ K},hold (A.call k xs σ K)→∃R,OpRel P GL k xs σ R∧∀v σ',R v σ'→hold (K v σ')
 dcall:∀ {k xs σ K},hold (A.dcall k xs σ K)→∃v rd up σ',OpSem P GL k xs (hp σ) v rd up∧upL σ up=some σ'∧hold (K v (rd,up.map (·.1)) σ')
 test:∀ {v a b},hold (A.test v a b)→∃c,v=.bool c∧(c=true→hold a)∧(c=false→hold b)
 loop:∀ {F vs σ},hold (A.loop F vs σ)→∃n,hold (iterA A.stop n F vs σ)
section
variable {P:Program} {GL:Globs} {A:Ans α} {hold:α→Prop}
theorem AnsOk.rd(ok:AnsOk P GL A hold){r:SRes}{K:AVal→α}(h:hold (A.rd r K)):∃v rd,r=.ok v rd []∧hold (K v):=by
 unfold Ans.rd at h;split at h
 ·exact⟨_,_,rfl,h⟩
 ·exact(ok.stop h).elim
theorem AnsOk.pu(ok:AnsOk P GL A hold){r:SRes}{K:AVal→α}(h:hold (A.pu r K)):∃v,r=.ok v [] []∧hold (K v):=by
 unfold Ans.pu at h;split at h
 ·exact⟨_,rfl,h⟩
 ·exact(ok.stop h).elim
theorem AnsOk.wr(ok:AnsOk P GL A hold){r:SRes}{σ:List ABlk}{K:AVal→List ABlk→α}(h:hold (A.wr r σ K)):∃v rd up σ',r=.ok v rd up∧upL σ up=some σ'∧hold (K v σ'):=by
 unfold Ans.wr at h;split at h
 ·split at h
  ·grind
  ·exact(ok.stop h).elim
 ·exact(ok.stop h).elim
theorem AnsOk.dr(ok:AnsOk P GL A hold){r:SRes}{σ:List ABlk}{K:AVal→List Nat×List Nat→List ABlk→α}(h:hold (A.dr r σ K)):∃v rd up σ',r=.ok v rd up∧upL σ up=some σ'∧hold (K v (rd,up.map (·.1)) σ'):=by
 unfold Ans.dr at h;split at h
 ·split at h
  ·grind
  ·exact(ok.stop h).elim
 ·exact(ok.stop h).elim
theorem AnsOk.gd(ok:AnsOk P GL A hold){b:Bool}{k:α}(h:hold (A.gd b k)):b=true∧hold k:=by
 unfold Ans.gd at h;split at h
 ·exact⟨rfl,h⟩
 ·exact(ok.stop h).elim
theorem AnsOk.opt(ok:AnsOk P GL A hold){β:Type}{o:Option β}{K:β→α}(h:hold (A.opt o K)):∃v,o=some v∧hold (K v):=by
 unfold Ans.opt at h;split at h
 ·exact⟨_,rfl,h⟩
 ·exact(ok.stop h).elim
theorem Qj(σ:List ABlk):upL σ []=some σ:=by simp[upL]
theorem Zb6{ρ:Frame}{s:Nat}{w c:Bool}(h:fget ρ s=.bool c):GuardIs ρ (some (s,w)) [(c,w)]:=.bool s w c h
theorem QcJ{c w:Bool}:Hold [(c,w)]↔c=w:=by simp[Hold]
theorem Zai(ok:AnsOk P GL A hold){ρ:Frame}{s:Nat}{w:Bool}{r:α}{K:List (Bool×Bool)→α}(h:hold (A.gx (fget ρ s) w r K)):∃cs,GuardIs ρ (some (s,w)) cs∧((Hold cs∧hold r)∨(¬Hold cs∧hold (K cs))):=by
 unfold Ans.gx at h;split at h
 ·rename_i cs q hc;split at h
  ·rename_i hn;refine⟨_,.when s w q cs hc,.inr ⟨λq=>Qax hn (λp hp=>q p (by simp[hp])),h⟩⟩
  ·exact(ok.stop h).elim
 ·obtain⟨b,hb,h1,h2⟩:=ok.test h;refine⟨_,Zb6 hb,?_⟩
  grind [QcJ]
def Qf(l:List Nat)(ρ ρ':Frame):Prop:=∀s,s∉l→fget ρ' s=fget ρ s
theorem Qf.refl(l:List Nat)(ρ:Frame):Qf l ρ ρ:=λ_ _=>rfl
theorem Qf.trans{l l':List Nat}{a b c:Frame}(h:Qf l a b)(k:Qf l' b c):Qf (l++l') a c:=λs hs=>by
 simp only[List.mem_append,not_or] at hs;rw[k s hs.2,h s hs.1]
theorem Qf.mono{l l':List Nat}{a b:Frame}(h:Qf l a b)(hl:∀x∈l,x∈l'):Qf l' a b:=λs hs=>h s λe=>hs (hl s e)
theorem Qf.put{o:MOper}{v:AVal}{ρ:Frame}:Qf (Zx [o]) ρ (putF o.dst v ρ):=by
 intro s hs;rw[XV];cases hd:o.dst with
 |none=>simp
 |some d=>
  have:s≠d:=by rintro rfl; simp[Zx,hd] at hs
  grind
theorem Qal(o:MOper)(r:List MOper):Zx (o::r)=Zx [o]++Zx r:=by
 cases hd:o.dst<;>simp[Zx,hd]
theorem Xb2(ok:AnsOk P GL A hold){fl:Bool}{o:MOper}{ρ:Frame}{σ:List ABlk}{lg:Log}{K:Frame→List ABlk→α}(hfl:fl=true→isWr (clsOf o.k)=false)(h:hold (dnOp A o ρ σ K)) :
  StepR fl P GL o ρ σ lg (λρ' σ' lg'=>hold (K ρ' σ')∧Qf (Zx [o]) ρ ρ'∧((∃l,lg'=lg++[l]∧(isWr (clsOf o.k)=false→l.2=[])))):=by
 unfold dnOp at h;cases hg:o.guard with
 |none=>
  simp only[hg] at h;have gi:GuardIs ρ o.guard []:=by rw[hg]; exact .none
  have hh:Hold []:=by simp[Hold]
  have rdcase:hold (A.rd (cstep o.k (o.xs.map (ev ρ)) σ) λv=>K (putF o.dst v ρ) σ)→StepR fl P GL o ρ σ lg (λρ' σ' lg'=>hold (K ρ' σ')∧Qf (Zx [o]) ρ ρ'∧((∃l,lg'=lg++[l]∧(isWr (clsOf o.k)=false→l.2=[])))):=by
   intro h;obtain⟨v,rd,e,h⟩:=ok.rd h;exact .run [] _ v rd [] σ gi hh (Yj _) (YC e) (Qj σ) ⟨h,Qf.put,_,rfl,λ_=>rfl⟩
  cases hc:clsOf o.k with
  |mv=>
   simp only[hc] at h;split at h
   ·rename_i x hx;have hk:o.k=.mv:=by
     revert hc; unfold clsOf; split<;>simp_all
    refine .run [] [ev ρ x] (ev ρ x) [] [] σ gi hh (by rw[hx]; exact Yj _) (by rw[hk]; exact Qcw _ _) (Qj σ) ⟨h,Qf.put,_,rfl,λ_=>rfl⟩
   ·exact(ok.stop h).elim
  |pu=>simp_all
  |rd=>simp_all
  |wr=>
   simp only[hc] at h;obtain⟨v,rd,up,σ',e,e2,h⟩:=ok.wr h;exact .run [] _ v rd up σ' gi hh (Yj _) (YC e) e2 ⟨h,Qf.put,_,rfl,λq=>by simp[isWr] at q⟩
  |call=>
   simp only[hc] at h;obtain⟨R,hR,hk⟩:=ok.call h;refine .rel [] _ R ?_ gi hh (Yj _) hR (λv σ' hv=>⟨hk v σ' hv,Qf.put,_,rfl,λq=>by simp[isWr] at q⟩);simp_all [isWr]
 |some p=>
  obtain⟨s,w⟩:=p;simp only[hg] at h;have skipcase:∀cs,GuardIs ρ (some (s,w)) cs→¬Hold cs→hold (K (putF o.dst (udf cs) ρ) σ)→StepR fl P GL o ρ σ lg (λρ' σ' lg'=>hold (K ρ' σ')∧Qf (Zx [o]) ρ ρ'∧((∃l,lg'=lg++[l]∧(isWr (clsOf o.k)=false→l.2=[])))):=by
   intro cs hb hne h;exact .lazy cs _ (.bool false) [] (by rw[hg]; exact hb) (Yj _) (λq=>(hne q).elim) ⟨h,Qf.put,_,rfl,λ_=>rfl⟩
  have rdcase:hold (A.gr (fget ρ s) w (λk=>A.rd (cstep o.k (o.xs.map (ev ρ)) σ) k) λv=>K (putF o.dst v ρ) σ)→StepR fl P GL o ρ σ lg (λρ' σ' lg'=>hold (K ρ' σ')∧Qf (Zx [o]) ρ ρ'∧((∃l,lg'=lg++[l]∧(isWr (clsOf o.k)=false→l.2=[])))):=by
   intro h;obtain⟨cs,hb,⟨h0,h1⟩|⟨h0,h1⟩⟩:=Zai ok h
   ·obtain⟨v,rd,e,h⟩:=ok.rd h1;exact .run cs _ v rd [] σ (by rw[hg]; exact hb) h0 (Yj _) (YC e) (Qj σ) ⟨h,Qf.put,_,rfl,λ_=>rfl⟩
   ·exact skipcase cs hb h0 h1
  cases hc:clsOf o.k with
  |mv=>simp_all
  |pu=>simp_all
  |rd=>simp_all
  |wr=>
   simp only[hc] at h skipcase;obtain⟨cs,hb,⟨h0,h1⟩|⟨h0,h1⟩⟩:=Zai ok h
   ·obtain⟨v,rd,up,σ',e,e2,h⟩:=ok.wr h1;exact .run cs _ v rd up σ' (by rw[hg]; exact hb) h0 (Yj _) (YC e) e2 ⟨h,Qf.put,_,rfl,λq=>by simp[isWr] at q⟩
   ·exact skipcase cs hb h0 h1
  |call=>
   simp only[hc] at h skipcase;obtain⟨cs,hb,⟨h0,h1⟩|⟨h0,h1⟩⟩:=Zai ok h
   ·obtain⟨R,hR,hk⟩:=ok.call h1;refine .rel cs _ R ?_ (by rw[hg]; exact hb) h0 (Yj _) hR (λv σ' hv=>⟨hk v σ' hv,Qf.put,_,rfl,λq=>by simp[isWr] at q⟩);simp_all [isWr]
   ·exact skipcase cs hb h0 h1
theorem AwpR.mono{fl:Bool}:∀ {ms:List MOper} {ρ:Frame} {σ:List ABlk} {lg:Log} {K K':Frame→List ABlk→Log→Prop},(∀ρ σ lg,K ρ σ lg→K' ρ σ lg)→AwpR fl P GL ms ρ σ lg K→AwpR fl P GL ms ρ σ lg K'
 |[],_,_,_,_,_,h,k=>h _ _ _ k
 |_::_,_,_,_,_,_,h,k=>StepR.mono (λ_ _ _ q=>AwpR.mono h q) k
def allRd(lg:Log):Prop:=∀l∈lg,l.2=[]
theorem ZV(ok:AnsOk P GL A hold){fl:Bool}:∀ {ms:List MOper} {ρ:Frame} {σ:List ABlk} {lg:Log} {K:Frame→List ABlk→α},(fl=true→noWr ms=true)→hold (dnOps A ms ρ σ K) →
  AwpR fl P GL ms ρ σ lg (λρ' σ' lg'=>hold (K ρ' σ')∧Qf (Zx ms) ρ ρ'∧(noWr ms=true→allRd lg→allRd lg'))
 |[],ρ,σ,lg,K,_,h=>⟨h,Qf.refl _ _,λ_ q=>q⟩
 |o::r,ρ,σ,lg,K,hfl,h=>by
  unfold dnOps at h;have hfl1:fl=true→isWr (clsOf o.k)=false:=λe=>by simp_all [noWr]
  have hfl2:fl=true→noWr r=true:=λe=>by simp_all [noWr]
  refine StepR.mono (λρ' σ' lg'=>?_) (Xb2 ok (lg:=lg) hfl1 h);rintro⟨k1,k2,l,hl,k3⟩;refine AwpR.mono (λρ'' σ'' lg''=>?_) (ZV ok hfl2 k1);rintro⟨q1,q2,q3⟩;refine⟨q1,by rw[Qal]; exact k2.trans q2,λhn hlg=>?_⟩;simp only[noWr,Bool.and_eq_true,Bool.not_eq_true'] at hn;refine q3 hn.2 ?_;rw[hl];intro x hx;simp only[List.mem_append,List.mem_singleton] at hx;rcases hx with hx|hx
  ·exact hlg x hx
  ·rw[hx]; exact k3 hn.1
theorem QbB(ok:AnsOk P GL A hold){o:MOper}{ρ:Frame}{σ:List ABlk}{lg:Log}{K:Frame→List ABlk→Log→α}(h:hold (dnOpD A o ρ σ lg K)) :
  StepR true P GL o ρ σ lg (λρ' σ' lg'=>hold (K ρ' σ' lg')∧Qf (Zx [o]) ρ ρ'):=by
 unfold dnOpD at h;cases hg:o.guard with
 |none=>
  simp only[hg] at h;have gi:GuardIs ρ o.guard []:=by rw[hg]; exact .none
  have hh:Hold []:=by simp[Hold]
  have drcase:hold (A.dr (cstep o.k (o.xs.map (ev ρ)) σ) σ λv l σ=>K (putF o.dst v ρ) σ (lg++[l]))→StepR true P GL o ρ σ lg (λρ' σ' lg'=>hold (K ρ' σ' lg')∧Qf (Zx [o]) ρ ρ'):=by
   intro h;obtain⟨v,rd,up,σ',e,e2,h⟩:=ok.dr h;exact .run [] _ v rd up σ' gi hh (Yj _) (YC e) e2 ⟨h,Qf.put⟩
  cases hc:clsOf o.k with
  |mv=>
   simp only[hc] at h;split at h
   ·rename_i x hx;have hk:o.k=.mv:=by
     revert hc; unfold clsOf; split<;>simp_all
    refine .run [] [ev ρ x] (ev ρ x) [] [] σ gi hh (by rw[hx]; exact Yj _) (by rw[hk]; exact Qcw _ _) (Qj σ) ⟨h,Qf.put⟩
   ·exact(ok.stop h).elim
  |pu=>
   simp only[hc] at h;obtain⟨v,e,h⟩:=ok.pu h;exact .run [] _ v [] [] σ gi hh (Yj _) (YC e) (Qj σ) ⟨h,Qf.put⟩
  |rd=>simp only[hc] at h; exact drcase h
  |wr=>simp only[hc] at h; exact drcase h
  |call=>
   simp only[hc] at h;obtain⟨v,rd,up,σ',e,e2,h⟩:=ok.dcall h;exact .run [] _ v rd up σ' gi hh (Yj _) e e2 ⟨h,Qf.put⟩
 |some p=>
  obtain⟨s,w⟩:=p;simp only[hg] at h;have skipcase:∀cs,GuardIs ρ (some (s,w)) cs→¬Hold cs→hold (K (putF o.dst (udf cs) ρ) σ (lg++[([],[])]))→StepR true P GL o ρ σ lg (λρ' σ' lg'=>hold (K ρ' σ' lg')∧Qf (Zx [o]) ρ ρ'):=by
   intro cs hb hne h;exact .lazy cs _ (.bool false) [] (by rw[hg]; exact hb) (Yj _) (λq=>(hne q).elim) ⟨h,Qf.put⟩
  have pucase:hold (A.gr (fget ρ s) w (λk=>A.pu (cstep o.k (o.xs.map (ev ρ)) σ) k) λv=>K (putF o.dst v ρ) σ (lg++[([],[])]))→StepR true P GL o ρ σ lg (λρ' σ' lg'=>hold (K ρ' σ' lg')∧Qf (Zx [o]) ρ ρ'):=by
   intro h;obtain⟨cs,hb,⟨h0,h1⟩|⟨h0,h1⟩⟩:=Zai ok h
   ·obtain⟨v,e,h⟩:=ok.pu h1;exact .run cs _ v [] [] σ (by rw[hg]; exact hb) h0 (Yj _) (YC e) (Qj σ) ⟨h,Qf.put⟩
   ·exact skipcase cs hb h0 h1
  have drcase:hold (A.gl (fget ρ s) w (λk=>A.dr (cstep o.k (o.xs.map (ev ρ)) σ) σ k) σ λv l σ=>K (putF o.dst v ρ) σ (lg++[l]))→StepR true P GL o ρ σ lg (λρ' σ' lg'=>hold (K ρ' σ' lg')∧Qf (Zx [o]) ρ ρ'):=by
   intro h;obtain⟨cs,hb,⟨h0,h1⟩|⟨h0,h1⟩⟩:=Zai ok h
   ·obtain⟨v,rd,up,σ',e,e2,h⟩:=ok.dr h1;exact .run cs _ v rd up σ' (by rw[hg]; exact hb) h0 (Yj _) (YC e) e2 ⟨h,Qf.put⟩
   ·exact skipcase cs hb h0 h1
  cases hc:clsOf o.k with
  |mv=>simp only[hc] at h; exact pucase h
  |pu=>simp only[hc] at h; exact pucase h
  |rd=>simp only[hc] at h; exact drcase h
  |wr=>simp only[hc] at h; exact drcase h
  |call=>
   simp only[hc] at h;obtain⟨cs,hb,⟨h0,h1⟩|⟨h0,h1⟩⟩:=Zai ok h
   ·obtain⟨v,rd,up,σ',e,e2,h⟩:=ok.dcall h1;exact .run cs _ v rd up σ' (by rw[hg]; exact hb) h0 (Yj _) e e2 ⟨h,Qf.put⟩
   ·exact skipcase cs hb h0 h1
theorem Xac(ok:AnsOk P GL A hold):∀ {ms:List MOper} {ρ:Frame} {σ:List ABlk} {lg:Log} {K:Frame→List ABlk→Log→α},hold (XaP A ms ρ σ lg K) →
  AwpR true P GL ms ρ σ lg (λρ' σ' lg'=>hold (K ρ' σ' lg')∧Qf (Zx ms) ρ ρ')
 |[],ρ,σ,lg,K,h=>⟨h,Qf.refl _ _⟩
 |o::r,ρ,σ,lg,K,h=>by
  unfold XaP at h;refine StepR.mono (λρ' σ' lg'=>?_) (QbB ok h);rintro⟨k1,k2⟩;refine AwpR.mono (λρ'' σ'' lg''=>?_) (Xac ok k1);rintro⟨q1,q2⟩;exact⟨q1,by rw[Qal]; exact k2.trans q2⟩
theorem YbQ:∀a:List Nat,disj a []=true
 |[]=>rfl
 |x::a=>by simp[disj,YbQ a]
theorem ZT{hd:List (List Nat)}{lg:Log}(h:allRd lg):Xq hd lg=true:=by
 have one:∀(h':List Nat) (q:List Nat×List Nat),q.2=[]→∀(l:Log) (i:Nat),allRd l→YT h' q i l=true:=by
  intro h' q hq l
  induction l with
  |nil=>intro i _; rfl
  |cons p r ih=>
   intro i hl;have hp:p.2=[]:=hl p (by simp);simp[YT,apart2,hq,hp,disj,YbQ,ih (i+1) (λx hx=>hl x (by simp[hx]))]
 unfold Xq;rw[List.all_eq_true];intro j _;refine one _ _ ?_ _ _ (λx hx=>h x (List.mem_of_mem_take hx));unfold YZ;cases hj:lg[j]? with
 |none=>rfl
 |some p=>exact h p (List.mem_of_getElem? hj)
theorem QaR{x:Nat}:∀ {l:List Nat},inL x l=true↔x∈l
 |[]=>by simp[inL]
 |y::l=>by simp[inL,QaR (l:=l)]
theorem Xbj:∀ {l b:List Nat},subL l b=true→∀x∈l,x∈b
 |[],_,_,x,h=>by simp at h
 |y::l,b,h,x,hx=>by
  simp only[subL,Bool.and_eq_true] at h;simp only[List.mem_cons] at hx;rcases hx with rfl|hx
  ·exact QaR.1 h.1
  ·exact Xbj h.2 x hx
theorem Qah(l:List Nat)(s:Nat):∀ρ:Frame,fget (dropF l ρ) s=if s∈l then .junk else fget ρ s
 |[]=>by simp[dropF,fget]
 |(k,v)::r=>by
  unfold dropF;cases hk:inL k l with
  |true=>
   have hm:=QaR.1 hk;simp only;rw[Qah l s r];by_cases hs:s∈l
   ·simp[hs]
   ·have:s≠k:=by rintro rfl; exact hs hm
    simp_all [ZO]
  |false=>
   have hm:k∉l:=λe=>by rw[QaR.2 e] at hk; cases hk
   simp only;rw[ZO,ZO,Qah l s r];by_cases hs:s=k
   ·subst hs; simp[hm]
   ·simp[hs]
theorem Xas{s:Nat}:∀ {lv:List Nat} {vs:List AVal} {ρ:Frame},s∉lv→fget (zipF lv vs ρ) s=fget ρ s
 |[],_,_,_=>rfl
 |k::ks,vs,ρ,h=>by
  simp only[List.mem_cons,not_or] at h;simp only[zipF];rw[ZO,if_neg h.1,Xas h.2]
theorem ZbN{lv:List Nat}{l:List Nat}{ρ ρ1:Frame}(hl:∀x∈lv,x∈l)(h:Qf l ρ ρ1):FLe (zipF lv (getF ρ1 lv) (dropF l ρ)) ρ1:=by
 have key:∀(ks:List Nat) (ρ0:Frame),FLe ρ0 ρ1→FLe (zipF ks (getF ρ1 ks) ρ0) ρ1:=by
  intro ks
  induction ks with
  |nil=>intro ρ0 h; exact h
  |cons k ks ih=>
   intro ρ0 h t;simp only[zipF,getF,hdV,tlV];rw[ZO];by_cases e:t=k
   ·simp_all
   ·rw[if_neg e]; exact ih ρ0 h t
 refine key lv _ (λt=>?_);rw[Qah];by_cases ht:t∈l
 ·rw[if_pos ht]; exact .inr rfl
 ·rw[if_neg ht]; exact .inl (h t ht).symm
theorem Zbz{lv l:List Nat}{vs:List AVal}{ρ:Frame}(hl:∀x∈lv,x∈l):Qf l ρ (zipF lv vs (dropF l ρ)):=by
 intro s hs;rw[Xas (λe=>hs (hl s e)),Qah,if_neg hs]
theorem Zbb{n:Nat}{m:MCode}{ρ:Frame}{σ:List ABlk}{Q:APost}(h:Awp P GL n m ρ σ (λe ρ1 σ1=>∃ρ2,FLe ρ2 ρ1∧Q e ρ2 σ1)):Awp P GL n m ρ σ Q:=by
 intro c hc w0 L g a w r d;refine wp_mono (h c hc w0 L g a w r d) (λe a' w' hl=>?_);cases e with
 |normal=>obtain⟨g',ρ',σ',k1,k2,k3,ρ2,k4,k5⟩:=hl; exact⟨g',ρ2,σ',k1,k2,k3.weak k4,k5⟩
 |exit id=>obtain⟨g',ρ',σ',k1,k2,k3,ρ2,k4,k5⟩:=hl; exact⟨g',ρ2,σ',k1,k2,k3.weak k4,k5⟩
 |ret=>obtain⟨g',ρ',σ',k1,k2,k3,ρ2,k4,k5⟩:=hl; exact⟨g',ρ2,σ',k1,k2,k3.weak k4,k5⟩
 |_=>exact hl.elim
theorem FLe.refl(ρ:Frame):FLe ρ ρ:=λ_=>.inl rfl
theorem Yar(a b:List MOper):Zx (a++b)=Zx a++Zx b:=by
 induction a with
 |nil=>rfl
 |cons o r ih=>grind [Qal]
theorem Q7(ok:AnsOk P GL A hold){hd:List (List Nat)}:∀(ps:Pcs) (lo:Nat) {ρ:Frame} {σ:List ABlk} {K:Frame→List ABlk→α} {Q:Frame→List ABlk→Prop},(∀ρ' σ',Qf (Zx (Qz ps)) ρ ρ'→hold (K ρ' σ')→Q ρ' σ')→hold (dnPcs A hd lo ps ρ σ K)→AwpS P GL hd lo ps ρ σ Q
 |[],_,_,_,_,_,hQ,h=>hQ _ _ (Qf.refl _ _) h
 |(seg,true)::r,lo,ρ,σ,K,Q,hQ,h=>by
  unfold dnPcs at h;refine AwpR.mono (λρ' σ' lg'=>?_) (ZV ok (fl:=false) (λe=>by cases e) h);rintro⟨k1,k2,_⟩;exact Q7 ok r _ (λρ2 σ2 q=>hQ ρ2 σ2 (by rw[Qz,Yar]; exact k2.trans q)) k1
 |(seg,false)::r,lo,ρ,σ,K,Q,hQ,h=>by
  unfold dnPcs at h;have hQ':∀ρ',Qf (Zx seg) ρ ρ'→∀ρ2 σ2,Qf (Zx (Qz r)) ρ' ρ2→hold (K ρ2 σ2)→Q ρ2 σ2:=λρ' k2 ρ2 σ2 q=>hQ ρ2 σ2 (by rw[Qz,Yar]; exact k2.trans q);cases hn:noWr seg with
  |true=>
   simp only[hn] at h;refine AwpR.mono (λρ' σ' lg'=>?_) (ZV ok (fl:=true) (λ_=>hn) h);rintro⟨k1,k2,k3⟩;exact⟨ZT (k3 hn (λ_ q=>by simp at q)),Q7 ok r _ (hQ' _ k2) k1⟩
  |false=>
   simp only[hn] at h;refine AwpR.mono (λρ' σ' lg'=>?_) (Xac ok h);rintro⟨k1,k2⟩;obtain⟨q1,q2⟩:=ok.gd k1;exact⟨q1,Q7 ok r _ (hQ' _ k2) q2⟩
theorem ZR(hP:P.follows .mixedOrders=true)(ok:AnsOk P GL A hold){n:Nat}:∀(m:DCode) {ρ:Frame} {σ:List ABlk} {K:Frame→List ABlk→α} {E:Nat→Frame→List ABlk→α} {R:Frame→List ABlk→α} {Q:APost},m.ok=true →
  (∀ρ' σ',Qf m.asg ρ ρ'→hold (K ρ' σ')→Q .normal ρ' σ')→(∀i ρ' σ',Qf m.asg ρ ρ'→hold (E i ρ' σ')→Q (.exit i) ρ' σ')→(∀ρ' σ',Qf m.asg ρ ρ'→hold (R ρ' σ')→Q .ret ρ' σ') →
  hold (dn A m ρ σ K E R)→Awp P GL n m.er ρ σ Q
 |.skip,_,_,_,_,_,_,_,hK,_,_,h=>YcF (hK _ _ (Qf.refl _ _) h)
 |.label _,_,_,_,_,_,_,_,hK,_,_,h=>Zcd (hK _ _ (Qf.refl _ _) h)
 |.exit id,_,_,_,_,_,_,_,_,hE,_,h=>ZcF (hE _ _ _ (Qf.refl _ _) h)
 |.ret,_,_,_,_,_,_,_,_,_,hR,h=>XcV (hR _ _ (Qf.refl _ _) h)
 |.scope a,_,_,_,_,_,_,hm,hK,hE,hR,h=>Ycd (ZR hP ok a hm hK hE hR h)
 |.region id ms none,ρ,σ,K,E,R,Q,_,hK,_,_,h=>by
  refine Yb0 (AwpR.mono (λρ' σ' lg'=>?_) (ZV ok (fl:=false) (λe=>by cases e) h));rintro⟨k1,k2,_⟩;exact hK _ _ k2 k1
 |.region id ms (some hd),ρ,σ,K,E,R,Q,_,hK,_,_,h=>by
  unfold dn at h;cases hn:noWr ms with
  |true=>
   simp only[hn] at h;refine ZbO hP (AwpR.mono (λρ' σ' lg'=>?_) (ZV ok (fl:=true) (λ_=>hn) h));rintro⟨k1,k2,k3⟩;exact⟨ZT (k3 hn (λ_ q=>by simp at q)),hK _ _ k2 k1⟩
  |false=>
   simp only[hn] at h;refine ZbO hP (AwpR.mono (λρ' σ' lg'=>?_) (Xac ok h));rintro⟨k1,k2⟩;obtain⟨q1,q2⟩:=ok.gd k1;exact⟨q1,hK _ _ k2 q2⟩
 |.regionS id ps hd,ρ,σ,K,E,R,Q,hm,hK,_,_,h=>YcV hP hm (Q7 ok ps 0 (λρ' σ' q k=>hK _ _ q k) h)
 |.seq a b,ρ,σ,K,E,R,Q,hm,hK,hE,hR,h=>by
  simp only[DCode.ok,Bool.and_eq_true] at hm;refine QcV (ZR hP ok a hm.1 (Q:=APost.andThen (λρ σ=>Awp P GL n b.er ρ σ Q) Q) (λρ' σ' hs hk=>?_) (λi ρ' σ' hs hk=>?_) (λρ' σ' hs hk=>?_) h)
  ·exact ZR hP ok b hm.2 (λρ2 σ2 hs2=>hK _ _ (hs.trans hs2)) (λi ρ2 σ2 hs2=>hE _ _ _ (hs.trans hs2)) (λρ2 σ2 hs2=>hR _ _ (hs.trans hs2)) hk
  ·exact hE i ρ' σ' (hs.mono (λx hx=>by simp[DCode.asg,hx])) hk
  ·exact hR ρ' σ' (hs.mono (λx hx=>by simp[DCode.asg,hx])) hk
 |.cond c a b,ρ,σ,K,E,R,Q,hm,hK,hE,hR,h=>by
  simp only[DCode.ok,Bool.and_eq_true] at hm;unfold dn at h;obtain⟨v,hv,h1,h2⟩:=ok.test h;have m1:∀ρ',Qf a.asg ρ ρ'→Qf (DCode.cond c a b).asg ρ ρ':=λρ' q=>q.mono (λx hx=>by simp[DCode.asg,hx]);have m2:∀ρ',Qf b.asg ρ ρ'→Qf (DCode.cond c a b).asg ρ ρ':=λρ' q=>q.mono (λx hx=>by simp[DCode.asg,hx]);refine QcE hv (λe=>?_) (λe=>?_)
  ·exact ZR hP ok a hm.1 (λρ2 σ2 q=>hK _ _ (m1 _ q)) (λi ρ2 σ2 q=>hE _ _ _ (m1 _ q)) (λρ2 σ2 q=>hR _ _ (m1 _ q)) (h1 e)
  ·exact ZR hP ok b hm.2 (λρ2 σ2 q=>hK _ _ (m2 _ q)) (λi ρ2 σ2 q=>hE _ _ _ (m2 _ q)) (λρ2 σ2 q=>hR _ _ (m2 _ q)) (h2 e)
 |.join lv a,ρ,σ,K,E,R,Q,hm,hK,hE,hR,h=>by
  simp only[DCode.ok,Bool.and_eq_true] at hm;have hlv:=Xbj hm.1;refine Zbb (ZR hP ok a hm.2 (K:=λρ' σ=>K (zipF lv (getF ρ' lv) (dropF a.asg ρ)) σ) (E:=E) (R:=R) (λρ' σ' hs hk=>?_) (λi ρ' σ' hs hk=>⟨ρ',FLe.refl _,hE i ρ' σ' hs hk⟩) (λρ' σ' hs hk=>⟨ρ',FLe.refl _,hR ρ' σ' hs hk⟩) h);exact⟨_,ZbN hlv hs,hK _ _ (Zbz hlv) hk⟩
 |.block id a,ρ,σ,K,E,R,Q,hm,hK,hE,hR,h=>by
  refine Qcc (ZR hP ok a hm (Q:=APost.inBlock id Q) hK (λi ρ' σ' hs hk=>?_) hR h);show (if i=id then Q .normal ρ' σ' else Q (.exit i) ρ' σ');by_cases hi:i=id
  ·subst hi;rw[if_pos rfl];have hb:Nat.beq i i=true:=Nat.beq_refl i;simp only[hb] at hk;exact hK _ _ hs hk
  ·rw[if_neg hi];have hb:Nat.beq i id=false:=by
    grind [YNB]
   simp only[hb] at hk;exact hE _ _ _ hs hk
 |.loop lv a,ρ,σ,K,E,R,Q,hm,hK,hE,hR,h=>by
  simp only[DCode.ok,Bool.and_eq_true] at hm;have hlv:=Xbj hm.1;unfold dn at h;obtain⟨k,hk⟩:=ok.loop h;have key:∀(k:Nat) (vs:List AVal) (σ:List ABlk) (ρ1:Frame),FLe (zipF lv vs (dropF a.asg ρ)) ρ1 →
    hold (iterA A.stop k (λagain vs σ=>dn A a (zipF lv vs (dropF a.asg ρ)) σ (λρ' σ=>again (getF ρ' lv) σ) E R) vs σ)→Awp P GL n (.loop a.er) ρ1 σ Q:=by
   intro k
   induction k with
   |zero=>intro vs σ ρ1 _ hk; exact(ok.stop hk).elim
   |succ k ih=>
    intro vs σ ρ1 hle hk;have hz:Qf a.asg ρ (zipF lv vs (dropF a.asg ρ)):=Zbz hlv;have hz2:∀ρ',Qf a.asg (zipF lv vs (dropF a.asg ρ)) ρ'→Qf a.asg ρ ρ':=λρ' q=>(hz.trans q).mono (λx hx=>by simpa using hx);refine XcF hle (Xb0 (ZR hP ok a hm.2 (Q:=APost.andThen (λρ σ=>Awp P GL n (.loop a.er) ρ σ Q) Q) (λρ' σ' hs hk=>?_) (λi ρ' σ' hs hk=>?_) (λρ' σ' hs hk=>?_) hk))
    ·exact ih _ _ ρ' (ZbN hlv (hz2 _ hs)) hk
    ·exact hE i ρ' σ' (hz2 _ hs) hk
    ·exact hR ρ' σ' (hz2 _ hs) hk
  exact key k _ σ ρ (ZbN hlv (Qf.refl _ _)) hk
theorem ZY(ok:AnsOk P GL A hold):∀ {rs:List RV} {ρ:Frame} {σ:List ABlk} {K:List AVal→α},hold (Zas A rs ρ σ K)→∃vs,retL ρ σ rs=some vs∧hold (K vs)
 |[],_,_,_,h=>⟨[],rfl,h⟩
 |.t n::r,ρ,σ,K,h=>by
  obtain⟨vs,h1,h2⟩:=ZY ok (rs:=r) h;exact⟨fget ρ n::vs,by simp[retL,ret1,h1],h2⟩
 |.c s agg n::r,ρ,σ,K,h=>by
  unfold Zas at h;obtain⟨v,hv,h⟩:=ok.opt h;obtain⟨vs,h1,h2⟩:=ZY ok (rs:=r) h;have hv':ret1 ρ σ (.c s agg n)=some v:=by
   unfold cellV at hv;unfold ret1;exact hv
  exact⟨v::vs,by simp[retL,hv',h1],h2⟩
theorem Yb2(hP:P.follows .mixedOrders=true)(ok:AnsOk P GL A hold){D:DFn}(hD:D.body.ok=true){xs:List AVal}{σ:List ABlk}{ret:AVal→List ABlk→α}(h:hold (dnFn A D xs σ ret)) :
  Awp P GL D.n D.body.er (frame0 xs) σ (λe ρ σ'=>(e=.normal∨e=.ret)∧∃v,retV D.rets ρ σ'=some v∧hold (ret v σ')):=by
 refine ZR hP ok D.body hD (λρ' σ' _ hk=>?_) (λi ρ' σ' _ hk=>(ok.stop hk).elim) (λρ' σ' _ hk=>?_) h
 ·obtain⟨vs,h1,h2⟩:=ZY ok hk;simp_all [retV]
 ·obtain⟨vs,h1,h2⟩:=ZY ok hk;simp_all [retV]
end
end
end Go.Ah
end
section
namespace Go.Ah
abbrev GFun:=∀ {α:Type},Ans α→List AVal→List ABlk→(AVal→List ABlk→α)→α
structure GOk (P:Program) (GL:Globs) (f:FuncId) (np:Nat) (g:GFun):Prop where
 plain:Zh P f=true
 ex:∃D:DFn,D.np=np∧FnOk P GL f D.fn∧D.body.ok=true∧∀(α:Type) (A:Ans α) (xs:List AVal) (σ:List ABlk) (ret:AVal→List ABlk→α),xs.length=np→g A xs σ ret=dnFn A D xs σ ret
def annot:MCode→List (Option (List Nat))→DCode×List (Option (List Nat))
 |.skip,l=>(.skip,l)
 |.region id ms hd,l=>(.region id ms hd,l)
 |.seq a b,l=>match annot a l with
  |(a',l)=>match annot b l with
   |(b',l)=>(.seq a' b',l)
 |.cond c a b,l=>match annot a l.tail with
  |(a',l2)=>match annot b l2 with
   |(b',l3)=>match l with
    |some lv::_=>(.join lv (.cond c a' b'),l3)
    |_=>(.cond c a' b',l3)
 |.block id a,l=>match annot a l.tail with
  |(a',l2)=>match l with
   |some lv::_=>(.join lv (.block id a'),l2)
   |_=>(.block id a',l2)
 |.loop a,l=>match annot a l.tail with
  |(a',l2)=>match l with
   |some lv::_=>(.loop lv a',l2)
   |_=>(.loop [] a',l2)
 |.exit id,l=>(.exit id,l)
 |.scope a,l=>match annot a l with
  |(a',l)=>(.scope a',l)
 |.label n,l=>(.label n,l)
 |.ret,l=>(.ret,l)
theorem QX:∀(m:MCode) (l:List (Option (List Nat))),(annot m l).1.er=m
 |.skip,_=>rfl
 |.region ..,_=>rfl
 |.seq a b,l=>by simp only[annot,DCode.er,QX a,QX b]
 |.cond c a b,l=>by
  simp only[annot];split<;>simp only[DCode.er,QX a,QX b]
 |.block id a,l=>by
  simp only[annot];split<;>simp only[DCode.er,QX a]
 |.loop a,l=>by
  simp only[annot];split<;>simp only[DCode.er,QX a]
 |.exit _,_=>rfl
 |.scope a,l=>by simp only[annot,DCode.er,QX a]
 |.label _,_=>rfl
 |.ret,_=>rfl
def Xar(n:Nat)(hd:List (List Nat)):Nat→List MOper→List MOper→Pcs
 |_,[],[]=>[]
 |_,[],o::c=>[(o::c,false)]
 |i,o::r,c=>match clsOf o.k,o.guard with
  |.call,none=>match bndQ n hd i&&bndQ n hd (i+1) with
   |true=>match c with
    |[]=>([o],true)::Xar n hd (i+1) r []
    |x::c=>(x::c,false)::([o],true)::Xar n hd (i+1) r []
   |false=>Xar n hd (i+1) r (c++[o])
  |_,_=>Xar n hd (i+1) r (c++[o])
theorem Xah(n:Nat)(hd:List (List Nat)):∀(i:Nat) (l c:List MOper),Qz (Xar n hd i l c)=c++l
 |_,[],[]=>rfl
 |_,[],o::c=>by simp[Xar,Qz]
 |i,o::r,c=>by
  have h1:Qz (Xar n hd (i+1) r (c++[o]))=c++o::r:=by rw[Xah]; simp
  unfold Xar;split
  ·split
   ·split
    ·simp[Qz,Xah]
    ·simp[Qz,Xah]
   ·exact h1
  ·exact h1
def ZQ:DCode→DCode
 |.region id ms (some hd)=>.regionS id (Xar ms.length hd 0 ms []) hd
 |.seq a b=>.seq (ZQ a) (ZQ b)
 |.cond c a b=>.cond c (ZQ a) (ZQ b)
 |.join lv a=>.join lv (ZQ a)
 |.block id a=>.block id (ZQ a)
 |.loop lv a=>.loop lv (ZQ a)
 |.scope a=>.scope (ZQ a)
 |D=>D
theorem ZK:∀D:DCode,(ZQ D).er=D.er
 |.region id ms (some hd)=>by simp[ZQ,DCode.er,Xah]
 |.region id ms none=>rfl
 |.regionS ..=>rfl
 |.seq a b=>by simp only[ZQ,DCode.er,ZK a,ZK b]
 |.cond c a b=>by simp only[ZQ,DCode.er,ZK a,ZK b]
 |.join lv a=>by simp only[ZQ,DCode.er,ZK a]
 |.block id a=>by simp only[ZQ,DCode.er,ZK a]
 |.loop lv a=>by simp only[ZQ,DCode.er,ZK a]
 |.scope a=>by simp only[ZQ,DCode.er,ZK a]
 |.skip=>rfl
 |.label _=>rfl
 |.exit _=>rfl
 |.ret=>rfl
def Ybl(m:MCode)(l:List (Option (List Nat))):DCode:=match l with
 |some [k]::r=>match Nat.beq k 999 with
  |true=>ZQ (annot m r).1
  |false=>(annot m l).1
 |_=>(annot m l).1
theorem Qcb(m:MCode)(l:List (Option (List Nat))):(Ybl m l).er=m:=by
 unfold Ybl
 grind [ZK,QX]
def compD(P:Program)(GL:Globs)(np:Nat)(f:FuncId)(l:List (Option (List Nat))):Option DFn:=match Zch P GL np f with
 |some F=>bif (Ybl F.body l).ok&&(Zh P f&&Nat.beq F.np np) then some ⟨np,F.n,Ybl F.body l,F.rets⟩ else none
 |none=>none
theorem Ydc{P:Program}{GL:Globs}{np:Nat}{f:FuncId}{l:List (Option (List Nat))}{g:GFun}{D:DFn}(hD:compD P GL np f l=some D)(h:∀(α:Type) (A:Ans α) (xs:List AVal) (σ:List ABlk) (ret:AVal→List ABlk→α),xs.length=np→g A xs σ ret=dnFn A D xs σ ret):GOk P GL f np g:=by
 unfold compD at hD;split at hD
 ·rename_i F hF;obtain⟨hb,hD⟩:=Yu hD;simp only[Bool.and_eq_true] at hb;cases hD;have hnp:=YNB hb.2.2;refine⟨hb.2.1,_,rfl,?_,hb.1,h⟩;have hfn:DFn.fn ⟨np,F.n,Ybl F.body l,F.rets⟩=F:=by
   cases F<;>simp_all [DFn.fn,Qcb]
  rw[hfn];exact Ych hF
 ·cases hD
end Go.Ah
end
section
namespace Go.Ah
theorem XO{σ:List ABlk}{b:Nat}{x:ABlk}(h:σ[b]?=some x):hget σ b=x:=by
 induction σ generalizing b with
 |nil=>simp at h
 |cons y σ ih=>cases b<;>simp_all [hget]
theorem XaR{σ:List ABlk}{b:Nat}(h:b<σ.length):σ[b]?=some (hget σ b):=by
 simp_all [XO]
def Qa5(fp:List Nat)(n:Nat):Nat→List ABlk→List ABlk
 |_,[]=>[]
 |i,x::l=>(bif inL i fp then x.mapV (AVal.ren (ltM n)) else .dead)::Qa5 fp n (i+1) l
def maskR(fp:List Nat)(σ:List ABlk):List ABlk:=Qa5 fp σ.length 0 σ
theorem Za6(fp:List Nat)(n:Nat):∀(l:List ABlk) (i j:Nat),(Qa5 fp n i l)[j]?=(l[j]?).map λx=>bif inL (i+j) fp then x.mapV (AVal.ren (ltM n)) else .dead
 |[],i,j=>by simp[Qa5]
 |x::l,i,0=>by simp[Qa5]
 |x::l,i,j+1=>by
  simp only[Qa5,List.getElem?_cons_succ];rw[Za6 fp n l (i+1) j,show i+1+j=i+(j+1) by omega]
theorem YaT(fp:List Nat)(σ:List ABlk)(j:Nat):(maskR fp σ)[j]?=(σ[j]?).map λx=>bif inL j fp then x.mapV (AVal.ren (ltM σ.length)) else .dead:=by
 rw[maskR,Za6,Nat.zero_add]
theorem YbT(F:Nat→ABlk):∀(keys:List Nat) (h:Hp) (b:Nat),hups h (keys.map λb=>(b,F b)) b=if b∈keys then some (F b) else h b
 |[],h,b=>by simp[hups]
 |x::keys,h,b=>by
  simp only[List.map_cons,hups];rw[YbT F keys]
  grind [hup]
section
variable {P:Program} {GL:Globs}
theorem Xbk{f:FuncId}{F:MFn}(ok:FnOk P GL f F){xs xs':List AVal}(hn:xs.length=F.np)(σ:List ABlk)(fp ids:List Nat)(hfp:∀b∈fp,b∈ids)(hids:∀b∈ids,b<σ.length){v:AVal}{k:Nat}{τ τ':List ABlk}
 (hxs:renL (ltM σ.length) xs=xs')(hτ:maskR fp σ=τ)(h:Awp P GL F.n F.body (frame0 xs') τ (λe ρ s=>(e=.normal∨e=.ret)∧retV F.rets ρ s=some v∧s=τ'))(hk:τ'.length=σ.length+k) :
  ACall P GL f xs (hp σ) (v.ren (keepM ids σ.length k)) ids ((fp++List.range' σ.length k).map λb=>(b,(hget τ' b).mapV (AVal.ren (keepM ids σ.length k)))):=by
 intro w0 L g hq w vs r hx hrd hup;subst hxs; subst hτ
 let dm:CB:=⟨0,0,0,true,0⟩
 let c':Own:=λb=>if b<σ.length then some ((g.c b).getD dm) else none
 let lb:List Nat:=fp.filterMap λb=>match g.c b,σ[b]? with
  |some cb,some x=>bif x.live && !cb.virt then some cb.blk else none
  |_,_=>none
 have hknown:∀b∈ids,∃cb,g.c b=some cb∧c' b=some cb∧hq b=σ[b]?:=by
  intro b hb;have hl:=hids b hb;have e1:hq b=σ[b]?:=hrd b hb;obtain⟨cb,hcb⟩:=r.dom b σ[b] (by rw[e1]; simp[hl]);exact⟨cb,hcb,by simp only[c']; rw[if_pos hl,hcb]; rfl,e1⟩
 have hlb:∀b∈fp,∀cb y,g.c b=some cb→σ[b]?=some y→y.live=true→cb.virt=false→cb.blk∈lb:=by
  intro b hb cb y hcb hy hl hv;simp only[lb,List.mem_filterMap];exact⟨b,hb,by rw[hcb,hy]; simp[hl,hv]⟩
 have hlt:∀b x,(maskR fp σ)[b]?=some x→b<σ.length:=by
  intro b x e;rw[YaT] at e;cases hs:σ[b]? with
  |none=>rw[hs] at e; cases e
  |some y=>exact(YLG hs).1
 have hlive:∀b x,(maskR fp σ)[b]?=some x→x.live=true→b∈fp∧∃y,σ[b]?=some y∧x=y.mapV (AVal.ren (ltM σ.length)):=by
  intro b x e hl;rw[YaT] at e;cases hs:σ[b]? with
  |none=>rw[hs] at e; cases e
  |some y=>
   rw[hs] at e;simp only[Option.map_some,Option.some.injEq] at e;cases hi:inL b fp with
   |false=>rw[hi] at e; subst e; cases hl
   |true=>rw[hi] at e; exact⟨QaR.1 hi,y,rfl,e.symm⟩
 have hren:∀x u,g.den x u→Den g.M c' (x.ren (ltM σ.length)) u:=by
  intro x u d;refine d.ren (λb b' cb k1 k2=>?_);unfold ltM at k1;obtain⟨k0,k1⟩:=Yu k1;cases k1;have hl:b<σ.length:=YNL k0;simp only[c'];rw[if_pos hl,k2]; rfl
 have r0:Rep GL w ⟨lb,g.M⟩ ⟨g.M,c'⟩ (hp (maskR fp σ)) w:={
  keeps:=Keeps.refl _ _,stable:=r.stable,src:=λb o e=>.inl e,globs:=r.globs
  empt:=λb e=>by
   have e':(maskR fp σ)[b]?=none:=e;rw[YaT] at e';show c' b=none;simp only[c'];rw[if_neg];intro hb;simp[hb] at e'
  dom:=λb blk e=>by
   have:=hlt b blk e;exact⟨_,by show c' b=_; simp only[c']; rw[if_pos this]⟩
  own:=λb blk cb e hl ec hv=>by
   obtain⟨hb,y,hy,rfl⟩:=hlive b blk e hl;obtain⟨cb0,q1,q2,q3⟩:=hknown b (hfp b hb);have ec':c' b=some cb:=ec;rw[q2] at ec'; cases ec';rw[ABlk.mapV_live] at hl;obtain⟨p1,p2,o,p3,p4⟩:=r.own b y _ (by rw[q3]; exact hy) hl q1 hv;exact⟨p1,.inl (hlb b hb _ y q1 hy hl hv),o,p3,p4.mapV (p:=λ_=>True) (λx u _ d=>hren x u d) (ABlk.all_true _)⟩
  hollow:=λb blk cb e hl ec hv=>by
   obtain⟨hb,y,hy,rfl⟩:=hlive b blk e hl;obtain⟨cb0,q1,q2,q3⟩:=hknown b (hfp b hb);have ec':c' b=some cb:=ec;rw[q2] at ec'; cases ec';rw[ABlk.mapV_live] at hl;have:=r.hollow b y _ (by rw[q3]; exact hy) hl q1 hv;subst this; rfl
  inj:=λb b' blk blk' cb cb' e1 e2 l1 l2 c1 c2 v1 v2 hblk=>by
   obtain⟨hb,y,hy,rfl⟩:=hlive b blk e1 l1;obtain⟨hb',y',hy',rfl⟩:=hlive b' blk' e2 l2;obtain⟨cb0,q1,q2,q3⟩:=hknown b (hfp b hb);obtain⟨cb0',q1',q2',q3'⟩:=hknown b' (hfp b' hb');have c1':c' b=some cb:=c1;have c2':c' b'=some cb':=c2;rw[q2] at c1'; cases c1';rw[q2'] at c2'; cases c2';rw[ABlk.mapV_live] at l1 l2;exact r.inj b b' y y' _ _ (by rw[q3]; exact hy) (by rw[q3']; exact hy') l1 l2 q1 q1' v1 v2 hblk }
 have hx':DenL ⟨g.M,c'⟩ (renL (ltM σ.length) xs) vs:=by
  refine DenL.of_get (by rw[Xv]; exact hx.length) (λi y u e1 e2=>?_);obtain⟨x,q1,rfl⟩:=Xai e1;exact hren x u (hx.get i x u q1 e2)
 obtain⟨fn,c,h1,h2,h3,h4,h5⟩:=ok.ok;have d0:=X4 hx' (n:=F.n) (by rw[Xv,hn]; exact ok.np);refine calls_of_wp h1 h2 ?_;rw[h3];refine wp_mono (h c h4 w ⟨lb,g.M⟩ _ _ w r0 d0) (λe a' w' hl=>?_);have fin:∀ g' ρ σ',(⟨g.M,c'⟩:Gm).Le g'→Rep GL w ⟨lb,g.M⟩ g' (hp σ') w'→DenF F.n g' ρ a'→(retV F.rets ρ σ'=some v∧σ'=τ')→∃ u,(results fn a'.tmps).run P w'=.ok u w'∧(∃ u',Ending.returned u=.returned u'∧∃ g2,g.Le g2 ∧
   Rep GL w0 L g2 (hups hq ((fp ++ List.range' σ.length k).map λb=>(b,(hget τ' b).mapV (AVal.ren (keepM ids σ.length k))))) w'∧g2.den (v.ren (keepM ids σ.length k)) u'):=by
  rintro g' ρ σ' hle hr hd ⟨hret,rfl⟩;obtain⟨u,k1,k2⟩:=Yau hr hd h5 hret
  let keys:=fp++List.range' σ.length k
  have hkeys:∀b,b∈keys↔b∈fp∨(σ.length≤b∧b<σ.length+k):=by
   intro b; simp only[keys,List.mem_append,List.mem_range'_1]
  let cF:Own:=λb=>if b∈keys then g'.c b else g.c b
  have hkl:∀b∈keys,b<σ'.length:=by
   intro b hb;rcases (hkeys b).1 hb with q|q
   ·have:=hids b (hfp b q); omega
   ·omega
  have hgc:∀b cb,g.c b=some cb→cF b=some cb:=by
   intro b cb e;simp only[cF];split
   ·rename_i hb;rcases (hkeys b).1 hb with q|q
    ·obtain⟨cb0,q1,q2,q3⟩:=hknown b (hfp b q);rw[q1] at e; cases e;exact hle.c b _ q2
    ·have hn:hq b=none:=by
      have:=hup (b,_) (List.mem_map.2 ⟨b,hb,rfl⟩);rw[this]; simp[hp]; omega
     rw[r.empt b hn] at e; cases e
   ·exact e
  have hren2:∀x u,g'.den x u→Den g'.M cF (x.ren (keepM ids σ.length k)) u:=by
   intro x u d;refine d.ren (λb b' cb e1 e2=>?_);unfold keepM at e1;obtain⟨e0,e1⟩:=Yu e1;cases e1;by_cases hb:b∈keys
   ·simp only[cF]; rw[if_pos hb]; exact e2
   ·simp only[Bool.or_eq_true,Bool.and_eq_true] at e0;rcases e0 with q|⟨q1,q2⟩
    ·obtain⟨cb0,p1,p2,p3⟩:=hknown b (List.contains_iff_mem.1 q);have:=hle.c b cb0 p2;rw[e2] at this; cases this;exact hgc b _ p1
    ·have:=YNL q1;have:b<σ.length+k:=YNL q2;exact(hb ((hkeys b).2 (.inr (by omega)))).elim
  have hF:∀b,hups hq (keys.map λb=>(b,(hget σ' b).mapV (AVal.ren (keepM ids σ.length k)))) b=if b∈keys then some ((hget σ' b).mapV (AVal.ren (keepM ids σ.length k))) else hq b:=YbT _ keys hq
  have hlbown:∀q∈lb,∃b∈fp,∃cb y,g.c b=some cb∧hq b=some y∧y.live=true∧cb.virt=false∧q=cb.blk:=by
   intro q hq';simp only[lb,List.mem_filterMap] at hq';obtain⟨b,hb,e⟩:=hq';obtain⟨cb0,q1,_,q3⟩:=hknown b (hfp b hb);rw[q1] at e;cases hs:σ[b]? with
   |none=>rw[hs] at e; cases e
   |some y=>
    rw[hs] at e;obtain⟨e1,e2⟩:=Yu e;simp only[Bool.and_eq_true,Bool.not_eq_true'] at e1;cases e2;exact⟨b,hb,cb0,y,q1,by rw[q3]; exact hs,e1.1,e1.2,rfl⟩
  have hlbM:∀q∈lb,g.M q=none∧(q∈L.l∨w0.heap.size≤q):=by
   intro q hq';obtain⟨b,hb,cb,y,q1,q2,q3,q4,rfl⟩:=hlbown q hq';obtain⟨p1,p2,_⟩:=r.own b y cb q2 q3 q1 q4;exact⟨p1,p2⟩
  have hout:∀b blk cb,b∉keys→hq b=some blk→blk.live=true→g.c b=some cb→cb.virt=false→cb.blk∉lb:=by
   intro b blk cb hb e hl ec hv hin;obtain⟨b2,hb2,cb2,y,q1,q2,q3,q4,q5⟩:=hlbown _ hin;have:=r.inj b b2 blk y cb cb2 e q2 hl q3 ec q1 hv q4 q5;subst this;exact hb ((hkeys b).2 (.inl hb2))
  have hsz:=r.keeps.size;have hcF1:∀b,b∈keys→cF b=g'.c b:=λb hb=>by simp only[cF]; rw[if_pos hb]
  have hcF2:∀b,b∉keys→cF b=g.c b:=λb hb=>by simp only[cF]; rw[if_neg hb]
  have hat:∀ b,b∈keys→hp σ' b=some (hget σ' b):=λb hb=>XaR (hkl b hb);refine⟨u,k1,u,rfl,⟨g'.M,cF⟩,⟨hle.m,λb cb e=>hgc b cb e⟩,?_,hren2 v u k2⟩;exact {
   keeps:=r.keeps.trans' hr.keeps.os hr.keeps.tape hr.keeps.output hr.keeps.size (λj hj hjl=>hr.keeps.block j (by omega) (λhin=>by
    rcases (hlbM j hin).2 with q|q
    ·exact hjl q
    ·omega))
   stable:=hr.stable
   src:=λb o e=>by
    rcases hr.src b o e with q|q|q
    ·exact r.src b o q
    ·exact .inr (.inl (by omega))
    ·rcases (hlbM b q).2 with q|q
     ·exact .inr (.inr q)
     ·exact .inr (.inl q)
   globs:=λp hp'=>(r.globs p hp').mono hle.m (CLe.refl _)
   empt:=λb e=>by
    rw[hF] at e;split at e
    ·cases e
    ·rename_i hb;show cF b=none;rw[hcF2 b hb]; exact r.empt b e
   dom:=λb blk e=>by
    rw[hF] at e;show ∃cb,cF b=some cb;split at e
    ·rename_i hb;rw[hcF1 b hb]; exact hr.dom b _ (hat b hb)
    ·rename_i hb;rw[hcF2 b hb]; exact r.dom b blk e
   own:=λb blk cb e hl ec hv=>by
    rw[hF] at e;have ec':cF b=some cb:=ec;split at e
    ·rename_i hb;cases e;rw[ABlk.mapV_live] at hl;rw[hcF1 b hb] at ec';obtain⟨p1,p2,o,p3,p4⟩:=hr.own b _ cb (hat b hb) hl ec' hv;refine⟨p1,?_,o,p3,p4.mapV (p:=λ_=>True) (λx u _ d=>hren2 x u d) (ABlk.all_true _)⟩;rcases p2 with q|q
     ·exact(hlbM _ q).2
     ·exact .inr (by omega)
    ·rename_i hb;rw[hcF2 b hb] at ec';obtain⟨p1,p2,o,p3,p4⟩:=r.own b blk cb e hl ec' hv;have hlt':=r.lt_of_own e hl ec' hv;have hnin:=hout b blk cb hb e hl ec' hv;refine⟨?_,p2,o,by rw[hr.keeps.block _ hlt' hnin]; exact p3,p4.mono hle.m (λb cb e=>hgc b cb e)⟩;show g'.M cb.blk=none;cases hm:g'.M cb.blk with
     |none=>rfl
     |some x=>
      rcases hr.src _ _ hm with q|q|q
      ·have q:g.M cb.blk=some x:=q;rw[p1] at q; cases q
      ·omega
      ·exact(hnin q).elim
   hollow:=λb blk cb e hl ec hv=>by
    rw[hF] at e;have ec':cF b=some cb:=ec;split at e
    ·rename_i hb;cases e;rw[ABlk.mapV_live] at hl;rw[hcF1 b hb] at ec';rw[hr.hollow b _ cb (hat b hb) hl ec' hv]; rfl
    ·rename_i hb;rw[hcF2 b hb] at ec';exact r.hollow b blk cb e hl ec' hv
   inj:=λb b' blk blk' cb cb' e1 e2 l1 l2 c1 c2 v1 v2 hblk=>by
    rw[hF] at e1 e2;have c1':cF b=some cb:=c1;have c2':cF b'=some cb':=c2;have cross:∀b b' blk' cb cb',b∈keys→b'∉keys→(hget σ' b).live=true→g'.c b=some cb→cb.virt=false→hq b'=some blk'→blk'.live=true→g.c b'=some cb'→cb'.virt=false→cb.blk=cb'.blk→False:=by
     intro b b' blk' cb cb' hb hb' hl hc hv e' hl' hc' hv' he;obtain⟨_,p2,_⟩:=hr.own b _ cb (hat b hb) hl hc hv;have hlt':=r.lt_of_own e' hl' hc' hv';have hnin:=hout b' blk' cb' hb' e' hl' hc' hv';rcases p2 with q|q
     ·rw[he] at q; exact hnin q
     ·omega
    split at e1
    ·rename_i hb;cases e1;rw[ABlk.mapV_live] at l1;rw[hcF1 b hb] at c1';split at e2
     ·rename_i hb';cases e2;rw[ABlk.mapV_live] at l2;rw[hcF1 b' hb'] at c2';exact hr.inj b b' _ _ cb cb' (hat b hb) (hat b' hb') l1 l2 c1' c2' v1 v2 hblk
     ·rename_i hb';rw[hcF2 b' hb'] at c2';exact(cross b b' blk' cb cb' hb hb' l1 c1' v1 e2 l2 c2' v2 hblk).elim
    ·rename_i hb;rw[hcF2 b hb] at c1';split at e2
     ·rename_i hb';cases e2;rw[ABlk.mapV_live] at l2;rw[hcF1 b' hb'] at c2';exact(cross b' b blk cb' cb hb' hb l2 c2' v2 e1 l1 c1' v1 hblk.symm).elim
     ·rename_i hb';rw[hcF2 b' hb'] at c2';exact r.inj b b' blk blk' cb cb' e1 e2 l1 l2 c1' c2' v1 v2 hblk }
 cases e with
 |normal=>obtain⟨g',ρ,σ,k1,k2,k3,k4⟩:=hl; exact⟨k3.defers,fin g' ρ σ k1 k2 k3 k4.2⟩
 |ret=>obtain⟨g',ρ,σ,k1,k2,k3,k4⟩:=hl; exact⟨k3.defers,fin g' ρ σ k1 k2 k3 k4.2⟩
 |exit id=>obtain⟨g',ρ,σ,k1,k2,k3,k4⟩:=hl; rcases k4.1 with q|q<;>cases q
 |_=>exact hl.elim
end
end Go.Ah
end
section
namespace Go.Ah
def W(P:Program)(GL:Globs):Ans Prop where
 stop:=False
 call k xs σ K:=∃R,OpRel P GL k xs σ R∧∀v σ',R v σ'→K v σ'
 dcall k xs σ K:=∃v rd up σ',OpSem P GL k xs (hp σ) v rd up∧upL σ up=some σ'∧K v (rd,up.map (·.1)) σ'
 test v a b:=match v with
  |.bool c=>(c=true→a)∧(c=false→b)
  |_=>False
 loop F vs σ:=∃n,iterA False n F vs σ
theorem Yc7(P:Program)(GL:Globs):AnsOk P GL (W P GL) (λp=>p) where
 stop:=λh=>h
 call:=λh=>h
 dcall:=λh=>h
 test:=λ{v a b} h=>by
  simp only[W] at h
  grind
 loop:=λh=>h
section
variable {P:Program} {GL:Globs}
theorem GOk.awp(hP:P.follows .mixedOrders=true){α:Type}{A:Ans α}{hold:α→Prop}(ok:AnsOk P GL A hold){f:FuncId}{np:Nat}{g:GFun}(hg:GOk P GL f np g){xs:List AVal}(hn:xs.length=np){σ:List ABlk}{ret:AVal→List ABlk→α}(h:hold (g A xs σ ret)) :
  ∃F,FnOk P GL f F∧F.np=np∧Awp P GL F.n F.body (frame0 xs) σ (λe ρ σ'=>(e=.normal∨e=.ret)∧∃v,retV F.rets ρ σ'=some v∧hold (ret v σ')):=by
 obtain⟨D,h1,h2,h3,h4⟩:=hg.ex;rw[h4 α A xs σ ret hn] at h;exact⟨D.fn,h2,h1,Yb2 hP ok h3 h⟩
theorem Yc(hP:P.follows .mixedOrders=true){f:FuncId}{np:Nat}{g:GFun}(hg:GOk P GL f np g){xs:List AVal}(hn:xs.length=np){v:AVal}(hv:v.ro=true)(h:g (W P GL) xs [] (λv' _=>v'=v)):PCall P GL f xs v:=by
 obtain⟨F,h1,h2,h3⟩:=hg.awp hP (Yc7 P GL) hn h;refine QaE h1 (hn.trans h2.symm) hv (h3.mono λe ρ σ k=>?_);simp_all
theorem Zb7(hP:P.follows .mixedOrders=true){f:FuncId}{np:Nat}{g:GFun}(hg:GOk P GL f np g){xs:List AVal}(hn:xs.length=np){v:AVal}{bs:List ABlk}(h:g (W P GL) xs [] (λv' σ=>v'=v∧σ=bs)):NCall P GL f xs v bs:=by
 obtain⟨F,h1,h2,h3⟩:=hg.awp hP (Yc7 P GL) hn h;refine ZaE h1 (hn.trans h2.symm) (h3.mono λe ρ σ k=>?_)
 grind
def frz(σ:List ABlk)(v:AVal):Option AVal:=match v with
 |.tup vs=>match Xs σ 1000 vs with
  |some (ys,_)=>some (.tup ys)
  |none=>none
 |v=>match Xs σ 1000 [v] with
  |some ([y],_)=>some y
  |_=>none
theorem YcZ{σ:List ABlk}{v y:AVal}(hy:frz σ v=some y){w0:World}{L:Ln}{g:Gm}{w:World}{M2:Nat→Option Obj}(r:Rep GL w0 L g (hp σ) w)(cov:Cov g (hp σ) w M2){u:Value}(hd:g.den v u):Den M2 noOwn y u:=by
 unfold frz at hy;split at hy
 ·rename_i vs;split at hy
  ·rename_i ys rd hb;cases hy;have hbor:=Z3 _ _ _ _ hb rd (λ_ q=>q);cases hd with
   |tup _ _ us hs hd=>
    have hd2:=hbor GL w0 L g (hp σ) w M2 r cov (λ_ _=>rfl) us.toList (DenL.of_get (by simp[hs]) (λi x v e1 e2=>hd i x v e1 (by simpa using e2)));exact .tup _ _ _ (by have:=hd2.length; simpa using this.symm) (λi x v e1 e2=>hd2.get i x v e1 (by simpa using e2))
  ·cases hy
 ·split at hy
  ·rename_i y' rd hb;cases hy;have hbor:=Z3 _ _ _ _ hb rd (λ_ q=>q);exact(hbor GL w0 L g (hp σ) w M2 r cov (λ_ _=>rfl) [u] ⟨hd,trivial⟩).1
  ·cases hy
theorem Z1{f:FuncId}{xs:List AVal}{v y:AVal}{bs:List ABlk}(h:NCall P GL f xs v bs)(hy:frz bs v=some y):PCall P GL f xs y:=by
 intro w M vs hM hg hx;refine(h w M vs hM hg hx).mono ?_;rintro e w' ⟨u,he,g',hle,r,hd⟩
 let M2:Nat→Option Obj:=λb=>if b<w.heap.size then g'.M b else w'.heap[b]?
 have cov:Cov g' (hp bs) w' M2:=by
  refine⟨λb o e=>?_,λb blk cb o e1 e2 e3 e4 e5=>?_⟩
  ·show (if b<w.heap.size then g'.M b else w'.heap[b]?)=some o;split
   ·exact e
   ·exact r.stable b o e
  ·obtain⟨_,hin,_⟩:=r.own b blk cb e1 e2 e3 e4
   grind
 have hd2:=YcZ hy r cov hd;refine⟨u,he,r.keeps,M2,λb o e=>cov.1 b o (hle b o e),λb o e=>?_,λb o e=>?_,hd2⟩
 ·have e':(if b<w.heap.size then g'.M b else w'.heap[b]?)=some o:=e;split at e'
  ·exact r.stable b o e'
  ·exact e'
 ·have e':(if b<w.heap.size then g'.M b else w'.heap[b]?)=some o:=e;split at e'
  ·rcases r.src b o e' with q|q|q<;>simp_all
  ·exact .inr (by omega)
theorem Zbt(hP:P.follows .mixedOrders=true){f:FuncId}{np:Nat}{g:GFun}(hg:GOk P GL f np g){xs:List AVal}(hn:xs.length=np){y:AVal}(h:∃v bs,frz bs v=some y∧g (W P GL) xs [] (λv' σ=>v'=v∧σ=bs)):PCall P GL f xs y:=by
 obtain⟨v,bs,h1,h2⟩:=h;exact Z1 (Zb7 hP hg hn h2) h1
theorem XaE{k:MK}{xs:List AVal}{σ σ':List ABlk}{v:AVal}{rd:List Nat}{up:List (Nat×ABlk)}(h:OpSem P GL k xs (hp σ) v rd up)(hu:upL σ up=some σ'):OpRel P GL k xs σ (λv' s=>v'=v∧s=σ'):=by
 intro o os hc w0 L g w a r hx;have:=h o os hc w0 L g (hp σ) w a r hx (λ_ _=>rfl) (λ_ _=>rfl);rw[Xaw _ _ _ hu] at this;generalize (execOp a.eval o).run P w=res at this;cases res with
 |ok nx w'=>
  cases nx with
  |value u=>obtain⟨g',k1,k2,k3⟩:=this; exact⟨g',v,σ',⟨rfl,rfl⟩,k1,k2,k3⟩
  |skip=>obtain⟨g',k1,k2,k3⟩:=this; exact⟨g',σ',⟨k3.symm,rfl⟩,k1,k2⟩
  |enter f args=>
   refine Calls.mono this ?_
   grind
  |_=>exact this.elim
 |_=>exact this.elim
theorem QA{k:MK}{xs ys:List AVal}{f:FuncId}(hc:Qq k xs=some (f,ys))(hp':Zh P f=true){σ:List ABlk}{v:AVal}{rd:List Nat}{up:List (Nat×ABlk)}(h:ACall P GL f ys (hp σ) v rd up):OpSem P GL k xs (hp σ) v rd up:=by
 unfold Qq at hc
 grind [QcM,Xcv,Xb8]
theorem Qag{k:MK}{xs ys:List AVal}{f:FuncId}(hc:Qq k xs=some (f,ys))(hp':Zh P f=true){σ σ':List ABlk}{v:AVal}{rd:List Nat}{up:List (Nat×ABlk)}(h:ACall P GL f ys (hp σ) v rd up)(hu:upL σ up=some σ'){K:AVal→List ABlk→Prop}(hK:K v σ'):(W P GL).call k xs σ K:=
 ⟨_,XaE (QA hc hp' h) hu,by rintro _ _ ⟨rfl,rfl⟩; exact hK⟩
theorem XaN{k:MK}{xs ys:List AVal}{f:FuncId}(hc:Qq k xs=some (f,ys))(hp':Zh P f=true){σ σ':List ABlk}{v:AVal}{rd:List Nat}{up:List (Nat×ABlk)}(h:ACall P GL f ys (hp σ) v rd up)(hu:upL σ up=some σ'){K:AVal→List Nat×List Nat→List ABlk→Prop}(hK:K v (rd,up.map (·.1)) σ'):(W P GL).dcall k xs σ K:=
 ⟨v,rd,up,σ',QA hc hp' h,hu,hK⟩
theorem Qm(hP:P.follows .mixedOrders=true){k:MK}{xs ys:List AVal}{f:FuncId}(hc:Qq k xs=some (f,ys)){np:Nat}{g:GFun}(hg:GOk P GL f np g)(hn:ys.length=np){σ:List ABlk}{K:AVal→List ABlk→Prop}(h:g (W P GL) ys σ K):(W P GL).call k xs σ K:=by
 obtain⟨F,h1,h2,h3⟩:=hg.awp hP (Yc7 P GL) hn h;exact⟨K,Xa7 hc hg.plain h1 (hn.trans h2.symm) h3,λ_ _ q=>q⟩
theorem Xb{k:MK}{xs ys:List AVal}{f:FuncId}{v:AVal}(h:PCall P GL f ys v)(hc:Qq k xs=some (f,ys))(hp':Zh P f=true)(hro:roL ys=true){σ:List ABlk}{K:AVal→List ABlk→Prop}(hK:K v σ):(W P GL).call k xs σ K:=
 Qag hc hp' (h.here hro (hp σ)) (Qj σ) hK
theorem Qg{k:MK}{xs ys:List AVal}{f:FuncId}{v:AVal}(h:PCall P GL f ys v)(hc:Qq k xs=some (f,ys))(hp':Zh P f=true)(hro:roL ys=true){σ:List ABlk}{K:AVal→List Nat×List Nat→List ABlk→Prop}(hK:K v ([],[]) σ):(W P GL).dcall k xs σ K:=
 XaN hc hp' (h.here hro (hp σ)) (Qj σ) hK
theorem YD{k:MK}{xs ys zs:List AVal}{f:FuncId}{v:AVal}{rd:List Nat}(h:PCall P GL f zs v){σ:List ABlk}(hc:Qq k xs=some (f,ys))(hp':Zh P f=true)(hb:Xs σ 1000 ys=some (zs,rd))(hv:v.flat=true){K:AVal→List ABlk→Prop}(hK:K v σ):(W P GL).call k xs σ K:=
 Qag hc hp' (h.lend (Z3 _ _ _ _ hb _ (λ_ q=>q)) hv) (Qj σ) hK
theorem Zg{ι:Type}(I:ι→List AVal→List ABlk→Prop)(μ:ι→Nat){F:(List AVal→List ABlk→Prop)→List AVal→List ABlk→Prop}(i0:ι){vs:List AVal}{σ:List ABlk}(h0:I i0 vs σ)
 (round:∀i vs σ again,I i vs σ→(∀j vs' σ',μ j<μ i→I j vs' σ'→again vs' σ')→F again vs σ):(W P GL).loop F vs σ:=by
 have key:∀(m:Nat) (i:ι) (vs:List AVal) (σ:List ABlk),μ i<m→I i vs σ→iterA False m F vs σ:=by
  intro m
  induction m with
  |zero=>intro i vs σ h; omega
  |succ m ih=>
   intro i vs σ h hI;exact round i vs σ _ hI (λj vs' σ' hlt hj=>ih j vs' σ' (by omega) hj)
 exact⟨_,key (μ i0+1) i0 vs σ (by omega) h0⟩
end
section
variable {P:Program} {GL:Globs}
theorem QaB(c:Bool)(a b:Prop):(W P GL).test (.bool c) a b=((c=true→a)∧(c=false→b)):=rfl
end
section
variable {α:Type} (A:Ans α)
theorem YaH(v:AVal)(rd:List Nat)(K:AVal→α):A.rd (.ok v rd []) K=K v:=rfl
theorem pu_ok(v:AVal)(K:AVal→α):A.pu (.ok v [] []) K=K v:=rfl
theorem Qc5(v:AVal)(rd:List Nat)(up:List (Nat×ABlk))(σ:List ABlk)(K:AVal→List ABlk→α):A.wr (.ok v rd up) σ K=A.opt (upL σ up) (K v):=by
 show (match upL σ up with|some σ'=>K v σ'|none=>A.stop)=_;unfold Ans.opt; cases upL σ up<;>rfl
theorem Zc9(v:AVal)(rd:List Nat)(up:List (Nat×ABlk))(σ:List ABlk)(K:AVal→List Nat×List Nat→List ABlk→α):A.dr (.ok v rd up) σ K=A.opt (upL σ up) (K v (rd,up.map (·.1))):=by
 show (match upL σ up with|some σ'=>K v _ σ'|none=>A.stop)=_;unfold Ans.opt; cases upL σ up<;>rfl
theorem XbW{β:Type}(v:β)(K:β→α):A.opt (some v) K=K v:=rfl
theorem XcZ(k:α):A.gd true k=k:=rfl
end
theorem QS{n:Nat}:∀ {a b:List Nat},Yr n (a++b)=true→Yr n a=true∧Yr n b=true
 |[],_,h=>⟨rfl,h⟩
 |x::a,b,h=>by
  simp only[List.cons_append,Yr,Bool.and_eq_true] at h;obtain⟨h1,h2⟩:=QS h.2;exact⟨by simp[Yr,h.1,h1],h2⟩
def tstC{α:Type}(stop:α)(v:AVal)(a b:α):α:=match v with
 |.bool true=>a
 |.bool false=>b
 |_=>stop
abbrev CG:=FuncId→List AVal→List ABlk→Option (AVal×List ABlk)
def QbP(cg:CG)(f:FuncId)(ys:List AVal)(σ:List ABlk):Option (AVal × List ABlk):=bif Yr σ.length (idsL ys) then (match cg f (renL (ltM σ.length) ys) (XE σ) with
 | some (v,σ')=>(match ZX σ.length σ' with
  |some news=>some (v,news)
  | none=>none)
 | none=>none) else none
def Xc7:ABlk→List Nat
 |.box row=>idsL row
 |.rows _ rs=>rs.flatMap idsL
 |_=>[]
def QaU(σ:List ABlk):Nat→List Nat→List Nat→List Nat
 |0,_,seen=>seen
 |_+1,[],seen=>seen
 |n+1,b::r,seen=>bif inL b seen then QaU σ n r seen else QaU σ n (Xc7 (hget σ b)++r) (b::seen)
def Zbn(cg:CG)(f:FuncId)(ys:List AVal)(σ:List ABlk)(ids:List Nat):SRes:=bif Yr σ.length (idsL ys) && Yr σ.length ids then (match cg f (renL (ltM σ.length) ys) (maskR ids σ) with
 |some (v,τ)=>bif Nat.ble σ.length τ.length then .ok (v.ren (keepM ids σ.length (τ.length-σ.length))) ids ((ids++List.range' σ.length (τ.length-σ.length)).map λb=>(b,(hget τ b).mapV (AVal.ren (keepM ids σ.length (τ.length-σ.length))))) else .stop
 | none=>.stop) else .stop
def Xcj(cg:CG)(k:MK)(xs:List AVal)(σ:List ABlk):SRes:=match Qq k xs with
 |none=>.stop
 | some (f,ys)=>bif roL ys then (match cg f ys [] with
   |some (v,bs)=>bif v.ro then .ok v [] [] else .ok (v.ren (Zw σ.length)) [] (Xt σ.length (Xp σ.length bs))
   | none=>.stop)
  else match QbP cg f ys σ with
  |some (v,news)=>bif v.ro then .ok (v.ren (keepM (idsL ys) σ.length 0)) (idsL ys) [] else .ok (v.ren (keepM (idsL ys) σ.length news.length)) (idsL ys) (Xt σ.length (news.map (ABlk.mapV (AVal.ren (keepM (idsL ys) σ.length news.length)))))
  |none=>match Xs σ 1000 ys with
   | some (zs,rd)=>(match cg f zs [] with
    |some (v,bs)=>bif v.flat&&v.ro then .ok v rd [] else bif v.nosh&&Xak bs then .ok (v.ren (Zw σ.length)) rd (Xt σ.length (Xp σ.length bs)) else Zbn cg f ys σ (QaU σ 1000 (idsL ys) [])
    | none=>Zbn cg f ys σ (QaU σ 1000 (idsL ys) []))
   |none=>Zbn cg f ys σ (QaU σ 1000 (idsL ys) [])
def Cl(much:Nat)(cg:CG):Ans (Option (AVal×List ABlk)) where
 stop:=none
 call k xs σ K:=match Qq k xs with
  |some (f,ys)=>match cg f ys σ with
   |some (v,σ')=>K v σ'
   |none=>none
  |none=>none
 dcall k xs σ K:=match Xcj cg k xs σ with
  |.ok v rd up=>match upL σ up with
   |some σ'=>K v (rd,up.map (·.1)) σ'
   |none=>none
  |.stop=>none
 test:=tstC none
 loop F vs σ:=iterA none much F vs σ
section
variable {P:Program} {GL:Globs}
def CGOk(P:Program)(GL:Globs)(cg:CG):Prop:=∀f xs σ v σ',cg f xs σ=some (v,σ')→Zh P f=true∧(∀k ys,Qq k ys=some (f,xs)→OpRel P GL k ys σ (λv' s=>v'=v∧s=σ')) ∧
 (σ=[]→NCall P GL f xs v σ'∧(v.ro=true→PCall P GL f xs v)) ∧
 (roL xs=false→∃F,FnOk P GL f F∧F.np=xs.length∧Awp P GL F.n F.body (frame0 xs) σ (λe ρ s=>(e=.normal∨e=.ret)∧∃v',retV F.rets ρ s=some v'∧v'=v∧s=σ'))
theorem CGOk.ncall{cg:CG}(h:CGOk P GL cg){f:FuncId}{xs:List AVal}{v:AVal}{bs:List ABlk}(hc:cg f xs []=some (v,bs)):NCall P GL f xs v bs:=((h f xs [] v bs hc).2.2.1 rfl).1
theorem CGOk.pcall{cg:CG}(h:CGOk P GL cg){f:FuncId}{xs:List AVal}{v:AVal}{bs:List ABlk}(hc:cg f xs []=some (v,bs))(hv:v.ro=true):PCall P GL f xs v:=((h f xs [] v bs hc).2.2.1 rfl).2 hv
theorem ZaO{f:FuncId}{xs:List AVal}{σ σ':List ABlk}{v:AVal}{F:MFn}(hp':Zh P f=true)(h1:FnOk P GL f F)(h2:F.np=xs.length)(h3:Awp P GL F.n F.body (frame0 xs) σ (λe ρ s=>(e=.normal∨e=.ret)∧∃v',retV F.rets ρ s=some v'∧v'=v∧s=σ')) :
  Zh P f=true∧(∀k ys,Qq k ys=some (f,xs)→OpRel P GL k ys σ (λv' s=>v'=v∧s=σ'))∧(σ=[]→NCall P GL f xs v σ'∧(v.ro=true→PCall P GL f xs v)) ∧
  (roL xs=false→∃F,FnOk P GL f F∧F.np=xs.length∧Awp P GL F.n F.body (frame0 xs) σ (λe ρ s=>(e=.normal∨e=.ret)∧∃v',retV F.rets ρ s=some v'∧v'=v∧s=σ')):=by
 refine⟨hp',λk ys hc=>Xa7 hc hp' h1 h2.symm h3,λhσ=>?_,λ_=>⟨F,h1,h2,h3⟩⟩;subst hσ;refine⟨ZaE h1 h2.symm (h3.mono λe ρ s k=>?_),λhv=>QaE h1 h2.symm hv (h3.mono λe ρ s k=>?_)⟩
 ·obtain⟨k1,v',k2,rfl,rfl⟩:=k;exact⟨k1,k2,rfl⟩
 ·obtain⟨k1,v',k2,rfl,rfl⟩:=k;exact⟨k1,k2⟩
mutual
theorem AVal.ro_ren_ltM {n:Nat}:∀ {x:AVal},Yr n x.ids=true→(x.ren (ltM n)).ro=true→x.ro=true
 |.bptr b j,h,k=>by
  grind [AVal.ids,Yr,AVal.ren,ltM]
 |.ptr b i j,h,k=>by
  grind [AVal.ids,Yr,AVal.ren,ltM]
 |.sl b o l e,h,k=>by
  grind [AVal.ids,Yr,AVal.ren,ltM]
 |.map b,h,k=>by
  grind [AVal.ids,Yr,AVal.ren,ltM]
 |.iter b,h,k=>by
  grind [AVal.ids,Yr,AVal.ren,ltM]
 |.func fn xs ys,h,k=>by
  simp only[AVal.ids] at h
  obtain⟨a,b⟩:=QS h
  simp only[AVal.ren,AVal.ro,Bool.and_eq_true] at k ⊢
  exact⟨ZN a k.1,ZN b k.2⟩
 |.iface t v,h,k=>AVal.ro_ren_ltM (x:=v) h k
 |.agg cs,h,k=>ZN (xs:=cs) h k
 |.tup cs,h,k=>ZN (xs:=cs) h k
 |.when cs x,h,k=>AVal.ro_ren_ltM (x:=x) h k
 |.junk,_,_=>rfl
 |.bool _,_,_=>rfl
 |.int _ _,_,_=>rfl
 |.str _,_,_=>rfl
 |.nilp,_,_=>rfl
 |.rptr _ _,_,_=>rfl
 |.nils,_,_=>rfl
 |.cap0,_,_=>rfl
 |.rsl _ _ _ _,_,_=>rfl
 |.rmap _,_,_=>rfl
 |.nilmap,_,_=>rfl
 |.nilf,_,_=>rfl
 |.nili,_,_=>rfl
theorem ZN {n:Nat}:∀ {xs:List AVal},Yr n (idsL xs)=true→roL (renL (ltM n) xs)=true→roL xs=true
 |[],_,_=>rfl
 |x::xs,h,k=>by
  simp only[idsL] at h
  obtain⟨a,b⟩:=QS h
  simp only[renL,roL,Bool.and_eq_true] at k ⊢
  exact⟨AVal.ro_ren_ltM a k.1,ZN b k.2⟩
end
theorem Xau{n:Nat}{xs:List AVal}(h:Yr n (idsL xs)=true)(k:roL xs=false):roL (renL (ltM n) xs)=false:=by
 grind [ZN]
theorem XaO{cg:CG}(h:CGOk P GL cg){k:MK}{f:FuncId}{xs ys:List AVal}{σ:List ABlk}{ids:List Nat}(hc:Qq k xs=some (f,ys))(hnro:roL ys=false){v:AVal}{rd:List Nat}{up:List (Nat×ABlk)}(e:Zbn cg f ys σ ids=.ok v rd up):OpSem P GL k xs (hp σ) v rd up:=by
 unfold Zbn at e
 replace e:=Xf e
 obtain⟨hb,e⟩:=e;simp only[Bool.and_eq_true] at hb;split at e
 ·rename_i v' τ hc2
  replace e:=Xf e
  obtain⟨hle,e⟩:=e;obtain⟨hpl,_,_,hF⟩:=h f _ _ _ _ hc2;obtain⟨F,f1,f2,f3⟩:=hF (Xau hb.1 hnro);cases e;have hn:ys.length=F.np:=by rw[f2,Xv]
  have:=YNL hle;exact QA hc hpl (Xbk f1 hn σ ids ids (λ_ q=>q) (Q6 hb.2) rfl rfl (f3.mono λe ρ s k=>by
   grind) (by omega))
 ·cases e
theorem Qcj{cg:CG}(h:CGOk P GL cg){k:MK}{xs:List AVal}{σ:List ABlk}{v:AVal}{rd:List Nat}{up:List (Nat×ABlk)}(e:Xcj cg k xs σ=.ok v rd up):OpSem P GL k xs (hp σ) v rd up:=by
 unfold Xcj at e;split at e
 ·cases e
 ·rename_i f ys hc;have hnew:∀(bs:List ABlk) (i:Nat),i<bs.length→hp σ (σ.length+i)=none:=λbs i _=>by simp[hp]
  replace e:=YG e
  rcases e with ⟨hro,e⟩|⟨hnro,e⟩
  ·split at e
   ·rename_i v' bs hv
    replace e:=YG e
    rcases e with ⟨hvr,e⟩|⟨_,e⟩
    ·cases e; exact QA hc (h f ys [] _ _ hv).1 ((h.pcall hv hvr).here hro _)
    ·cases e; exact QA hc (h f ys [] _ _ hv).1 ((h.ncall hv).here hro (hnew bs))
   ·cases e
  ·split at e
   ·rename_i v' news hd;unfold QbP at hd;obtain⟨hbel,hd⟩:=Yu hd;split at hd
    ·rename_i v2 σ' hc2;split at hd
     ·rename_i news2 hs2;cases hd;obtain⟨hpl,_,_,hF⟩:=h f _ _ _ _ hc2;obtain⟨F,f1,f2,f3⟩:=hF (Xau hbel hnro);have:=ZaG _ _ _ hs2;subst this;have hw:Awp P GL F.n F.body (frame0 (renL (ltM σ.length) ys)) (XE σ) (λe ρ s=>(e=.normal∨e=.ret)∧retV F.rets ρ s=some v'∧s=XE σ++news):=f3.mono λe ρ s k=>by
       grind
      have hn:ys.length=F.np:=by rw[f2,Xv]
      replace e:=YG e
      rcases e with ⟨_,e⟩|⟨_,e⟩
      ·cases e;exact QA hc hpl (Zaq f1 hn σ (idsL ys) (Q6 hbel) (bs:=[]) (.inr rfl) hw)
      ·cases e;exact QA hc hpl (Zaq f1 hn σ (idsL ys) (Q6 hbel) (bs:=news) (.inl rfl) hw)
     ·cases hd
    ·cases hd
   split at e
   ·rename_i zs rd' hb;split at e
    ·rename_i v' bs hv
     replace e:=YG e
     rcases e with ⟨hvr,e⟩|⟨_,e⟩
     ·simp only[Bool.and_eq_true] at hvr;cases e;exact QA hc (h f zs [] _ _ hv).1 ((h.pcall hv hvr.2).lend (Z3 _ _ _ _ hb _ (λ_ q=>q)) hvr.1)
     ·replace e:=YG e
      rcases e with ⟨hns,e⟩|⟨_,e⟩
      ·simp only[Bool.and_eq_true] at hns;cases e;exact QA hc (h f zs [] _ _ hv).1 ((h.ncall hv).lend (Z3 _ _ _ _ hb _ (λ_ q=>q)) hns.1 hns.2 (hnew bs))
      ·exact XaO h hc hnro e
    ·exact XaO h hc hnro e
   ·exact XaO h hc hnro e
theorem Zc7{cg:CG}(h:CGOk P GL cg)(much:Nat)(r:AVal×List ABlk):AnsOk P GL (Cl much cg) (λo=>o=some r) where
 stop:=λe=>by cases e
 call:=λ{k xs σ K} e=>by
  simp only[Cl] at e;split at e
  ·rename_i f ys hc;split at e
   ·rename_i v σ' hv;obtain⟨_,h1,_⟩:=h f ys σ v σ' hv
    grind
   ·cases e
  ·cases e
 dcall:=λ{k xs σ K} e=>by
  grind [Cl,Qcj]
 test:=λ{v a b} e=>by
  simp only[Cl,tstC] at e
  grind
 loop:=λ{F vs σ} e=>⟨much,e⟩
def cgOf(much:Nat)(G:Nat→Option (Nat×GFun)):Nat→CG
 |0,_,_,_=>none
 |d+1,f,xs,σ=>match G f with
  |some (np,g)=>bif Nat.beq xs.length np then g (Cl much (cgOf much G d)) xs σ (λv σ=>some (v,σ)) else none
  |none=>none
theorem Xcf(hP:P.follows .mixedOrders=true){much:Nat}{G:Nat→Option (Nat×GFun)}(hG:∀f np g,G f=some (np,g)→GOk P GL f np g):∀d,CGOk P GL (cgOf much G d)
 |0=>λf xs σ v σ' h=>by cases h
 |d+1=>λf xs σ v σ' h=>by
  unfold cgOf at h;split at h
  ·rename_i np g hg;obtain⟨hn,h⟩:=Yu h;have hn':=YNB hn;obtain⟨F,h1,h2,h3⟩:=(hG f np g hg).awp hP (Zc7 (Xcf hP hG d) much (v,σ')) hn' h;refine ZaO (hG f np g hg).plain h1 (h2.trans hn'.symm) (h3.mono λe ρ s k=>?_);simp_all
  ·cases h
end
theorem ZaJ{P:Program}{GL:Globs}(hP:P.follows .mixedOrders=true){much:Nat}{G:Nat→Option (Nat×GFun)}(hG:∀f np g,G f=some (np,g)→GOk P GL f np g)(d:Nat){f:FuncId}{xs:List AVal}{y:AVal}(h:((cgOf much G d f xs []).bind λp=>frz p.2 p.1)=some y):PCall P GL f xs y:=by
 cases hc:cgOf much G d f xs [] with
 |none=>rw[hc] at h; cases h
 |some p=>
  obtain⟨v,bs⟩:=p;rw[hc] at h;exact Z1 ((Xcf hP hG d).ncall hc) h
mutual
def eqA:AVal→AVal→Bool
 |.junk,.junk=>true
 |.bool a,.bool b=>a==b
 |.int k a,.int k' b=>ikEq k k'&&a==b
 |.str a,.str b=>a==b
 |.nilp,.nilp=>true
 |.nils,.nils=>true
 |.cap0,.cap0=>true
 |.rsl e n s r,.rsl e' n' s' r'=>(e==e'&&n==n')&&(Nat.beq s s'&&eqR r r')
 |.agg a,.agg b=>eqL a b
 |.nilmap,.nilmap=>true
 |.nilf,.nilf=>true
 |.nili,.nili=>true
 |_,_=>false
def eqL:List AVal→List AVal→Bool
 |[],[]=>true
 |x::xs,y::ys=>eqA x y&&eqL xs ys
 |_,_=>false
def eqR:List (List AVal)→List (List AVal)→Bool
 |[],[]=>true
 |x::xs,y::ys=>eqL x y&&eqR xs ys
 |_,_=>false
end
mutual
theorem Qdb:∀ {x y:AVal},eqA x y=true→x=y:=by
 intro x y h
 cases x<;>cases y<;>simp only[eqA,Bool.false_eq_true,Bool.and_eq_true] at h<;>first
  |rfl
  |(rw[eq_of_beq h])
  |(rw[eq_of_beq h.2,Y8 h.1])
  |(rw[eq_of_beq h.1.1,eq_of_beq h.1.2,YNB h.2.1,ZcS h.2.2])
  |(rw[XbR h])
theorem XbR:∀ {x y:List AVal},eqL x y=true→x=y:=by
 intro x y h
 cases x<;>cases y<;>simp only[eqL,Bool.false_eq_true,Bool.and_eq_true] at h<;>first
  |rfl
  |(rw[Qdb h.1,XbR h.2])
theorem ZcS:∀ {x y:List (List AVal)},eqR x y=true→x=y:=by
 intro x y h
 cases x<;>cases y<;>simp only[eqR,Bool.false_eq_true,Bool.and_eq_true] at h<;>first
  |rfl
  |(rw[XbR h.1,ZcS h.2])
end
abbrev Known:=List (FuncId×List AVal×AVal)
def YbU(f:FuncId)(xs:List AVal):Known→Option AVal
 |[]=>none
 |(g,ys,v)::r=>match Nat.beq f g&&eqL xs ys with
  |true=>some v
  |false=>YbU f xs r
def KnOk(P:Program)(GL:Globs):Known→Prop
 |[]=>True
 |(f,xs,v)::r=>((Zh P f=true∧roL xs=true∧v.ro=true)∧PCall P GL f xs v)∧KnOk P GL r
section
variable {P:Program} {GL:Globs}
theorem Ybq{f:FuncId}{xs:List AVal}{v:AVal}:∀ {kn:Known},KnOk P GL kn→YbU f xs kn=some v→Zh P f=true∧roL xs=true∧v.ro=true∧PCall P GL f xs v
 |[],_,h=>by cases h
 |(g,ys,u)::r,ok,h=>by
  unfold YbU at h;split at h
  ·rename_i hb;simp only[Bool.and_eq_true] at hb;have h1:=YNB hb.1;have h2:=XbR hb.2;subst h1; subst h2;cases h;exact⟨ok.1.1.1,ok.1.1.2.1,ok.1.1.2.2,ok.1.2⟩
  ·exact Ybq ok.2 h
theorem QaZ{f:FuncId}{xs:List AVal}{v:AVal}(h:PCall P GL f xs v):NCall P GL f xs v []:=by
 intro w M vs hM hg hx;refine(h w M vs hM hg hx).mono ?_;rintro e w' ⟨u,he,k,M',hle,hst,hsrc,hd⟩;refine⟨u,he,⟨M',noOwn⟩,hle,?_,hd⟩;exact {
  keeps:=k
  stable:=hst
  src:=λb o e=>by
   simp_all
  globs:=λp hp'=>(hg p hp').mono hle (CLe.refl _)
  empt:=λ_ _=>rfl
  dom:=λb blk e=>by simp[hp] at e
  own:=λb blk cb e=>by simp[hp] at e
  hollow:=λb blk cb e=>by simp[hp] at e
  inj:=λb b' blk blk' cb cb' e=>by simp[hp] at e }
def cgKn(much:Nat)(G:Nat→Option (Nat×GFun))(kn:Known):Nat→CG
 |0,_,_,_=>none
 |d+1,f,xs,σ=>match YbU f xs kn with
  |some v=>some (v,σ)
  |none=>match G f with
   |some (np,g)=>bif Nat.beq xs.length np then g (Cl much (cgKn much G kn d)) xs σ (λv σ=>some (v,σ)) else none
   |none=>none
theorem Ycf(hP:P.follows .mixedOrders=true){much:Nat}{G:Nat→Option (Nat×GFun)}(hG:∀f np g,G f=some (np,g)→GOk P GL f np g){kn:Known}(hk:KnOk P GL kn):∀d,CGOk P GL (cgKn much G kn d)
 |0=>λf xs σ v σ' h=>by cases h
 |d+1=>λf xs σ v σ' h=>by
  unfold cgKn at h;split at h
  ·rename_i v0 hv;cases h;obtain⟨h1,h2,h3,h4⟩:=Ybq hk hv;refine⟨h1,λk ys hc=>XaE (QA hc h1 (h4.here h2 (hp σ))) (Qj σ),λhσ=>?_,λhro=>by rw[h2] at hro; cases hro⟩;subst hσ;exact⟨QaZ h4,λ_=>h4⟩
  split at h
  ·rename_i np g hg;obtain⟨hn,h⟩:=Yu h;have hn':=YNB hn;obtain⟨F,h1,h2,h3⟩:=(hG f np g hg).awp hP (Zc7 (Ycf hP hG hk d) much (v,σ')) hn' h;refine ZaO (hG f np g hg).plain h1 (h2.trans hn'.symm) (h3.mono λe ρ s k=>?_);simp_all
  ·cases h
theorem QcG(hP:P.follows .mixedOrders=true){much:Nat}{G:Nat→Option (Nat×GFun)}(hG:∀f np g,G f=some (np,g)→GOk P GL f np g){kn:Known}(hk:KnOk P GL kn)(d:Nat){f:FuncId}{xs:List AVal}{y:AVal}(h:((cgKn much G kn d f xs []).bind λp=>frz p.2 p.1)=some y):PCall P GL f xs y:=by
 cases hc:cgKn much G kn d f xs [] with
 |none=>rw[hc] at h; cases h
 |some p=>
  obtain⟨v,bs⟩:=p;rw[hc] at h;exact Z1 ((Ycf hP hG hk d).ncall hc) h
end
end Go.Ah
end
section
namespace Go.Ah
@[reducible] def h0(v:List AVal):AVal:=hdV v
@[reducible] def h1(v:List AVal):AVal:=hdV (tlV v)
@[reducible] def h2(v:List AVal):AVal:=hdV (tlV (tlV v))
@[reducible] def h3(v:List AVal):AVal:=hdV (tlV (tlV (tlV v)))
@[reducible] def h4(v:List AVal):AVal:=hdV (tlV (tlV (tlV (tlV v))))
@[reducible] def h5(v:List AVal):AVal:=hdV (tlV (tlV (tlV (tlV (tlV v)))))
@[reducible] def h6(v:List AVal):AVal:=hdV (tlV (tlV (tlV (tlV (tlV (tlV v))))))
@[reducible] def h7(v:List AVal):AVal:=hdV (tlV (tlV (tlV (tlV (tlV (tlV (tlV v)))))))
@[reducible] def h8(v:List AVal):AVal:=h7 (tlV v)
@[reducible] def h9(v:List AVal):AVal:=h8 (tlV v)
@[reducible] def h10(v:List AVal):AVal:=h9 (tlV v)
@[reducible] def h11(v:List AVal):AVal:=h10 (tlV v)
@[reducible] def h12(v:List AVal):AVal:=h11 (tlV v)
def row0:List AVal:=(List.range 256).map λi=>AVal.int .u8 (match (Nat.ble 9 i&&Nat.ble i 13)||Nat.beq i 32 with|true=>1|false=>0)
def GL0:Globs:=[(0,row0)]
end Go.Ah
end
section
namespace Go.Ah
section
variable (σ:List ABlk)
attribute [simp] QaB YaH pu_ok Qc5 Zc9 XbW XcZ hdV tlV
@[simp] theorem W_stop'(P:Program)(GL:Globs):(W P GL).stop=False:=rfl
@[simp] theorem Zdj{α:Type}(f:(List AVal→List ABlk→α)→α)(k:List AVal→List ABlk→α):joinK f k=f k:=rfl
@[simp] theorem gx_bool{α:Type}(A:Ans α)(b w:Bool)(r:α)(s:List (Bool×Bool)→α):A.gx (.bool b) w r s=A.test (.bool b) (bif w then r else s [(true,w)]) (bif w then s [(false,w)] else r):=rfl
@[simp] theorem gr_eq{α:Type}(A:Ans α)(c:AVal)(w:Bool)(r:(AVal→α)→α)(K:AVal→α):A.gr c w r K=A.gx c w (r K) (λcs=>K (udf cs)):=rfl
@[simp] theorem gw_eq{α:Type}(A:Ans α)(c:AVal)(w:Bool)(r:(AVal→List ABlk→α)→α)(σ:List ABlk)(K:AVal→List ABlk→α):A.gw c w r σ K=A.gx c w (r K) (λcs=>K (udf cs) σ):=rfl
@[simp] theorem gl_eq{α:Type}(A:Ans α)(c:AVal)(w:Bool)(r:(AVal→List Nat×List Nat→List ABlk→α)→α)(σ:List ABlk)(K:AVal→List Nat×List Nat→List ABlk→α):A.gl c w r σ K=A.gx c w (r K) (λcs=>K (udf cs) ([],[]) σ):=rfl
@[simp] theorem gx_when{α:Type}(A:Ans α)(cs:List (Bool×Bool))(q w:Bool)(r:α)(s:List (Bool×Bool)→α):A.gx (.when cs (.bool q)) w r s=match Qaj.holdNot cs with
  |true=>s (cs++[(q,w)])
  |false=>A.stop:=rfl
attribute [simp] Qaj.holdNot
@[simp] theorem e_mv(x:AVal):Qab [x] σ=.ok x [] []:=rfl
@[simp] theorem e_pick(b:Bool)(x y:AVal):Zk [.bool b,x,y] σ=.ok (bif b then x else y) [] []:=by cases b<;>rfl
@[simp] theorem Ze(e n:Bool)(s:Nat)(rows:List (List AVal)):Xo [.rsl e n s rows] σ=.ok (.int .i64 rows.length) [] []:=rfl
@[simp] theorem YcY:Xo [.nils] σ=.ok (.int .i64 0) [] []:=rfl
@[simp] theorem ZcY:Xo [.cap0] σ=.ok (.int .i64 0) [] []:=rfl
@[simp] theorem Qc9(b o n:Nat)(e:Bool):Xo [.sl b o n e] σ=.ok (.int .i64 n) [] []:=rfl
@[simp] theorem Qdi(s:List UInt8):XJ [.str s] σ=.ok (.int .i64 s.length) [] []:=rfl
@[simp] theorem e_lenA(n:Nat)(x:AVal):Zaf n [x] σ=.ok (.int .i64 n) [] []:=rfl
@[simp] theorem Qdc(k:IntKind):ikEq k k=true:=by cases k<;>rfl
section
variable (ib:Bool) (k:IntKind) (a b:Int)
@[simp] theorem Yf:Yn .add ib [.int k a,.int k b] σ=.ok (.int k (k.wrap (a+b))) [] []:=by simp[Yn,binI]
@[simp] theorem ZcJ:Yn .sub ib [.int k a,.int k b] σ=.ok (.int k (k.wrap (a-b))) [] []:=by simp[Yn,binI]
@[simp] theorem Yd:Yn .eql ib [.int k a,.int k b] σ=.ok (.bool (decide (a=b))) [] []:=by
 simp[Yn,binI]; exact Bool.eq_iff_iff.2 (by simp)
@[simp] theorem QaG:Yn .neq ib [.int k a,.int k b] σ=.ok (.bool (decide (a≠b))) [] []:=by
 simp[Yn,binI]; exact Bool.eq_iff_iff.2 (by simp)
@[simp] theorem XI:Yn .lss ib [.int k a,.int k b] σ=.ok (.bool (decide (a<b))) [] []:=by simp[Yn,binI]
@[simp] theorem Zcl:Yn .leq ib [.int k a,.int k b] σ=.ok (.bool (decide (a≤b))) [] []:=by simp[Yn,binI]
@[simp] theorem Xab:Yn .gtr ib [.int k a,.int k b] σ=.ok (.bool (decide (b<a))) [] []:=by simp[Yn,binI]
@[simp] theorem XaG:Yn .geq ib [.int k a,.int k b] σ=.ok (.bool (decide (b≤a))) [] []:=by simp[Yn,binI]
end
@[simp] theorem Xd(ib:Bool)(a b:List UInt8):Yn .eql ib [.str a,.str b] σ=.ok (.bool (a==b)) [] []:=rfl
@[simp] theorem e_neqS(ib:Bool)(a b:List UInt8):Yn .neq ib [.str a,.str b] σ=.ok (.bool (!(a==b))) [] []:=rfl
@[simp] theorem e_eqlB(a b:Bool):Yn .eql true [.bool a,.bool b] σ=.ok (.bool (a==b)) [] []:=rfl
@[simp] theorem Xda(a b:Bool):Yn .neq true [.bool a,.bool b] σ=.ok (.bool (!(a==b))) [] []:=rfl
@[simp] theorem e_not(b:Bool):Ybu .not [.bool b] σ=.ok (.bool (!b)) [] []:=rfl
@[simp] theorem e_neg(k:IntKind)(n:Int):Ybu .neg [.int k n] σ=.ok (.int k (k.wrap (0-n))) [] []:=rfl
@[simp] theorem XcR(k k':IntKind)(n:Int):Qae k [.int k' n] σ=.ok (.int k (k.wrap n)) [] []:=rfl
@[simp] theorem Yda(t:TypeId)(x:AVal):Qx t [x] σ=.ok (.iface t x) [] []:=rfl
@[simp] theorem Y4(k k':IntKind)(a b:Int):Yab [.int k a,.int k' b] σ=.ok (.int k (min a b)) [] []:=by
 simp only[Yab]; congr 2; omega
@[simp] theorem Zda(k k':IntKind)(a b:Int):Zab [.int k a,.int k' b] σ=.ok (.int k (max a b)) [] []:=by
 simp only[Zab]; congr 2; omega
@[simp] theorem e_nil_b(b j:Nat):Zi [.bptr b j] σ=.ok (.bptr b j) [] []:=rfl
@[simp] theorem e_nil_p(b i j:Nat):Zi [.ptr b i j] σ=.ok (.ptr b i j) [] []:=rfl
@[simp] theorem e_nil_r(row:List AVal)(j:Nat):Zi [.rptr row j] σ=.ok (.rptr row j) [] []:=rfl
@[simp] theorem e_nil_f(f:FuncId)(a b:List AVal):Zi [.func (.func f) a b] σ=.ok (.func (.func f) a b) [] []:=rfl
@[simp] theorem e_fa_b(o b j:Nat):Ye o [.bptr b j] σ=.ok (.bptr b (j+o)) [] []:=rfl
@[simp] theorem e_fa_p(o b i j:Nat):Ye o [.ptr b i j] σ=.ok (.ptr b i (j+o)) [] []:=rfl
@[simp] theorem e_fa_r(o:Nat)(row:List AVal)(j:Nat):Ye o [.rptr row j] σ=.ok (.rptr row (j+o)) [] []:=rfl
@[simp] theorem e_field(agg:Bool)(o n:Nat)(cs:List AVal):XW agg o n [.agg cs] σ=(match partA agg o n cs with
   |some v=>.ok v [] []
   | none=>.stop):=rfl
attribute [simp] partA takeN dropN nth
@[simp] theorem Yc9(i:Nat)(vs:List AVal):Xx i [.tup vs] σ=(match nth vs i with
   |some v=>.ok v [] []
   | none=>.stop):=rfl
@[simp] theorem Ydi(len esz b j:Nat)(k:IntKind)(i:Nat):Zr len esz [.bptr b j,.int k (@OfNat.ofNat Int i _)] σ=bif Nat.blt i len then .ok (.bptr b (j+i*esz)) [] [] else .stop:=rfl
@[simp] theorem Xdi(len esz:Nat)(row:List AVal)(j:Nat)(k:IntKind)(i:Nat):Zr len esz [.rptr row j,.int k (@OfNat.ofNat Int i _)] σ=bif Nat.blt i len then .ok (.rptr row (j+i*esz)) [] [] else .stop:=rfl
theorem Xc9(e n:Bool)(s:Nat)(rows:List (List AVal))(k:IntKind)(i:Nat)(row:List AVal)(h:rows[i]?=some row):Zj s [.rsl e n s rows,.int k (i:Int)] σ=.ok (.rptr row 0) [] []:=by
 show (bif Nat.beq s s then (match nth rows i with
   |some row=>SRes.ok (.rptr row 0) [] []
   | none=>.stop) else .stop)=_
 rw[Nat.beq_refl,X5,h]; rfl
theorem Yk{α:Type}(f:α→List AVal)(e n:Bool)(s:Nat)(l:List α)(k:IntKind)(i:Nat)(h:i<l.length):Zj s [.rsl e n s (l.map f),.int k (i:Int)] σ=.ok (.rptr (f l[i]) 0) [] []:=
 Xc9 σ e n s _ k i _ (by simp[h])
theorem YbC(b o len:Nat)(ex:Bool)(s:Nat)(rows:List (List AVal))(k:IntKind)(i:Nat)(h:i<len)(hb:hget σ b=.rows s rows):Zj s [.sl b o len ex,.int k (i:Int)] σ=.ok (.ptr b (o+i) 0) [b] []:=by
 show (bif Nat.blt i len then (match hget σ b with
   |.rows s' _=>bif Nat.beq s' s then SRes.ok (.ptr b (o+i) 0) [b] [] else .stop
   | _=>.stop) else .stop)=_
 rw[show Nat.blt i len=true from Nat.ble_eq_true_of_le h,hb];simp
theorem Xck(s:List UInt8)(k:IntKind)(i:Nat)(h:i<s.length):ZG [.str s,.int k (i:Int)] σ=.ok (.int .u8 s[i].toNat) [] []:=by
 show (match nth s i with
   |some c=>SRes.ok (.int .u8 c.toNat) [] []
   | none=>.stop)=_
 rw[X5,List.getElem?_eq_getElem h]
@[simp] theorem QaJ(agg:Bool)(n:Nat)(row:List AVal)(j:Nat):Qk agg n [.rptr row j] σ=(match partA agg j n row with
   |some v=>.ok v [] []
   | none=>.stop):=rfl
@[simp] theorem QcI(agg:Bool)(n b j:Nat):Qk agg n [.bptr b j] σ=(match hget σ b with
   |.box row=>match partA agg j n row with
    |some v=>.ok v [b] []
    |none=>.stop
   | _=>.stop):=rfl
attribute [simp] hget upL QK splice cellsOf AVal.cell
@[simp] theorem YcX(z:List AVal):XN z [] σ=.ok (.bptr σ.length 0) [] [(σ.length,.box z)]:=rfl
@[simp] theorem e_box(x:AVal):YaA [x] σ=(match cellsOf x with
   |some cs=>.ok (.bptr σ.length 0) [] [(σ.length,.box cs)]
   | none=>.stop):=rfl
@[simp] theorem Ycl(n b j:Nat)(x:AVal):ZH n [.bptr b j,x] σ=(match hget σ b with
   |.box row=>match cellsOf x with
    | some cs=>bif Nat.beq cs.length n then (match splice j cs row with
     |some row'=>.ok .junk [] [(b,.box row')]
     | none=>.stop) else .stop
    |none=>.stop
   | _=>.stop):=rfl
end
end Go.Ah
end
section
namespace Go.Ah
structure RenOk (σ σ2:List ABlk) (m:Nat→Option Nat):Prop where
 inj:∀b b' k,m b=some k→m b'=some k→b=b'
 img:∀b k,m b=some k→∃blk,σ[b]?=some blk∧σ2[k]?=some (blk.mapV (AVal.ren m))
 cov:∀k,k<σ2.length→∃b,m b=some k
theorem Rep.renum{GL:Globs}{w0:World}{L:Ln}{g:Gm}{w:World}{σ σ2:List ABlk}{m:Nat→Option Nat}(r:Rep GL w0 L g (hp σ) w)(ok:RenOk σ σ2 m) :
  ∃c2,(∀x v,g.den x v→Den g.M c2 (x.ren m) v)∧Rep GL w0 L ⟨g.M,c2⟩ (hp σ2) w:=by
 classical
 let c2:Own:=λk=>if h:∃b,m b=some k then g.c (Classical.choose h) else none
 have hc2:∀b k,m b=some k→c2 k=g.c b:=by
  intro b k e;have h:∃b,m b=some k:=⟨b,e⟩;show (if h:∃b,m b=some k then g.c (Classical.choose h) else none)=_;rw[dif_pos h,ok.inj _ _ _ (Classical.choose_spec h) e]
 have hden:∀x v,g.den x v→Den g.M c2 (x.ren m) v:=λx v d=>Den.ren d λb b' cb e1 e2=>by rw[hc2 b b' e1]; exact e2
 have back:∀k blk,hp σ2 k=some blk→∃b blk0,m b=some k∧hp σ b=some blk0∧blk=blk0.mapV (AVal.ren m):=by
  intro k blk e;have hk:k<σ2.length:=(YLG e).1;obtain⟨b,hb⟩:=ok.cov k hk;obtain⟨blk0,e1,e2⟩:=ok.img b k hb;refine⟨b,blk0,hb,e1,?_⟩;have e':σ2[k]?=some blk:=e;simp_all
 refine⟨c2,hden,?_⟩;exact {
  keeps:=r.keeps
  stable:=r.stable
  src:=r.src
  globs:=r.globs
  empt:=λk e=>by
   show (if h:∃b,m b=some k then g.c (Classical.choose h) else none)=none;rw[dif_neg];rintro⟨b,hb⟩;obtain⟨blk0,e1,e2⟩:=ok.img b k hb;have e':σ2[k]?=none:=e;rw[e2] at e'; cases e'
  dom:=λk blk e=>by
   obtain⟨b,blk0,h1,h2,_⟩:=back k blk e;obtain⟨cb,hcb⟩:=r.dom b blk0 h2
   grind
  own:=λk blk cb e hl ec hv=>by
   obtain⟨b,blk0,h1,h2,rfl⟩:=back k blk e;rw[ABlk.mapV_live] at hl;have ec':g.c b=some cb:=by rw[←hc2 b k h1]; exact ec
   obtain⟨q1,q2,o,q3,q4⟩:=r.own b blk0 cb h2 hl ec' hv;exact⟨q1,q2,o,q3,q4.mapV (p:=λ_=>True) (λx v _ d=>hden x v d) (ABlk.all_true _)⟩
  hollow:=λk blk cb e hl ec hv=>by
   obtain⟨b,blk0,h1,h2,rfl⟩:=back k blk e;rw[ABlk.mapV_live] at hl;have ec':g.c b=some cb:=by rw[←hc2 b k h1]; exact ec
   have:=r.hollow b blk0 cb h2 hl ec' hv;subst this;rfl
  inj:=λk k' x x' cb1 cb2 e1 e2 l1 l2 c1 c2' v1 v2 hblk=>by
   obtain⟨b,y,h1,h2,rfl⟩:=back k x e1;obtain⟨b',y',h1',h2',rfl⟩:=back k' x' e2;rw[ABlk.mapV_live] at l1 l2;have ec1:g.c b=some cb1:=by rw[←hc2 b k h1]; exact c1
   have ec2:g.c b'=some cb2:=by rw[←hc2 b' k' h1']; exact c2'
   have:=r.inj b b' y y' cb1 cb2 h2 h2' l1 l2 ec1 ec2 v1 v2 hblk;simp_all }
def Tidy(σ:List ABlk)(v:AVal)(σ2:List ABlk)(v2:AVal):Prop:=
 ∀(GL:Globs) (w0:World) (L:Ln) (g:Gm) (w:World),Rep GL w0 L g (hp σ) w→∀u,g.den v u→∃c2,Rep GL w0 L ⟨g.M,c2⟩ (hp σ2) w∧Den g.M c2 v2 u
theorem Tidy.refl(σ:List ABlk)(v:AVal):Tidy σ v σ v:=λ_ _ _ g _ r _ d=>⟨g.c,r,d⟩
theorem Tidy.trans{σ σ2 σ3:List ABlk}{v v2 v3:AVal}(h:Tidy σ v σ2 v2)(k:Tidy σ2 v2 σ3 v3):Tidy σ v σ3 v3:=by
 intro GL w0 L g w r u d;obtain⟨c2,r2,d2⟩:=h GL w0 L g w r u d;obtain⟨c3,r3,d3⟩:=k GL w0 L ⟨g.M,c2⟩ w r2 u d2;exact⟨c3,r3,d3⟩
theorem Tidy.ren{σ σ2:List ABlk}{m:Nat→Option Nat}(ok:RenOk σ σ2 m)(v:AVal):Tidy σ v σ2 (v.ren m):=by
 intro GL w0 L g w r u d;obtain⟨c2,h1,h2⟩:=r.renum ok;exact⟨c2,h2,h1 v u d⟩
theorem Tidy.weak{σ:List ABlk}{v v2:AVal}(h:∀(M:Nat→Option Obj) (c:Own) (u:Value),Den M c v u→Den M c v2 u):Tidy σ v σ v2:=λ_ _ _ g _ r u d=>⟨g.c,r,h _ _ _ d⟩
theorem QcZ(σ:List ABlk)(b:ABlk):hup (hp σ) σ.length b=hp (σ++[b]):=by
 funext n
 simp only[hup,hp]
 grind
theorem Tidy.ghost{σ:List ABlk}{v:AVal}(sz:Nat)(h:v=.nils∨v=.cap0):Tidy σ v (σ++[.rows sz []]) (.sl σ.length 0 0 false):=by
 intro GL w0 L g w r u d;have r2:=r.ghost (Yak σ) sz;rw[QcZ] at r2;have hs:∃a,u=.slice a 0 0:=by
  rcases h with rfl|rfl
  ·cases d; exact⟨_,rfl⟩
  ·cases d; exact⟨_,rfl⟩
 obtain⟨a,rfl⟩:=hs;exact⟨_,r2,.slv _ _ _ _ _ (Qr _ _ _) rfl⟩
theorem Tidy.one{σ:List ABlk}{b:Nat}{blk:ABlk}(hb:σ[b]?=some blk)(m:Nat→Option Nat)(hm:∀n,m n=if n=b then some 0 else none)(v:AVal):Tidy σ v [blk.mapV (AVal.ren m)] (v.ren m):=by
 have key:∀x k,m x=some k→x=b∧k=0:=by
  intro x k e;rw[hm] at e;split at e
  ·cases e; exact⟨by assumption,rfl⟩
  ·cases e
 refine Tidy.ren ⟨λx y k e1 e2=>?_,λx k e=>?_,λk hk=>⟨b,?_⟩⟩ v
 ·rw[(key x k e1).1,(key y k e2).1]
 ·obtain⟨rfl,rfl⟩:=key x k e;exact⟨blk,hb,by simp⟩
 ·simp at hk; subst hk; rw[hm]; simp
section
variable {P:Program} {GL:Globs}
theorem Zbh{f:FuncId}{F:MFn}(ok:FnOk P GL f F){xs:List AVal}(hn:xs.length=F.np){v:AVal}{bs:List ABlk}
 (h:Awp P GL F.n F.body (frame0 xs) [] (λe ρ σ=>(e=.normal∨e=.ret)∧∃v',retV F.rets ρ σ=some v'∧Tidy σ v' bs v)):NCall P GL f xs v bs:=by
 intro w M vs hM hg hx;have r0:=Rep.start (GL:=GL) w M hM hg;have hh:hp []=noHp:=by funext b; simp[hp,noHp]
 rw[←hh] at r0;refine(Yae ok hn h w ⟨[],M⟩ ⟨M,noOwn⟩ w vs r0 hx).mono ?_;rintro e w' ⟨u,he,g',x,σ',hR,hle,r,d⟩;obtain⟨c2,r2,d2⟩:=hR GL w ⟨[],M⟩ g' w' r u d;exact⟨u,he,⟨g'.M,c2⟩,hle.m,r2,d2⟩
theorem Yv(hP:P.follows .mixedOrders=true){f:FuncId}{np:Nat}{g:GFun}(hg:GOk P GL f np g){xs:List AVal}(hn:xs.length=np){v:AVal}{bs:List ABlk}(h:g (W P GL) xs [] (λv' σ=>Tidy σ v' bs v)):NCall P GL f xs v bs:=by
 obtain⟨F,h1,h2,h3⟩:=hg.awp hP (Yc7 P GL) hn h;exact Zbh h1 (hn.trans h2.symm) h3
theorem YX:∀(bs σ:List ABlk),upL σ (Xt σ.length bs)=some (σ++bs)
 |[],σ=>by simp[Xt,upL]
 |b::bs,σ=>by
  have:=YX bs (σ++[b]);simp_all [Xt]
def QV(n:Nat):List ABlk→List Nat
 |[]=>[]
 |_::bs=>n::QV (n+1) bs
theorem Zap:∀(bs:List ABlk) (n:Nat),(Xt n bs).map (·.1)=QV n bs
 |[],_=>rfl
 |b::bs,n=>by simp[Xt,QV,Zap bs (n+1)]
theorem Xap{k:MK}{xs ys:List AVal}{f:FuncId}{v:AVal}{bs:List ABlk}(h:NCall P GL f ys v bs)(hc:Qq k xs=some (f,ys))(hp':Zh P f=true)(hro:roL ys=true){σ:List ABlk}{K:AVal→List ABlk→Prop}(hK:K (v.ren (Zw σ.length)) (σ++Xp σ.length bs)):(W P GL).call k xs σ K:=
 Qag hc hp' (h.here hro (λi _=>by simp[hp])) (YX _ σ) hK
theorem Qap{k:MK}{xs ys:List AVal}{f:FuncId}{v:AVal}{bs:List ABlk}(h:NCall P GL f ys v bs)(hc:Qq k xs=some (f,ys))(hp':Zh P f=true)(hro:roL ys=true){σ:List ABlk}{K:AVal→List Nat×List Nat→List ABlk→Prop}(hK:K (v.ren (Zw σ.length)) ([],QV σ.length (Xp σ.length bs)) (σ++Xp σ.length bs)):(W P GL).dcall k xs σ K:=
 XaN hc hp' (h.here hro (λi _=>by simp[hp])) (YX _ σ) (by rw[Zap]; exact hK)
end
attribute [simp] AVal.ren renL Zw Xp ABlk.mapV QV AVal.ro roL AVal.flat flatL
end Go.Ah
end
section
namespace Go.Ah
theorem QE(σ:List ABlk)(x:ABlk):upL σ [(σ.length,x)]=some (σ++[x]):=by simp[upL]
theorem XG{σ:List ABlk}{b:Nat}{x:ABlk}(h:hget σ b=x)(hx:x≠.dead):σ[b]?=some x:=Yad h hx
theorem Qi(σ:List ABlk)(x:ABlk):hget (σ++[x]) σ.length=x:=XO (by simp)
theorem Xj{σ:List ABlk}{b:Nat}{y:ABlk}(x:List ABlk)(h:hget σ b=y)(hy:y≠.dead):hget (σ++x) b=y:=by
 have:=XG h hy
 grind [XO]
theorem Qn{σ:List ABlk}{b:Nat}{y:ABlk}(h:hget σ b=y)(hy:y≠.dead):b<σ.length:=(YLG (XG h hy)).1
theorem Xav{α:Type}{b:Nat}{x:α}:∀ {σ:List α},b<σ.length→QK b x σ=some (σ.set b x):=by
 intro σ h
 induction σ generalizing b with
 |nil=>simp at h
 |cons y σ ih=>cases b<;>simp_all
theorem Zbk{σ:List ABlk}{b:Nat}(x y:ABlk)(h:b<σ.length):upL σ ([(b,x)]++[(σ.length,y)])=some (σ.set b x++[y]):=by
 have hb:Nat.beq b σ.length=false:=by
  grind [YNB]
 simp[upL,hb,Xav h]
theorem Zz{σ:List ABlk}{b:Nat}(x:ABlk)(h:b<σ.length):upL σ [(b,x)]=some (σ.set b x):=by
 grind [upL,YNB,Xav]
theorem Yp{σ:List ABlk}{b c:Nat}{x y:ABlk}(h:hget σ b=y)(hy:y≠.dead)(hc:c≠b):hget (σ.set c x) b=y:=by
 simp_all [XG,XO]
section
variable {α:Type} (A:Ans α)
theorem Y3(n:Nat)(σ:List ABlk)(x:AVal)(z:List AVal)(cs:List AVal)(hx:fill z [(0,n)] [x]=some cs)(hc:chunk n 1 cs=some [cs])(K:AVal→List ABlk→α) :
  A.wr (ZB n 1 z [(0,n)] [x] σ) σ K=K (.sl σ.length 0 1 true) (σ++[.rows n [cs]]):=by
 simp_all [ZB]
theorem YaF{row:List AVal}(h:row.all AVal.cell=true):rowsCell [row]=true:=by simp[rowsCell,h]
theorem Qci(row:List AVal):cut 0 (0+1) [row]=[row]:=rfl
theorem Yba(n by_:Nat)(σ:List ABlk)(row:List AVal)(hr:row.all AVal.cell=true)(hroom:194*by_≤2 ^ 48)(K:AVal→List ABlk→α) :
  A.wr (Yl n by_ [.nils,.sl σ.length 0 1 true] (σ++[.rows n [row]])) (σ++[.rows n [row]]) K=K (.sl (σ.length+1) 0 1 false) (σ++[.rows n [row]]++[.rows n [row]]):=by
 have h1:Zq n (σ++[.rows n [row]]) (.sl σ.length 0 1 true)=some ([row],[σ.length]):=by
  simp[Zq,Qi,Qci];rfl
 have e:Yl n by_ [.nils,.sl σ.length 0 1 true] (σ++[.rows n [row]])=.ok (.sl (σ.length+1) 0 1 false) [σ.length] [(σ.length+1,.rows n [row])]:=by
  show QL n by_ (σ++[.rows n [row]]) [] [] (.sl σ.length 0 1 true)=_;simp_all [QL,YaF,Nat.ble_eq_true_of_le]
 simp_all
theorem Xba(n by_:Nat)(σ:List ABlk)(b len:Nat)(ex:Bool)(rs:List (List AVal))(row:List AVal)(hb:hget σ b=.rows n rs)(hl:rs.length=len)(hr:row.all AVal.cell=true)(hroom:(2*(len+1)+192)*by_≤2 ^ 48)(K:AVal→List ABlk→α) :
  A.wr (Yl n by_ [.sl b 0 len ex,.sl σ.length 0 1 true] (σ++[.rows n [row]])) (σ++[.rows n [row]]) K=K (.sl (σ.length+1) 0 (len+1) false) (σ.set b .dead++[.rows n [row]]++[.rows n (rs++[row])]):=by
 have hlt:=Qn hb (by simp);have h1:Zq n (σ++[.rows n [row]]) (.sl σ.length 0 1 true)=some ([row],[σ.length]):=by
  simp[Zq,Qi,Qci];rfl
 have h2:Nat.ble ((2*(len+1)+192)*by_) (2 ^ 48)=true:=Nat.ble_eq_true_of_le hroom;have hb2:=Xj [.rows n [row]] hb (by simp);have e:Yl n by_ [.sl b 0 len ex,.sl σ.length 0 1 true] (σ++[.rows n [row]])=.ok (.sl (σ.length+1) 0 (len+1) false) [σ.length] ([(b,.dead)]++[(σ.length+1,.rows n (rs++[row]))]):=by
  have:Yl n by_ [.sl b 0 len ex,.sl σ.length 0 1 true] (σ++[.rows n [row]])=QL n by_ (σ++[.rows n [row]]) rs [(b,.dead)] (.sl σ.length 0 1 true):=by
   simp[Yl,XaY,hb2,hl]
  rw[this];unfold QL;simp only[h1,YaF hr,List.length_singleton,h2,Bool.and_self,cond_true,hl,List.length_append]
 grind [Qc5,Zbk,List.length_append,List.length_singleton,XbW]
end
end Go.Ah
end
section
namespace Go.Ah
section
variable {P:Program} {GL:Globs}
theorem Za{r:SRes}{K:AVal→Prop}{v:AVal}{rd:List Nat}(h:r=.ok v rd [])(hK:K v):(W P GL).rd r K:=by rw[h]; exact hK
theorem Yg{r:SRes}{K:AVal→Prop}{v:AVal}(h:r=.ok v [] [])(hK:K v):(W P GL).pu r K:=by rw[h]; exact hK
theorem Zd{r:SRes}{σ σ':List ABlk}{K:AVal→List ABlk→Prop}{v:AVal}{rd:List Nat}{up:List (Nat×ABlk)}(h:r=.ok v rd up)(hu:upL σ up=some σ')(hK:K v σ'):(W P GL).wr r σ K:=by rw[h,Qc5,hu]; exact hK
theorem Qe{r:SRes}{σ σ':List ABlk}{K:AVal→List Nat×List Nat→List ABlk→Prop}{v:AVal}{rd:List Nat}{up:List (Nat×ABlk)}(h:r=.ok v rd up)(hu:upL σ up=some σ')(hK:K v (rd,up.map (·.1)) σ'):(W P GL).dr r σ K:=by rw[h,Zc9,hu]; exact hK
theorem Zb{c:Bool}{a b:Prop}(ht:c=true→a)(hf:c=false→b):(W P GL).test (.bool c) a b:=⟨ht,hf⟩
theorem Xc{a b:Prop}(h:a):(W P GL).test (.bool true) a b:=⟨λ_=>h,(λe=>by cases e)⟩
theorem Xe{a b:Prop}(h:b):(W P GL).test (.bool false) a b:=⟨(λe=>by cases e),λ_=>h⟩
theorem XX{b:Bool}{k:Prop}(h:b=true)(hK:k):(W P GL).gd b k:=by rw[h]; exact hK
theorem Zt{β:Type}{o:Option β}{K:β→Prop}{v:β}(h:o=some v)(hK:K v):(W P GL).opt o K:=by rw[h]; exact hK
theorem Ya{w:Bool}{r:(AVal→Prop)→Prop}{K:AVal→Prop}(h:r K):(W P GL).gr (.bool w) w r K:=by
 cases w
 ·exact⟨(λe=>by cases e),λ_=>h⟩
 ·exact⟨λ_=>h,(λe=>by cases e)⟩
theorem Xa{w:Bool}{r:(AVal→List ABlk→Prop)→Prop}{σ:List ABlk}{K:AVal→List ABlk→Prop}(h:r K):(W P GL).gw (.bool w) w r σ K:=by
 cases w
 ·exact⟨(λe=>by cases e),λ_=>h⟩
 ·exact⟨λ_=>h,(λe=>by cases e)⟩
theorem Qa{c w:Bool}{r:(AVal→Prop)→Prop}{K:AVal→Prop}(hc:c = !w)(h:K (udf [(c,w)])):(W P GL).gr (.bool c) w r K:=by
 subst hc;cases w
 ·exact⟨λ_=>h,(λe=>by cases e)⟩
 ·exact⟨(λe=>by cases e),λ_=>h⟩
theorem Yb{c w:Bool}{r:(AVal→List ABlk→Prop)→Prop}{σ:List ABlk}{K:AVal→List ABlk→Prop}(hc:c = !w)(h:K (udf [(c,w)]) σ):(W P GL).gw (.bool c) w r σ K:=by
 subst hc;cases w
 ·exact⟨λ_=>h,(λe=>by cases e)⟩
 ·exact⟨(λe=>by cases e),λ_=>h⟩
theorem Qb{cs:List (Bool×Bool)}{q w:Bool}{r:(AVal→Prop)→Prop}{K:AVal→Prop}(hc:Qaj.holdNot cs=true)(h:K (udf (cs++[(q,w)]))):(W P GL).gr (.when cs (.bool q)) w r K:=by
 show (match Qaj.holdNot cs with
  |true=>K (udf (cs++[(q,w)]))
  | false=>(W P GL).stop)
 rw[hc]; exact h
theorem Zc{cs:List (Bool×Bool)}{q w:Bool}{r:(AVal→List ABlk→Prop)→Prop}{σ:List ABlk}{K:AVal→List ABlk→Prop}(hc:Qaj.holdNot cs=true)(h:K (udf (cs++[(q,w)])) σ):(W P GL).gw (.when cs (.bool q)) w r σ K:=by
 show (match Qaj.holdNot cs with
  |true=>K (udf (cs++[(q,w)])) σ
  | false=>(W P GL).stop)
 rw[hc]; exact h
theorem Zl(n:Nat){F:(List AVal→List ABlk→Prop)→List AVal→List ABlk→Prop}{vs:List AVal}{σ:List ABlk}(h:iterA False n F vs σ):(W P GL).loop F vs σ:=⟨n,h⟩
theorem Zf{n:Nat}{F:(List AVal→List ABlk→Prop)→List AVal→List ABlk→Prop}{vs:List AVal}{σ:List ABlk}(h:F (iterA False n F) vs σ):iterA False (n+1) F vs σ:=h
end
def pos:List Nat→Nat→Option Nat
 |[],_=>none
 |x::l,n=>match Nat.beq x n with
  |true=>some 0
  |false=>match pos l n with
   |some k=>some (k+1)
   |none=>none
theorem QaM:∀ {l:List Nat} {n k:Nat},pos l n=some k→l[k]?=some n
 |[],_,_,h=>by cases h
 |x::l,n,k,h=>by
  unfold pos at h;split at h
  ·rename_i hb; cases h; simp[YNB hb]
  ·split at h
   ·rename_i k' hk; cases h; simpa using QaM hk
   ·cases h
theorem Zct:∀ {l:List Nat} {k:Nat},l.Nodup→(h:k<l.length)→pos l l[k]=some k
 |[],_,_,h=>by simp at h
 |x::l,0,_,_=>by simp[pos]
 |x::l,k+1,hn,h=>by
  have hn':=List.nodup_cons.1 hn;have hne:Nat.beq x (l[k]'(by simpa using h))=false:=by
   cases e:Nat.beq x (l[k]'(by simpa using h)) with
   |false=>rfl
   |true=>exact(hn'.1 (by rw[YNB e]; exact List.getElem_mem _)).elim
  simp only[List.getElem_cons_succ,pos,hne,Zct hn'.2 (by simpa using h)]
def gcH(ids:List Nat)(σ:List ABlk):List ABlk:=ids.map λb=>(hget σ b).mapV (AVal.ren (pos ids))
theorem Tidy.gc(ids:List Nat){σ:List ABlk}{v:AVal}(hn:ids.Nodup)(hin:∀b∈ids,b<σ.length){σ2:List ABlk}{v2:AVal}(h1:gcH ids σ=σ2)(h2:v.ren (pos ids)=v2):Tidy σ v σ2 v2:=by
 subst h1; subst h2;refine Tidy.ren ⟨λx y k e1 e2=>?_,λx k e=>?_,λk hk=>?_⟩ v
 ·have q1:=QaM e1;have q2:=QaM e2;rw[q1] at q2; exact Option.some.inj q2
 ·have q:=QaM e;have hx:x∈ids:=List.mem_of_getElem? q;exact⟨_,XaR (hin x hx),by simp[gcH,q]⟩
 ·simp only[gcH,List.length_map] at hk;exact⟨_,Zct hn hk⟩
end Go.Ah
end
section
namespace Go.Ah
section
variable {P:Program} {GL:Globs}
theorem Zdf{c d:Bool}{K:AVal→Prop}{r1:SRes}{σ:List ABlk}{q1:List Nat}(h1:c=true→r1=.ok (.bool d) q1 [])(hK:K (.bool (c&&d))) :
  (W P GL).gr (.bool c) true (λk=>(W P GL).rd r1 k) λt1=>(W P GL).rd (Zk [.bool c,t1,.bool false] σ) K:=by
 cases c with
 |true=>exact Ya (Za (h1 rfl) (Za rfl hK))
 |false=>exact Qa rfl (Za rfl hK)
theorem Qcy{c d:Bool}{K:AVal→Prop}{r1:SRes}{r2:AVal→SRes}{σ:List ABlk}{v1:AVal}{q1 q2:List Nat}(h1:c=true→r1=.ok v1 q1 [])(h2:c=true→r2 v1=.ok (.bool d) q2 [])(hK:K (.bool (c&&d))) :
  (W P GL).gr (.bool c) true (λk=>(W P GL).rd r1 k) λt1=>(W P GL).gr (.bool c) true (λk=>(W P GL).rd (r2 t1) k) λt2=>(W P GL).rd (Zk [.bool c,t2,.bool false] σ) K:=by
 cases c with
 |true=>exact Ya (Za (h1 rfl) (Ya (Za (h2 rfl) (Za rfl hK))))
 |false=>exact Qa rfl (Qa rfl (Za rfl hK))
theorem Ybx{c d:Bool}{K:AVal→Prop}{r1:SRes}{r2:AVal→SRes}{r3:AVal→AVal→SRes}{r4:AVal→AVal→AVal→SRes}{r5:AVal→AVal→AVal→AVal→SRes}{σ:List ABlk}{v1 v2 v3 v4:AVal}{q1 q2 q3 q4 q5:List Nat}(h1:c=true→r1=.ok v1 q1 [])(h2:c=true→r2 v1=.ok v2 q2 [])(h3:c=true→r3 v1 v2=.ok v3 q3 [])(h4:c=true→r4 v1 v2 v3=.ok v4 q4 [])(h5:c=true→r5 v1 v2 v3 v4=.ok (.bool d) q5 [])(hK:K (.bool (c&&d))) :
  (W P GL).gr (.bool c) true (λk=>(W P GL).rd r1 k) λt1=>(W P GL).gr (.bool c) true (λk=>(W P GL).rd (r2 t1) k) λt2=>(W P GL).gr (.bool c) true (λk=>(W P GL).rd (r3 t1 t2) k) λt3=>(W P GL).gr (.bool c) true (λk=>(W P GL).rd (r4 t1 t2 t3) k) λt4=>(W P GL).gr (.bool c) true (λk=>(W P GL).rd (r5 t1 t2 t3 t4) k) λt5=>(W P GL).rd (Zk [.bool c,t5,.bool false] σ) K:=by
 cases c with
 |true=>exact Ya (Za (h1 rfl) (Ya (Za (h2 rfl) (Ya (Za (h3 rfl) (Ya (Za (h4 rfl) (Ya (Za (h5 rfl) (Za rfl hK))))))))))
 |false=>exact Qa rfl (Qa rfl (Qa rfl (Qa rfl (Qa rfl (Za rfl hK)))))
theorem Ydf{c d:Bool}{K:AVal→Prop}{r1:SRes}{r2:AVal→SRes}{σ:List ABlk}{v1:AVal}{q1 q2:List Nat}(h1:c=false→r1=.ok v1 q1 [])(h2:c=false→r2 v1=.ok (.bool d) q2 [])(hK:K (.bool (c||d))) :
  (W P GL).gr (.bool c) false (λk=>(W P GL).rd r1 k) λt1=>(W P GL).gr (.bool c) false (λk=>(W P GL).rd (r2 t1) k) λt2=>(W P GL).rd (Zk [.bool c,.bool true,t2] σ) K:=by
 cases c with
 |false=>exact Ya (Za (h1 rfl) (Ya (Za (h2 rfl) (Za rfl hK))))
 |true=>exact Qa rfl (Qa rfl (Za rfl hK))
theorem Xbx{c d:Bool}{K:AVal→Prop}{r1:SRes}{r2:AVal→SRes}{r3:AVal→AVal→SRes}{σ:List ABlk}{v1 v2:AVal}{q1 q2 q3:List Nat}(h1:c=false→r1=.ok v1 q1 [])(h2:c=false→r2 v1=.ok v2 q2 [])(h3:c=false→r3 v1 v2=.ok (.bool d) q3 [])(hK:K (.bool (c||d))) :
  (W P GL).gr (.bool c) false (λk=>(W P GL).rd r1 k) λt1=>(W P GL).gr (.bool c) false (λk=>(W P GL).rd (r2 t1) k) λt2=>(W P GL).gr (.bool c) false (λk=>(W P GL).rd (r3 t1 t2) k) λt3=>(W P GL).rd (Zk [.bool c,.bool true,t3] σ) K:=by
 cases c with
 |false=>exact Ya (Za (h1 rfl) (Ya (Za (h2 rfl) (Ya (Za (h3 rfl) (Za rfl hK))))))
 |true=>exact Qa rfl (Qa rfl (Qa rfl (Za rfl hK)))
theorem XcA{c d:Bool}{K:AVal→Prop}{r1:SRes}{r2:AVal→SRes}{r3:AVal→AVal→SRes}{r4:AVal→AVal→AVal→SRes}{r5:AVal→AVal→AVal→AVal→SRes}{σ:List ABlk}{v1 v2 v3 v4:AVal}{q1 q2 q3 q4 q5:List Nat}(h1:c=false→r1=.ok v1 q1 [])(h2:c=false→r2 v1=.ok v2 q2 [])(h3:c=false→r3 v1 v2=.ok v3 q3 [])(h4:c=false→r4 v1 v2 v3=.ok v4 q4 [])(h5:c=false→r5 v1 v2 v3 v4=.ok (.bool d) q5 [])(hK:K (.bool (c||d))) :
  (W P GL).gr (.bool c) false (λk=>(W P GL).rd r1 k) λt1=>(W P GL).gr (.bool c) false (λk=>(W P GL).rd (r2 t1) k) λt2=>(W P GL).gr (.bool c) false (λk=>(W P GL).rd (r3 t1 t2) k) λt3=>(W P GL).gr (.bool c) false (λk=>(W P GL).rd (r4 t1 t2 t3) k) λt4=>(W P GL).gr (.bool c) false (λk=>(W P GL).rd (r5 t1 t2 t3 t4) k) λt5=>(W P GL).rd (Zk [.bool c,.bool true,t5] σ) K:=by
 cases c with
 |false=>exact Ya (Za (h1 rfl) (Ya (Za (h2 rfl) (Ya (Za (h3 rfl) (Ya (Za (h4 rfl) (Ya (Za (h5 rfl) (Za rfl hK))))))))))
 |true=>exact Qa rfl (Qa rfl (Qa rfl (Qa rfl (Qa rfl (Za rfl hK)))))
theorem ZcU{c d:Bool}{K:AVal→Prop}{r1:SRes}{r2:AVal→SRes}{r3:AVal→AVal→SRes}{r4:AVal→AVal→AVal→SRes}{r5:AVal→AVal→AVal→AVal→SRes}{r6:AVal→AVal→AVal→AVal→AVal→SRes}{σ:List ABlk}{v1 v2 v3 v4 v5:AVal}{q1 q2 q3 q4 q5 q6:List Nat}(h1:c=false→r1=.ok v1 q1 [])(h2:c=false→r2 v1=.ok v2 q2 [])(h3:c=false→r3 v1 v2=.ok v3 q3 [])(h4:c=false→r4 v1 v2 v3=.ok v4 q4 [])(h5:c=false→r5 v1 v2 v3 v4=.ok v5 q5 [])(h6:c=false→r6 v1 v2 v3 v4 v5=.ok (.bool d) q6 [])(hK:K (.bool (c||d))) :
  (W P GL).gr (.bool c) false (λk=>(W P GL).rd r1 k) λt1=>(W P GL).gr (.bool c) false (λk=>(W P GL).rd (r2 t1) k) λt2=>(W P GL).gr (.bool c) false (λk=>(W P GL).rd (r3 t1 t2) k) λt3=>(W P GL).gr (.bool c) false (λk=>(W P GL).rd (r4 t1 t2 t3) k) λt4=>(W P GL).gr (.bool c) false (λk=>(W P GL).rd (r5 t1 t2 t3 t4) k) λt5=>(W P GL).gr (.bool c) false (λk=>(W P GL).rd (r6 t1 t2 t3 t4 t5) k) λt6=>(W P GL).rd (Zk [.bool c,.bool true,t6] σ) K:=by
 cases c with
 |false=>exact Ya (Za (h1 rfl) (Ya (Za (h2 rfl) (Ya (Za (h3 rfl) (Ya (Za (h4 rfl) (Ya (Za (h5 rfl) (Ya (Za (h6 rfl) (Za rfl hK))))))))))))
 |true=>exact Qa rfl (Qa rfl (Qa rfl (Qa rfl (Qa rfl (Qa rfl (Za rfl hK))))))
theorem YcU{c d:Bool}{K:AVal→Prop}{r1:SRes}{r2:AVal→SRes}{r3:AVal→AVal→SRes}{r4:AVal→AVal→AVal→SRes}{r5:AVal→AVal→AVal→AVal→SRes}{r6:AVal→AVal→AVal→AVal→AVal→SRes}{r7:AVal→AVal→AVal→AVal→AVal→AVal→SRes}{σ:List ABlk}{v1 v2 v3 v4 v5 v6:AVal}{q1 q2 q3 q4 q5 q6 q7:List Nat}(h1:c=false→r1=.ok v1 q1 [])(h2:c=false→r2 v1=.ok v2 q2 [])(h3:c=false→r3 v1 v2=.ok v3 q3 [])(h4:c=false→r4 v1 v2 v3=.ok v4 q4 [])(h5:c=false→r5 v1 v2 v3 v4=.ok v5 q5 [])(h6:c=false→r6 v1 v2 v3 v4 v5=.ok v6 q6 [])(h7:c=false→r7 v1 v2 v3 v4 v5 v6=.ok (.bool d) q7 [])(hK:K (.bool (c||d))) :
  (W P GL).gr (.bool c) false (λk=>(W P GL).rd r1 k) λt1=>(W P GL).gr (.bool c) false (λk=>(W P GL).rd (r2 t1) k) λt2=>(W P GL).gr (.bool c) false (λk=>(W P GL).rd (r3 t1 t2) k) λt3=>(W P GL).gr (.bool c) false (λk=>(W P GL).rd (r4 t1 t2 t3) k) λt4=>(W P GL).gr (.bool c) false (λk=>(W P GL).rd (r5 t1 t2 t3 t4) k) λt5=>(W P GL).gr (.bool c) false (λk=>(W P GL).rd (r6 t1 t2 t3 t4 t5) k) λt6=>(W P GL).gr (.bool c) false (λk=>(W P GL).rd (r7 t1 t2 t3 t4 t5 t6) k) λt7=>(W P GL).rd (Zk [.bool c,.bool true,t7] σ) K:=by
 cases c with
 |false=>exact Ya (Za (h1 rfl) (Ya (Za (h2 rfl) (Ya (Za (h3 rfl) (Ya (Za (h4 rfl) (Ya (Za (h5 rfl) (Ya (Za (h6 rfl) (Ya (Za (h7 rfl) (Za rfl hK))))))))))))))
 |true=>exact Qa rfl (Qa rfl (Qa rfl (Qa rfl (Qa rfl (Qa rfl (Qa rfl (Za rfl hK)))))))
theorem Xdf{c d:Bool}{K:AVal→Prop}{r1:SRes}{r2:AVal→SRes}{r3:AVal→AVal→SRes}{r4:AVal→AVal→AVal→SRes}{r5:AVal→AVal→AVal→AVal→SRes}{r6:AVal→AVal→AVal→AVal→AVal→SRes}{r7:AVal→AVal→AVal→AVal→AVal→AVal→SRes}{r8:AVal→AVal→AVal→AVal→AVal→AVal→AVal→SRes}{σ:List ABlk}{v1 v2 v3 v4 v5 v6 v7:AVal}{q1 q2 q3 q4 q5 q6 q7 q8:List Nat}(h1:c=false→r1=.ok v1 q1 [])(h2:c=false→r2 v1=.ok v2 q2 [])(h3:c=false→r3 v1 v2=.ok v3 q3 [])(h4:c=false→r4 v1 v2 v3=.ok v4 q4 [])(h5:c=false→r5 v1 v2 v3 v4=.ok v5 q5 [])(h6:c=false→r6 v1 v2 v3 v4 v5=.ok v6 q6 [])(h7:c=false→r7 v1 v2 v3 v4 v5 v6=.ok v7 q7 [])(h8:c=false→r8 v1 v2 v3 v4 v5 v6 v7=.ok (.bool d) q8 [])(hK:K (.bool (c||d))) :
  (W P GL).gr (.bool c) false (λk=>(W P GL).rd r1 k) λt1=>(W P GL).gr (.bool c) false (λk=>(W P GL).rd (r2 t1) k) λt2=>(W P GL).gr (.bool c) false (λk=>(W P GL).rd (r3 t1 t2) k) λt3=>(W P GL).gr (.bool c) false (λk=>(W P GL).rd (r4 t1 t2 t3) k) λt4=>(W P GL).gr (.bool c) false (λk=>(W P GL).rd (r5 t1 t2 t3 t4) k) λt5=>(W P GL).gr (.bool c) false (λk=>(W P GL).rd (r6 t1 t2 t3 t4 t5) k) λt6=>(W P GL).gr (.bool c) false (λk=>(W P GL).rd (r7 t1 t2 t3 t4 t5 t6) k) λt7=>(W P GL).gr (.bool c) false (λk=>(W P GL).rd (r8 t1 t2 t3 t4 t5 t6 t7) k) λt8=>(W P GL).rd (Zk [.bool c,.bool true,t8] σ) K:=by
 cases c with
 |false=>exact Ya (Za (h1 rfl) (Ya (Za (h2 rfl) (Ya (Za (h3 rfl) (Ya (Za (h4 rfl) (Ya (Za (h5 rfl) (Ya (Za (h6 rfl) (Ya (Za (h7 rfl) (Ya (Za (h8 rfl) (Za rfl hK))))))))))))))))
 |true=>exact Qa rfl (Qa rfl (Qa rfl (Qa rfl (Qa rfl (Qa rfl (Qa rfl (Qa rfl (Za rfl hK))))))))
theorem Zc3{c d:Bool}{K:AVal→Prop}{r1:SRes}{r2:AVal→SRes}{r3:AVal→AVal→SRes}{r4:AVal→AVal→AVal→SRes}{r5:AVal→AVal→AVal→AVal→SRes}{r6:AVal→AVal→AVal→AVal→AVal→SRes}{r7:AVal→AVal→AVal→AVal→AVal→AVal→SRes}{r8:AVal→AVal→AVal→AVal→AVal→AVal→AVal→SRes}{r9:AVal→AVal→AVal→AVal→AVal→AVal→AVal→AVal→SRes}{r10:AVal→AVal→AVal→AVal→AVal→AVal→AVal→AVal→AVal→SRes}{σ:List ABlk}{v1 v2 v3 v4 v5 v6 v7 v8 v9:AVal}{q1 q2 q3 q4 q5 q6 q7 q8 q9 q10:List Nat}(h1:c=false→r1=.ok v1 q1 [])(h2:c=false→r2 v1=.ok v2 q2 [])(h3:c=false→r3 v1 v2=.ok v3 q3 [])(h4:c=false→r4 v1 v2 v3=.ok v4 q4 [])(h5:c=false→r5 v1 v2 v3 v4=.ok v5 q5 [])(h6:c=false→r6 v1 v2 v3 v4 v5=.ok v6 q6 [])(h7:c=false→r7 v1 v2 v3 v4 v5 v6=.ok v7 q7 [])(h8:c=false→r8 v1 v2 v3 v4 v5 v6 v7=.ok v8 q8 [])(h9:c=false→r9 v1 v2 v3 v4 v5 v6 v7 v8=.ok v9 q9 [])(h10:c=false→r10 v1 v2 v3 v4 v5 v6 v7 v8 v9=.ok (.bool d) q10 [])(hK:K (.bool (c||d))) :
  (W P GL).gr (.bool c) false (λk=>(W P GL).rd r1 k) λt1=>(W P GL).gr (.bool c) false (λk=>(W P GL).rd (r2 t1) k) λt2=>(W P GL).gr (.bool c) false (λk=>(W P GL).rd (r3 t1 t2) k) λt3=>(W P GL).gr (.bool c) false (λk=>(W P GL).rd (r4 t1 t2 t3) k) λt4=>(W P GL).gr (.bool c) false (λk=>(W P GL).rd (r5 t1 t2 t3 t4) k) λt5=>(W P GL).gr (.bool c) false (λk=>(W P GL).rd (r6 t1 t2 t3 t4 t5) k) λt6=>(W P GL).gr (.bool c) false (λk=>(W P GL).rd (r7 t1 t2 t3 t4 t5 t6) k) λt7=>(W P GL).gr (.bool c) false (λk=>(W P GL).rd (r8 t1 t2 t3 t4 t5 t6 t7) k) λt8=>(W P GL).gr (.bool c) false (λk=>(W P GL).rd (r9 t1 t2 t3 t4 t5 t6 t7 t8) k) λt9=>(W P GL).gr (.bool c) false (λk=>(W P GL).rd (r10 t1 t2 t3 t4 t5 t6 t7 t8 t9) k) λt10=>(W P GL).rd (Zk [.bool c,.bool true,t10] σ) K:=by
 cases c with
 |false=>exact Ya (Za (h1 rfl) (Ya (Za (h2 rfl) (Ya (Za (h3 rfl) (Ya (Za (h4 rfl) (Ya (Za (h5 rfl) (Ya (Za (h6 rfl) (Ya (Za (h7 rfl) (Ya (Za (h8 rfl) (Ya (Za (h9 rfl) (Ya (Za (h10 rfl) (Za rfl hK))))))))))))))))))))
 |true=>exact Qa rfl (Qa rfl (Qa rfl (Qa rfl (Qa rfl (Qa rfl (Qa rfl (Qa rfl (Qa rfl (Qa rfl (Za rfl hK))))))))))
theorem Zcz{c d:Bool}{K:List ABlk→AVal→Prop}{r1:SRes}{r2:AVal→SRes}{r3:AVal→AVal→SRes}{r4:AVal→AVal→AVal→SRes}{cl:AVal→AVal→AVal→AVal→(AVal→List ABlk→Prop)→Prop} {σ:List ABlk}{v1 v2 v3 v4:AVal}{q1 q2 q3 q4:List Nat}(h1:c=true→r1=.ok v1 q1 [])(h2:c=true→r2 v1=.ok v2 q2 [])(h3:c=true→r3 v1 v2=.ok v3 q3 [])(h4:c=true→r4 v1 v2 v3=.ok v4 q4 [])(hc:c=true→∀k:AVal→List ABlk→Prop,k (.bool d) σ→cl v1 v2 v3 v4 k)(hK:K σ (.bool (c&&d))) :
  (W P GL).gr (.bool c) true (λk=>(W P GL).rd r1 k) λt1=>(W P GL).gr (.bool c) true (λk=>(W P GL).rd (r2 t1) k) λt2=>(W P GL).gr (.bool c) true (λk=>(W P GL).rd (r3 t1 t2) k) λt3=>(W P GL).gr (.bool c) true (λk=>(W P GL).rd (r4 t1 t2 t3) k) λt4=>(W P GL).gw (.bool c) true (λk=>cl t1 t2 t3 t4 k) σ λw0 τ=>(W P GL).rd (Zk [.bool c,w0,.bool false] τ) (K τ):=by
 cases c with
 |true=>exact Ya (Za (h1 rfl) (Ya (Za (h2 rfl) (Ya (Za (h3 rfl) (Ya (Za (h4 rfl) (Xa (hc rfl _ (Za rfl hK))))))))))
 |false=>exact Qa rfl (Qa rfl (Qa rfl (Qa rfl (Yb rfl (Za rfl hK)))))
theorem Qbx{c d:Bool}{K:List ABlk→AVal→Prop}{r1:SRes}{cl:AVal→(AVal→List ABlk→Prop)→Prop} {σ:List ABlk}{v1:AVal}{q1:List Nat}(h1:c=false→r1=.ok v1 q1 [])(hc:c=false→∀k:AVal→List ABlk→Prop,k (.bool d) σ→cl v1 k)(hK:K σ (.bool (c||d))) :
  (W P GL).gr (.bool c) false (λk=>(W P GL).rd r1 k) λt1=>(W P GL).gw (.bool c) false (λk=>cl t1 k) σ λw0 τ=>(W P GL).rd (Zk [.bool c,.bool true,w0] τ) (K τ):=by
 cases c with
 |false=>exact Ya (Za (h1 rfl) (Xa (hc rfl _ (Za rfl hK))))
 |true=>exact Qa rfl (Yb rfl (Za rfl hK))
theorem QcA{c d:Bool}{K:List ABlk→AVal→Prop}{r1:SRes}{cl:AVal→(AVal→List ABlk→Prop)→Prop}{s1:AVal→List ABlk→SRes}{σ:List ABlk}{v1 u0:AVal}{q1 p1:List Nat}(h1:c=false→r1=.ok v1 q1 [])(hc:c=false→∀k:AVal→List ABlk→Prop,k u0 σ→cl v1 k)(g1:c=false→s1 u0 σ=.ok (.bool d) p1 [])(hK:K σ (.bool (c||d))) :
  (W P GL).gr (.bool c) false (λk=>(W P GL).rd r1 k) λt1=>(W P GL).gw (.bool c) false (λk=>cl t1 k) σ λw0 τ=>(W P GL).gr (.bool c) false (λk=>(W P GL).rd (s1 w0 τ) k) λw1=>(W P GL).rd (Zk [.bool c,.bool true,w1] τ) (K τ):=by
 cases c with
 |false=>exact Ya (Za (h1 rfl) (Xa (hc rfl _ (Ya (Za (g1 rfl) (Za rfl hK))))))
 |true=>exact Qa rfl (Yb rfl (Qa rfl (Za rfl hK)))
theorem ZcB{c d:Bool}{K:List ABlk→AVal→Prop}{r1:SRes}{r2:AVal→SRes}{r3:AVal→AVal→SRes}{cl:AVal→AVal→AVal→(AVal→List ABlk→Prop)→Prop} {σ:List ABlk}{v1 v2 v3:AVal}{q1 q2 q3:List Nat}(h1:c=false→r1=.ok v1 q1 [])(h2:c=false→r2 v1=.ok v2 q2 [])(h3:c=false→r3 v1 v2=.ok v3 q3 [])(hc:c=false→∀k:AVal→List ABlk→Prop,k (.bool d) σ→cl v1 v2 v3 k)(hK:K σ (.bool (c||d))) :
  (W P GL).gr (.bool c) false (λk=>(W P GL).rd r1 k) λt1=>(W P GL).gr (.bool c) false (λk=>(W P GL).rd (r2 t1) k) λt2=>(W P GL).gr (.bool c) false (λk=>(W P GL).rd (r3 t1 t2) k) λt3=>(W P GL).gw (.bool c) false (λk=>cl t1 t2 t3 k) σ λw0 τ=>(W P GL).rd (Zk [.bool c,.bool true,w0] τ) (K τ):=by
 cases c with
 |false=>exact Ya (Za (h1 rfl) (Ya (Za (h2 rfl) (Ya (Za (h3 rfl) (Xa (hc rfl _ (Za rfl hK))))))))
 |true=>exact Qa rfl (Qa rfl (Qa rfl (Yb rfl (Za rfl hK))))
theorem YcB{c d:Bool}{K:List ABlk→AVal→Prop}{r1:SRes}{r2:AVal→SRes}{r3:AVal→AVal→SRes}{r4:AVal→AVal→AVal→SRes}{cl:AVal→AVal→AVal→AVal→(AVal→List ABlk→Prop)→Prop}{s1:AVal→List ABlk→SRes}{σ:List ABlk}{v1 v2 v3 v4 u0:AVal}{q1 q2 q3 q4 p1:List Nat}(h1:c=false→r1=.ok v1 q1 [])(h2:c=false→r2 v1=.ok v2 q2 [])(h3:c=false→r3 v1 v2=.ok v3 q3 [])(h4:c=false→r4 v1 v2 v3=.ok v4 q4 [])(hc:c=false→∀k:AVal→List ABlk→Prop,k u0 σ→cl v1 v2 v3 v4 k)(g1:c=false→s1 u0 σ=.ok (.bool d) p1 [])(hK:K σ (.bool (c||d))) :
  (W P GL).gr (.bool c) false (λk=>(W P GL).rd r1 k) λt1=>(W P GL).gr (.bool c) false (λk=>(W P GL).rd (r2 t1) k) λt2=>(W P GL).gr (.bool c) false (λk=>(W P GL).rd (r3 t1 t2) k) λt3=>(W P GL).gr (.bool c) false (λk=>(W P GL).rd (r4 t1 t2 t3) k) λt4=>(W P GL).gw (.bool c) false (λk=>cl t1 t2 t3 t4 k) σ λw0 τ=>(W P GL).gr (.bool c) false (λk=>(W P GL).rd (s1 w0 τ) k) λw1=>(W P GL).rd (Zk [.bool c,.bool true,w1] τ) (K τ):=by
 cases c with
 |false=>exact Ya (Za (h1 rfl) (Ya (Za (h2 rfl) (Ya (Za (h3 rfl) (Ya (Za (h4 rfl) (Xa (hc rfl _ (Ya (Za (g1 rfl) (Za rfl hK))))))))))))
 |true=>exact Qa rfl (Qa rfl (Qa rfl (Qa rfl (Yb rfl (Qa rfl (Za rfl hK))))))
end
end Go.Ah
end
section
namespace Go.Ah
section
variable {P:Program} {GL:Globs}
theorem Xm(hP:P.follows .mixedOrders=true){f:FuncId}{np:Nat}{g:GFun}(hg:GOk P GL f np g){xs:List AVal}(hn:xs.length=np){y:AVal}(h:g (W P GL) xs [] (λv' σ=>∃rd,Bor (hp σ) rd v' y)):PCall P GL f xs y:=by
 obtain⟨F,h1,h2,h3⟩:=hg.awp hP (Yc7 P GL) hn h;intro w M vs hM hg hx;have r0:=Rep.start (GL:=GL) w M hM hg;have hh:hp []=noHp:=by funext b; simp[hp,noHp]
 rw[←hh] at r0;refine(Yae h1 (hn.trans h2.symm) h3 w ⟨[],M⟩ ⟨M,noOwn⟩ w vs r0 hx).mono ?_;rintro e w' ⟨u,he,g',x,σ',⟨rd,hR⟩,hle,r,d⟩
 let M2:Nat→Option Obj:=λb=>if b<w.heap.size then g'.M b else w'.heap[b]?
 have cov:Cov g' (hp σ') w' M2:=by
  refine⟨λb o e=>?_,λb blk cb o e1 e2 e3 e4 e5=>?_⟩
  ·show (if b<w.heap.size then g'.M b else w'.heap[b]?)=some o;split
   ·exact e
   ·exact r.stable b o e
  ·obtain⟨_,hin,_⟩:=r.own b blk cb e1 e2 e3 e4
   grind
 have hd2:=hR GL w ⟨[],M⟩ g' (hp σ') w' M2 r cov (λ_ _=>rfl) u d;refine⟨u,he,r.keeps,M2,λb o e=>cov.1 b o (hle.m b o e),λb o e=>?_,λb o e=>?_,hd2⟩
 ·have e':(if b<w.heap.size then g'.M b else w'.heap[b]?)=some o:=e;split at e'
  ·exact r.stable b o e'
  ·exact e'
 ·have e':(if b<w.heap.size then g'.M b else w'.heap[b]?)=some o:=e;split at e'
  ·rcases r.src b o e' with q|q|q<;>simp_all
  ·exact .inr (by omega)
theorem Bor.tup{h0:Hp}{rd:List Nat}{xs ys:List AVal}(h1:BorL h0 rd xs ys):Bor h0 rd (.tup xs) (.tup ys):=by
 intro GL w0 L g h w M2 r hM hrd v d;cases d with
 |tup _ _ vs hs hd=>
  obtain⟨hl,hd'⟩:=h1.get r hM hrd (vs:=vs.toList) (by simp[hs]) (λi x v e1 e2=>hd i x v e1 (by simpa using e2));exact .tup _ _ _ (by simpa[hs] using hl.symm) (λi x v e1 e2=>hd' i x v e1 (by simpa using e2))
theorem Bor.weak{h0:Hp}{rd:List Nat}{x y z:AVal}(h:Bor h0 rd x y)(k:∀(M:Nat→Option Obj) (u:Value),Den M noOwn y u→Den M noOwn z u):Bor h0 rd x z:=
 λGL w0 L g h' w M2 r hM hrd v d=>k M2 v (h GL w0 L g h' w M2 r hM hrd v d)
theorem Den.rsl_weak{M:Nat→Option Obj}{c:Own}{e n:Bool}{sz:Nat}{rows:List (List AVal)}{u:Value}(h:Den M c (.rsl e n sz rows) u):Den M c (.rsl false false sz rows) u:=by
 cases h with
 |rsl _ _ _ _ _ a cap blk off f q1 q2 q3 q4 q5 q6 q7 q8=>exact .rsl _ _ _ _ _ a cap blk off f (λh=>by cases h) (λh=>by cases h) q3 q4 q5 q6 q7 q8
theorem Den.nils_rsl{M:Nat→Option Obj}{c:Own}{u:Value}(sz:Nat)(h:Den M c .nils u):Den M c (.rsl false false sz []) u:=by
 cases h with
 |nils=>exact .rsl _ _ _ _ [] none 0 0 0 (λ_ _=>undef) (λh=>by cases h) (λh=>by cases h) (λh=>(h rfl).elim) (λ_=>rfl) (by simp) (by simp) (by simp) (by simp)
theorem BorL.ro{h0:Hp}{rd:List Nat}:∀ {l:List AVal},roL l=true→BorL h0 rd l l
 |[],_=>BorL.nil
 |x::l,h=>by
  simp only[roL,Bool.and_eq_true] at h;exact BorL.cons (Bor.ro h.1) (BorL.ro h.2)
theorem Bor.own{σ:List ABlk}{rd:List Nat}{b off len sz:Nat}{ex:Bool}{rs rows:List (List AVal)}(hb:hget σ b=.rows sz rs)(hin:b∈rd)(hle:off+len≤rs.length)(hc:cut off (off+len) rs=rows)(hro:∀r∈rs,roL r=true):Bor (hp σ) rd (.sl b off len ex) (.rsl false false sz rows):=by
 refine Bor.weak (y:=.rsl ex false sz rows) ?_ (λM u d=>d.rsl_weak);have hb':hp σ b=some (.rows sz rs):=XG hb (by simp);subst hc;refine Bor.sl hb' hin hle (X3 hle▸by omega) (λi row row' q1 q2=>?_)
 grind [cut,BorL.ro]
theorem YaO(l:List (List AVal))(n:Nat)(h:n=l.length):cut 0 (0+n) l=l:=by subst h; simp[cut]
theorem ZcH(x:List AVal)(l:List (List AVal))(n:Nat)(h:n=l.length):cut 1 (1+n) (x::l)=l:=by subst h; simp[cut,Nat.add_comm]
theorem Yap{k:MK}{xs ys zs:List AVal}{f:FuncId}{v:AVal}{rd:List Nat}(h:PCall P GL f zs v){σ:List ABlk}(hc:Qq k xs=some (f,ys))(hp':Zh P f=true)(hb:BorL (hp σ) rd ys zs)(hv:v.flat=true){K:AVal→List ABlk→Prop}(hK:K v σ):(W P GL).call k xs σ K:=
 Qag hc hp' (h.lend hb hv) (Qj σ) hK
theorem Ycb{k:MK}{xs ys zs:List AVal}{f:FuncId}{v:AVal}{bs:List ABlk}{rd:List Nat}(h:NCall P GL f zs v bs){σ:List ABlk}(hc:Qq k xs=some (f,ys))(hp':Zh P f=true)(hb:BorL (hp σ) rd ys zs)(hv:v.nosh=true)(hbs:Xak bs=true){K:AVal→List ABlk→Prop}(hK:K (v.ren (Zw σ.length)) (σ++Xp σ.length bs)):(W P GL).call k xs σ K:=
 Qag hc hp' (h.lend hb hv hbs (λi _=>by simp[hp])) (YX _ σ) hK
theorem QbZ{k:MK}{xs ys zs:List AVal}{f:FuncId}{v:AVal}{bs:List ABlk}{rd:List Nat}(h:NCall P GL f zs v bs){σ:List ABlk}(hc:Qq k xs=some (f,ys))(hp':Zh P f=true)(hb:BorL (hp σ) rd ys zs)(hv:v.nosh=true)(hbs:Xak bs=true){K:AVal→List Nat×List Nat→List ABlk→Prop}(hK:K (v.ren (Zw σ.length)) (rd,QV σ.length (Xp σ.length bs)) (σ++Xp σ.length bs)):(W P GL).dcall k xs σ K:=
 XaN hc hp' (h.lend hb hv hbs (λi _=>by simp[hp])) (YX _ σ) (by rw[Zap]; exact hK)
end
end Go.Ah
end
