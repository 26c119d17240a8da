/- Part of the proof that ArchiveBytes holds of the program for arguments that together hold at most 1048576 values and letters; no other condition. -/
import Derived.Test.YtflkgbeolnbadaaGreatDoorZ1
import Derived.Laws.Bits64b
import Derived.OrdersIn
set_option linter.all false
section
namespace Go.Ah
section
variable {P:Program} {GL:Globs} {Z:PZ}
theorem XaT(s:List UInt8)(k:IntKind)(i:Int)(h1:0≤i)(h2:i≤s.length)(h0:Hp) :
  OpSem P GL (.sliceStr true false) [.str s,.int k i] h0 (.str (s.drop i.toNat)) [] []:=by
 intro o os hc w0 L g hp w a r hx _ _;obtain⟨t,x,lo,hi,ho,hl1,hl2,rfl,hu⟩:=Y2 hc;obtain⟨lo,rfl⟩:∃z,lo=some z:=Option.isSome_iff_exists.1 hl1.symm;obtain rfl:hi=none:=by cases hi<;>first|rfl|cases hl2
 obtain⟨d,d2,_⟩:=hx;obtain⟨s',e1,rfl⟩:=QP d;have hsz:s'.data.toList.length=s'.size:=by simp
 have hrun:(execOp a.eval o).run P w=.ok (.value (.string (s'.extract i.toNat s'.size))) w:=by
  simp only[execOp,ho,e1,Instr.sliceAt,Instr.slice,Sem.run_bind,run_underlying hu,Result.andThen_ok,Option.map_some,Xh d2,Option.map_none,Option.isSome_none,Bool.false_eq_true,if_false,Instr.sliceBounds,Sem.run_pure,Zf k i s'.size _ h1 (by omega)]
 rw[hrun];have:s'.data.toList.drop i.toNat=(s'.extract i.toNat s'.size).data.toList:=by
  simp[List.take_of_length_le]
 rw[this];exact Out.here r (.str _ _)
theorem YaT(s:List UInt8)(k:IntKind)(i:Int)(h1:0≤i)(h2:i≤s.length)(h0:Hp) :
  OpSem P GL (.sliceStr false true) [.str s,.int k i] h0 (.str (s.take i.toNat)) [] []:=by
 intro o os hc w0 L g hp w a r hx _ _;obtain⟨t,x,lo,hi,ho,hl1,hl2,rfl,hu⟩:=Y2 hc;obtain rfl:lo=none:=by cases lo<;>first|rfl|cases hl1
 obtain⟨hi,rfl⟩:∃z,hi=some z:=Option.isSome_iff_exists.1 hl2.symm;obtain⟨d,d2,_⟩:=hx;obtain⟨s',e1,rfl⟩:=QP d;have hsz:s'.data.toList.length=s'.size:=by simp
 have hrun:(execOp a.eval o).run P w=.ok (.value (.string (s'.extract 0 i.toNat))) w:=by
  simp only[execOp,ho,e1,Instr.sliceAt,Instr.slice,Sem.run_bind,run_underlying hu,Result.andThen_ok,Option.map_some,Xh d2,Option.map_none,Option.isSome_none,Bool.false_eq_true,if_false,Instr.sliceBounds,Sem.run_pure,Zf k i s'.size _ h1 (by omega)]
 rw[hrun];have:s'.data.toList.take i.toNat=(s'.extract 0 i.toNat).data.toList:=by
  simp
 rw[this];exact Out.here r (.str _ _)
theorem Yab(n by_:Nat)(z:List AVal)(x y:AVal)(rd:List Nat)(h0:Hp)(hx0:x=.nils∨x=.cap0∨(∃b o l e,x=.sl b o l e)∨∃e nn sz rows,x=.rsl e nn sz rows)(hy0:SrcIs h0 n y [] rd) :
  OpSem P GL (.append n by_ z) [x,y] h0 x rd []:=by
 intro o os hc w0 L g h w a r hx hrd _;generalize ho:o.op=op at hc;cases hc with
 |append t t' e ox oy _ _ v _ ht htd hsz hby hz hvs hcells hby0 hn0=>
  obtain⟨d,hd,hni⟩:=htd;obtain⟨d1,d2,_⟩:=hx;generalize hu1:a.eval ox=u1 at d1;generalize hu2:a.eval oy=u2 at d2;obtain⟨p1,len1,cap1,e1,hle⟩:∃p len cap,u1=.slice p len cap∧len≤cap:=by
   rcases hx0 with rfl|rfl|⟨b,o',l,e',rfl⟩|⟨e',nn,sz,rows,rfl⟩
   ·cases d1; exact⟨_,_,_,rfl,Nat.le_refl _⟩
   ·cases d1; exact⟨_,_,_,rfl,Nat.le_refl _⟩
   ·cases d1<;>grind
   grind [X0]
  subst e1;obtain⟨newv,e2,f2,ra2⟩:=Xac (P:=P) r hy0 hrd d2;have hlen2:(Builtin.lenOf u2).run P w=.ok 0 w:=e2;have hnv:newv.toList=[]:=by have:=ra2.1; simp at this; simp[this]
  have hrun:(Builtin.append_ #[t,t'] o.type #[.slice p1 len1 cap1,u2]).run P w=.ok (.slice p1 len1 cap1) w:=by
   obtain⟨k1,k2⟩:=(Qy ht hd hni hsz hby hz hby0 (base:=p1) (len:=len1) (cap:=cap1) (newv:=newv) hlen2 o.type).1 (by simpa using hle) f2;cases p1 with
   |none=>exact k1 rfl
   |some ad=>exact k2 ad w rfl (by rw[hnv]; rfl)
  rw[Xy ho hu1 hu2 hrun];exact Out.here r d1
theorem OpSem.weak{k:MK}{x x':AVal}{xs:List AVal}{h0:Hp}{v:AVal}{rd:List Nat}{up:List (Nat×ABlk)}(hw:∀(g:Gm) (u:Value),g.den x u→g.den x' u)(h:OpSem P GL k (x'::xs) h0 v rd up):OpSem P GL k (x::xs) h0 v rd up:=by
 intro o os hc w0 L g hp w a r hx hrd hup;refine h o os hc w0 L g hp w a r ?_ hrd hup;generalize os.map a.eval=vs at hx;cases vs with
 |nil=>exact hx
 |cons v vs=>exact⟨hw g v hx.1,hx.2⟩
theorem Xcb(x y:AVal)(h0:Hp):OpSem P GL .pick [.bool true,x,y] h0 x [] []:=by
 intro o os hc w0 L g h w a r hx _ _;generalize ho:o.op=op at hc;cases hc with
 |pick oc oa ob=>
  obtain⟨d1,d2,d3,_⟩:=hx;have e1:=Yt d1;simp_all [execOp,asBool,Out.here]
theorem Qcb(x y:AVal)(h0:Hp):OpSem P GL .pick [.bool false,x,y] h0 y [] []:=by
 intro o os hc w0 L g h w a r hx _ _;generalize ho:o.op=op at hc;cases hc with
 |pick oc oa ob=>
  obtain⟨d1,d2,d3,_⟩:=hx;have e1:=Yt d1;simp_all [execOp,asBool,Out.here]
theorem QH{g:Gm}{b off len:Nat}{ex:Bool}{cb:CB}{p:Option Addr}{len' cap:Nat}(ec:g.c b=some cb)(d:g.den (.sl b off len ex) (.slice p len' cap)) :
  len'=len∧len≤cap∧(ex=true→cap=len)∧∀ {l h:Nat},l≤h→h≤cap→∀ex':Bool,(ex'=true→cap=h)→(l<h∨(l=0)) →
   g.den (.sl b (off+l) (h-l) ex') (.slice (if cap=l then p else p.map (·.add (l*cb.sz))) (h-l) (cap-l)):=by
 cases d with
 |slv _ _ _ cb' _ ec' hv=>
  rw[ec] at ec'; cases ec';refine⟨rfl,Nat.le_refl _,λ_=>rfl,λ{l h} hl hh ex' hex hs=>?_⟩;have:h=0:=by omega
  subst this;have:l=0:=by omega
  subst this;exact .slv _ _ _ cb _ ec hv
 |sle _ _ _ _ cb' _ ec' hv h1 h2=>
  rw[ec] at ec'; cases ec';refine⟨rfl,Nat.le_refl _,λ_=>rfl,λ{l h} hl hh ex' hex hs=>?_⟩;have:h=0:=by omega
  subst this;have:l=0:=by omega
  subst this;exact .sle _ _ _ _ cb _ ec hv h1 h2
 |sl _ _ _ _ _ cb' _ ec' hv h1 h2 h3=>
  rw[ec] at ec'; cases ec';refine⟨rfl,h1,h3,λ{l h} hl hh ex' hex hs=>?_⟩;have hadd:(if cap=l then some (⟨cb.blk,cb.base+off*cb.sz,none⟩:Addr) else (some (⟨cb.blk,cb.base+off*cb.sz,none⟩:Addr)).map (·.add (l*cb.sz)))=some ⟨cb.blk,cb.base+(off+l)*cb.sz,none⟩:=by
   grind [ZD]
  rw[hadd];refine .sl _ _ _ _ _ cb _ ec hv (by omega) ?_ (λe=>by rw[hex e])
  grind
theorem Qcu{w0:World}{L:Ln}{g:Gm}{h:Hp}{w:World}(r:Rep GL w0 L g h w){b n off len cap:Nat}{ex:Bool}{rs:List (List AVal)}{p:Option Addr}(hb:h b=some (.rows n rs))(hn0:n≠0)(d:g.den (.sl b off len ex) (.slice p len cap)):rs.length≤off+cap:=by
 cases d with
 |slv _ _ _ cb p ec hv=>have:=(r.virtRows hb ec hv).2; subst this; simp
 |sle _ _ _ _ cb p ec hv h1 h2=>exact XaK (off:=off) (cap:=0) r hb hn0 ec hv (by simpa using h2)
 |sl _ _ _ _ _ cb cap ec hv h1 h2 h3=>exact XaK r hb hn0 ec hv h2
theorem Y0{g:Gm}{b off len:Nat}{ex:Bool}{v:Value}(d:g.den (.sl b off len ex) v):∃cb p cap,g.c b=some cb∧v=.slice p len cap∧(p=none→cap=0):=by
 cases d<;>grind
theorem YbU{w0:World}{L:Ln}{g:Gm}{h:Hp}{w:World}(r:Rep GL w0 L g h w){b sz:Nat}{rs:List (List AVal)}{cb:CB}(hb:h b=some (.rows sz rs))(ec:g.c b=some cb):cb.sz=sz:=by
 cases hv:cb.virt with
 |true=>have:=r.hollow b _ cb hb rfl ec hv; cases this; rfl
 |false=>exact(r.rowsBlk hb ec hv).1
theorem XaI(ex:Bool)(sz b off len:Nat)(rs:List (List AVal))(k:IntKind)(i:Int)(h1:0≤i)(h2:i<len)(h0:Hp)(hb:h0 b=some (.rows sz rs)) :
  OpSem P GL (.sliceS sz true false false) [.sl b off len ex,.int k i] h0 (.sl b (off+i.toNat) (len-i.toNat) ex) [b] []:=by
 intro o os hc w0 L g hp w a r hx hrd _;obtain⟨t,x,lo,hi,mx,e,ho,hl1,hl2,hl3,rfl,hu,hn⟩:=Ym hc;obtain⟨lo,rfl⟩:∃z,lo=some z:=Option.isSome_iff_exists.1 hl1.symm;obtain rfl:hi=none:=by cases hi<;>first|rfl|cases hl2
 obtain rfl:mx=none:=by cases mx<;>first|rfl|cases hl3
 obtain⟨d,d2,_⟩:=hx;obtain⟨cb,p,cap,ec,hv,_⟩:=Y0 d;have hsz:=YbU r ((hrd b (by simp)).trans hb) ec;rw[hv] at d;obtain⟨_,hc1,hc2,hcut⟩:=QH ec d;have hb:(Instr.sliceBounds true len cap (some (.int k i)) none none).run P w=.ok (i.toNat,len,cap) w:=by
  grind [Instr.sliceBounds,Sem.run_bind,Sem.run_pure,Result.andThen_ok,Zf]
 grind [Yo,Xh,Out.here]
theorem YaD(ex:Bool)(sz b off len:Nat)(k:IntKind)(i:Int)(h1:i=len)(h0:Hp) :
  OpSem P GL (.sliceS sz true false false) [.sl b off len ex,.int k i] h0 (.rsl false (Nat.blt 0 len) sz []) [] []:=by
 intro o os hc w0 L g hp w a r hx hrd _;obtain⟨t,x,lo,hi,mx,e,ho,hl1,hl2,hl3,rfl,hu,hn⟩:=Ym hc;obtain⟨lo,rfl⟩:∃z,lo=some z:=Option.isSome_iff_exists.1 hl1.symm;obtain rfl:hi=none:=by cases hi<;>first|rfl|cases hl2
 obtain rfl:mx=none:=by cases mx<;>first|rfl|cases hl3
 obtain⟨d,d2,_⟩:=hx;obtain⟨cb,p,cap,ec,hv,hnone⟩:=Y0 d;rw[hv] at d;have hsome:Nat.blt 0 len=true→p.isSome=true:=by
  intro e;generalize hq:(Value.slice p len cap)=q at d;cases d with
  |sl=>cases hq; rfl
  |slv=>cases hq; cases e
  |sle=>cases hq; cases e
 obtain⟨_,hc1,hc2,_⟩:=QH ec d;have hb:(Instr.sliceBounds true len cap (some (.int k i)) none none).run P w=.ok (i.toNat,len,cap) w:=by
  grind [Instr.sliceBounds,Sem.run_bind,Sem.run_pure,Result.andThen_ok,Zf]
 rw[Yo ho hu hn hv (l:=i.toNat) (h:=len) (m:=cap) (by simpa[Xh d2] using hb)];refine Out.here r ?_;rw[show len-i.toNat=([]:List (List AVal)).length by simp; omega];refine .rsl _ _ _ _ [] _ _ 0 0 (λ_ _=>undef) (by simp) (λe=>by have:=hsome e; split<;>simp[this]) (by simp) (λe=>?_) (by simp) (by simp) (by simp) (by simp);split at e
 ·omega
 ·simp at e; have:=hnone e; omega
theorem Yax(ex:Bool)(sz b off len:Nat)(rs:List (List AVal))(k:IntKind)(i:Int)(h1:i=len)(hz:sz≠0)(h0:Hp)(hb:h0 b=some (.rows sz rs)) :
  OpSem P GL (.sliceS sz true false false) [.sl b off len ex,.int k i] h0 (.sl b (off+len) 0 ex) [b] []:=by
 intro o os hc w0 L g hp w a r hx hrd _;obtain⟨t,x,lo,hi,mx,e,ho,hl1,hl2,hl3,rfl,hu,hn⟩:=Ym hc;obtain⟨lo,rfl⟩:∃z,lo=some z:=Option.isSome_iff_exists.1 hl1.symm;obtain rfl:hi=none:=by cases hi<;>first|rfl|cases hl2
 obtain rfl:mx=none:=by cases mx<;>first|rfl|cases hl3
 obtain⟨d,d2,_⟩:=hx;obtain⟨cb,p,cap,ec,hv,_⟩:=Y0 d;have hsz:=YbU r ((hrd b (by simp)).trans hb) ec;rw[hv] at d;obtain⟨_,hc1,hc2,_⟩:=QH ec d;have hbd:(Instr.sliceBounds true len cap (some (.int k i)) none none).run P w=.ok (i.toNat,len,cap) w:=by
  grind [Instr.sliceBounds,Sem.run_bind,Sem.run_pure,Result.andThen_ok,Zf]
 rw[Yo ho hu hn hv (l:=i.toNat) (h:=len) (m:=cap) (by simpa[Xh d2] using hbd)];have hi:i.toNat=len:=by omega
 rw[hi,←hsz];refine Out.here r ?_;rw[Nat.sub_self];generalize hq:(Value.slice p len cap)=q at d;cases d with
 |slv _ _ _ cb' _ ec' hvt=>
  cases hq<;>grind
 |sle _ _ _ _ cb' _ ec' hvt g1 g2=>
  cases hq<;>grind
 |sl _ _ _ _ _ cb' _ ec' hvt g1 g2 g3=>
  rw[ec] at ec'; cases ec';cases hq;by_cases hcap:cap=len
  ·subst hcap;rw[YIP rfl,Nat.sub_self];exact .sle _ _ _ _ cb _ ec hvt (by rw[hsz]; exact hz) g2
  ·rw[YIN hcap];have:=Den.sl (M:=g.M) g.c b (off+len) 0 ex cb (cap-len) ec hvt (Nat.zero_le _) (by grind) (λe=>absurd (g3 e) hcap);show Den g.M g.c _ _
   grind [ZD]
theorem ZaD(sz:Nat)(k:IntKind)(h0:Hp):OpSem P GL (.sliceS sz true false false) [.nils,.int k 0] h0 .nils [] []:=by
 intro o os hc w0 L g hp w a r hx hrd _;obtain⟨t,x,lo,hi,mx,e,ho,hl1,hl2,hl3,rfl,hu,hn⟩:=Ym hc;obtain⟨lo,rfl⟩:∃z,lo=some z:=Option.isSome_iff_exists.1 hl1.symm;obtain rfl:hi=none:=by cases hi<;>first|rfl|cases hl2
 obtain rfl:mx=none:=by cases mx<;>first|rfl|cases hl3
 obtain⟨d,d2,_⟩:=hx;have hv:a.eval x=.slice none 0 0:=by
  generalize a.eval x=u at d;cases d; rfl
 have hb:(Instr.sliceBounds true 0 0 (some (.int k 0)) none none).run P w=.ok (0,0,0) w:=by
  rfl
 rw[Yo ho hu hn hv (l:=0) (h:=0) (m:=0) (by simpa[Xh d2] using hb)];exact Out.here r (.nils _)
theorem QaC(sz:Nat)(k:IntKind)(h0:Hp):OpSem P GL (.sliceS sz false true false) [.nils,.int k 0] h0 .nils [] []:=by
 intro o os hc w0 L g hp w a r hx hrd _;obtain⟨t,x,lo,hi,mx,e,ho,hl1,hl2,hl3,rfl,hu,hn⟩:=Ym hc;obtain rfl:lo=none:=by cases lo<;>first|rfl|cases hl1
 obtain⟨hi,rfl⟩:∃z,hi=some z:=Option.isSome_iff_exists.1 hl2.symm;obtain rfl:mx=none:=by cases mx<;>first|rfl|cases hl3
 obtain⟨d,d2,_⟩:=hx;have hv:a.eval x=.slice none 0 0:=by
  generalize a.eval x=u at d;cases d; rfl
 have hb:(Instr.sliceBounds true 0 0 none (some (.int k 0)) none).run P w=.ok (0,0,0) w:=by
  rfl
 rw[Yo ho hu hn hv (l:=0) (h:=0) (m:=0) (by simpa[Xh d2] using hb)];exact Out.here r (.nils _)
theorem YaI(ex:Bool)(sz b off len:Nat)(rs:List (List AVal))(k:IntKind)(i:Int)(h1:0≤i)(h2:i≤len)(h0:Hp)(hb:h0 b=some (.rows sz rs)) :
  OpSem P GL (.sliceS sz false true false) [.sl b off len ex,.int k i] h0 (.sl b off i.toNat false) [b] []:=by
 intro o os hc w0 L g hp w a r hx hrd _;obtain⟨t,x,lo,hi,mx,e,ho,hl1,hl2,hl3,rfl,hu,hn⟩:=Ym hc;obtain rfl:lo=none:=by cases lo<;>first|rfl|cases hl1
 obtain⟨hi,rfl⟩:∃z,hi=some z:=Option.isSome_iff_exists.1 hl2.symm;obtain rfl:mx=none:=by cases mx<;>first|rfl|cases hl3
 obtain⟨d,d2,_⟩:=hx;obtain⟨cb,p,cap,ec,hv,_⟩:=Y0 d;have hsz:=YbU r ((hrd b (by simp)).trans hb) ec;rw[hv] at d;obtain⟨_,hc1,hc2,hcut⟩:=QH ec d;have hb:(Instr.sliceBounds true len cap none (some (.int k i)) none).run P w=.ok (0,i.toNat,cap) w:=by
  grind [Instr.sliceBounds,Sem.run_bind,Sem.run_pure,Result.andThen_ok,Zf]
 rw[Yo ho hu hn hv (l:=0) (h:=i.toNat) (m:=cap) (by simpa[Xh d2] using hb)];rw[←hsz];have:=hcut (l:=0) (h:=i.toNat) (by omega) (by omega) false (by simp) (.inr rfl);exact Out.here r this
theorem Zax(ex:Bool)(sz b off len:Nat)(rs:List (List AVal))(k k':IntKind)(i j:Int)(h1:0≤i)(h2:i<j∨(i=0∧0≤j))(h3:j≤len∨(sz≠0∧off+j.toNat≤rs.length))(h0:Hp)(hb:h0 b=some (.rows sz rs)) :
  OpSem P GL (.sliceS sz true true false) [.sl b off len ex,.int k i,.int k' j] h0 (.sl b (off+i.toNat) (j.toNat-i.toNat) false) [b] []:=by
 intro o os hc w0 L g hp w a r hx hrd _;obtain⟨t,x,lo,hi,mx,e,ho,hl1,hl2,hl3,rfl,hu,hn⟩:=Ym hc;obtain⟨lo,rfl⟩:∃z,lo=some z:=Option.isSome_iff_exists.1 hl1.symm;obtain⟨hi,rfl⟩:∃z,hi=some z:=Option.isSome_iff_exists.1 hl2.symm;obtain rfl:mx=none:=by cases mx<;>first|rfl|cases hl3
 obtain⟨d,d2,d3,_⟩:=hx;obtain⟨cb,p,cap,ec,hv,_⟩:=Y0 d;have hsz:=YbU r ((hrd b (by simp)).trans hb) ec;rw[hv] at d;obtain⟨_,hc1,hc2,hcut⟩:=QH ec d;have hjc:j≤cap:=by
  rcases h3 with h3|⟨h3,h4⟩
  ·omega
  ·have:=Qcu r ((hrd b (by simp)).trans hb) h3 d;omega
 have hb:(Instr.sliceBounds true len cap (some (.int k i)) (some (.int k' j)) none).run P w=.ok (i.toNat,j.toNat,cap) w:=by
  simp only[Instr.sliceBounds,Sem.run_bind,Sem.run_pure,Result.andThen_ok,Zf k' j cap _ (by omega) (by omega),Zf k i j.toNat _ h1 (by omega)]
 rw[Yo ho hu hn hv (l:=i.toNat) (h:=j.toNat) (m:=cap) (by simpa[Xh d2,Xh d3] using hb)]
 grind [Out.here]
theorem QaT(ex:Bool)(sz b off len:Nat)(k k' k'':IntKind)(i j m:Int)(h1:0≤i)(h2:i≤j)(h3:j≤m)(h4:m≤len)(h0:Hp) :
  OpSem P GL (.sliceS sz true true true) [.sl b off len ex,.int k i,.int k' j,.int k'' m] h0 .junk [] []:=by
 intro o os hc w0 L g hp w a r hx hrd _;obtain⟨t,x,lo,hi,mx,e,ho,hl1,hl2,hl3,rfl,hu,hn⟩:=Ym hc;obtain⟨lo,rfl⟩:∃z,lo=some z:=Option.isSome_iff_exists.1 hl1.symm;obtain⟨hi,rfl⟩:∃z,hi=some z:=Option.isSome_iff_exists.1 hl2.symm;obtain⟨mx,rfl⟩:∃z,mx=some z:=Option.isSome_iff_exists.1 hl3.symm;obtain⟨d,d2,d3,d4,_⟩:=hx;obtain⟨cb,p,cap,ec,hv,_⟩:=Y0 d;rw[hv] at d;obtain⟨_,hc1,hc2,hcut⟩:=QH ec d;have hb:(Instr.sliceBounds true len cap (some (.int k i)) (some (.int k' j)) (some (.int k'' m))).run P w=.ok (i.toNat,j.toNat,m.toNat) w:=by
  simp only[Instr.sliceBounds,Sem.run_bind,Sem.run_pure,Result.andThen_ok,Zf k'' m cap _ (by omega) (by omega),Zf k' j m.toNat _ (by omega) (by omega),Zf k i j.toNat _ h1 (by omega)]
 rw[Yo ho hu hn hv (l:=i.toNat) (h:=j.toNat) (m:=m.toNat) (by grind [Xh])];exact Out.here r (.junk _ _)
theorem ZaZ(sz:Nat)(x:AVal)(hx0:x=.nils∨x=.cap0∨(∃b o l e,x=.sl b o l e)∨∃e nn s rows,x=.rsl e nn s rows)(k k':IntKind)(h0:Hp) :
  OpSem P GL (.sliceS sz false true true) [x,.int k 0,.int k' 0] h0 .cap0 [] []:=by
 intro o os hc w0 L g hp w a r hx hrd _;obtain⟨t,y,lo,hi,mx,e,ho,hl1,hl2,hl3,rfl,hu,hn⟩:=Ym hc;obtain rfl:lo=none:=by cases lo<;>first|rfl|cases hl1
 obtain⟨hi,rfl⟩:∃z,hi=some z:=Option.isSome_iff_exists.1 hl2.symm;obtain⟨mx,rfl⟩:∃z,mx=some z:=Option.isSome_iff_exists.1 hl3.symm;obtain⟨d,d2,d3,_⟩:=hx;have hsh:∃p len cap,a.eval y=.slice p len cap:=by
  generalize hu1:a.eval y=u1 at d;rcases hx0 with rfl|rfl|⟨_,_,_,_,rfl⟩|⟨_,_,_,_,rfl⟩
  ·cases d; exact⟨_,_,_,rfl⟩
  ·cases d; exact⟨_,_,_,rfl⟩
  ·cases d<;>exact⟨_,_,_,rfl⟩
  ·cases d; exact⟨_,_,_,rfl⟩
 obtain⟨p,len,cap,hv⟩:=hsh;have hb:(Instr.sliceBounds true len cap none (some (.int k 0)) (some (.int k' 0))).run P w=.ok (0,0,0) w:=by
  rfl
 rw[Yo ho hu hn hv (l:=0) (h:=0) (m:=0) (by simpa[Xh d2,Xh d3] using hb)];exact Out.here r (.cap0 _ _)
end
theorem Ql{α:Type}{b:Bool}{x:Option α}{v:α}(h:(bif b then x else none)=some v):b=true∧x=some v:=by
 grind
theorem Qz{α:Type}{b:Bool}{x y v:α}(h:(bif b then x else y)=v):(b=true∧x=v)∨(b=false∧y=v):=by
 grind
def Xbf:Bool→AVal→Bool
 |true,.str _=>true
 |false,.int _ _=>true
 |_,_=>false
theorem Ya3{s:Bool}{k:AVal}(h:Xbf s k=true):KeyKind s k:=by
 cases s<;>cases k<;>simp_all [Xbf,KeyKind]
def Zx:List (List AVal)→Bool
 |[]=>true
 |r::rs=>r.all AVal.cell&&Zx rs
theorem YF:∀ {rs:List (List AVal)},Zx rs=true→∀row∈rs,∀x∈row,AVal.cell x=true
 |[],_,_,hm,_,_=>by cases hm
 |r::rs,h,row,hm,x,hx=>by
  simp only[Zx,Bool.and_eq_true] at h;cases hm with
  |head=>exact List.all_eq_true.1 h.1 x hx
  |tail _ hm=>exact YF h.2 row hm x hx
def Zp(sz:Nat)(σ:List ABlk):AVal→Option (List (List AVal)×List Nat)
 |.rsl _ _ s rows=>bif Nat.beq s sz then some (rows,[]) else none
 |.nils=>some ([],[])
 |.cap0=>some ([],[])
 |.sl b off len _=>match hget σ b with
  |.rows s rs=>bif Nat.beq s sz&&Nat.ble (off+len) rs.length then some (cut off (off+len) rs,[b]) else none
  |_=>none
 |.bsl b j len _=>match hget σ b with
  |.box row=>match chunk sz len (dropN j row) with
   |some ys=>some (ys,[b])
   |none=>none
  |_=>none
 |.str s=>bif Nat.beq sz 1 then some (s.map λc=>[.int .u8 c.toNat],[]) else none
 |_=>none
theorem Zz{sz:Nat}{σ:List ABlk}{y:AVal}{ys:List (List AVal)}{rd:List Nat}(h:Zp sz σ y=some (ys,rd)):SrcIs (hp σ) sz y ys rd:=by
 unfold Zp at h;split at h
 ·replace h:=Ql h; obtain⟨hb,h⟩:=h
  have:=YNB hb; subst this;cases h; exact .row _ _ _
 ·cases h; exact .nils
 ·cases h; exact .cap0
 ·split at h
  ·rename_i hg
   replace h:=Ql h; obtain⟨hb,h⟩:=h
   simp only[Bool.and_eq_true] at hb;have:=YNB hb.1;subst this;cases h;exact .own _ _ _ _ _ (XW hg (by simp)) (YNL hb.2)
  ·cases h
 ·split at h
  ·rename_i hg;split at h
   ·rename_i hc; cases h; rw[Zat] at hc; exact .box _ _ _ _ _ _ (XW hg (by simp)) hc
   ·cases h
  ·cases h
 ·replace h:=Ql h; obtain⟨hb,h⟩:=h
  cases h; exact .str _ (YNB hb)
 ·cases h
def X5:AVal→AVal
 |.rsl true _ _ []=>.cap0
 |x=>x
theorem Yah(x:AVal)(g:Gm)(u:Value)(d:g.den x u):g.den (X5 x) u:=by
 unfold X5;split
 ·obtain⟨p,cap,q1,_,q3⟩:=X0 d;have:=q3 rfl;rw[q1,this];exact .cap0 _ _
 ·exact d
def XaP:AVal→Bool
 |.nils=>true
 |.cap0=>true
 |.sl ..=>true
 |.rsl ..=>true
 |_=>false
theorem ZaB{x:AVal}(h:XaP x=true):x=.nils∨x=.cap0∨(∃b o l e,x=.sl b o l e)∨∃e nn sz rows,x=.rsl e nn sz rows:=by
 cases x<;>simp_all [XaP]
def mapOf(σ:List ABlk):AVal→Option (List (AVal×AVal)×List Nat)
 |.map b=>match hget σ b with
  |.map es=>some (es,[b])
  |_=>none
 |.rmap es=>some (es,[])
 |.nilmap=>some ([],[])
 |_=>none
theorem ZbR{σ:List ABlk}{m:AVal}{es:List (AVal×AVal)}{rd:List Nat}(h:mapOf σ m=some (es,rd)):MapIs (hp σ) m es rd:=by
 unfold mapOf at h;split at h
 ·split at h
  ·rename_i hg; cases h; exact .own _ _ (Qat hg)
  ·cases h
 ·cases h; exact .row _
 ·cases h; exact .nil
 ·cases h
def Zs(xs:List AVal)(σ:List ABlk):SRes:=match xs with
  |[.bool true,x,_]=>.ok x [] []
  |[.bool false,_,y]=>.ok y [] []
  |_=>.stop
def Yr(sz:Nat)(xs:List AVal)(σ:List ABlk):SRes:=match xs with
  | [.rsl e n s rows,.int _ (.ofNat i)]=>bif Nat.beq s sz then (match nth rows i with
   |some row=>.ok (.rptr row 0) [] []
   | none=>.stop) else .stop
  | [.sl b o len _,.int _ (.ofNat i)]=>bif Nat.blt i len then (match hget σ b with
   |.rows s _=>bif Nat.beq s sz then .ok (.ptr b (o+i) 0) [b] [] else .stop
   | _=>.stop) else .stop
  |_=>.stop
def XJ(xs:List AVal)(σ:List ABlk):SRes:=match xs with
  |[.str s,.int _ (.ofNat i)]=>match nth s i with
   |some c=>.ok (.int .u8 c.toNat) [] []
   |none=>.stop
  |_=>.stop
def YT(agg:Bool)(n:Nat)(xs:List AVal)(σ:List ABlk):SRes:=match xs with
  |[.ptr b i j]=>match hget σ b with
   |.rows _ rs=>match nth rs i with
    |some row=>match partA agg j n row with
     |some v=>.ok v [b] []
     |none=>.stop
    |none=>.stop
   |_=>.stop
  |xs=>mstep (.load agg n) xs σ
def Yn(n:Nat)(xs:List AVal)(σ:List ABlk):SRes:=match xs with
  |[.ptr b i j,x]=>match hget σ b with
   |.rows sz rs=>match nth rs i with
    |some row=>match cellsOf x with
     | some cs=>bif Nat.beq cs.length n then (match splice j cs row with
      |some row'=>match ZO i row' rs with
       |some rs'=>.ok .junk [] [(b,.rows sz rs')]
       |none=>.stop
      | none=>.stop) else .stop
     |none=>.stop
    |none=>.stop
   |_=>.stop
  |xs=>mstep (.store n) xs σ
def YE(sz:Nat)(xs:List AVal)(σ:List ABlk):SRes:=match xs with
  |[.rsl e n s rows,.int _ (.ofNat i)]=>bif Nat.beq s sz&&Nat.ble i rows.length then .ok (.rsl e n sz (cut i rows.length rows)) [] [] else .stop
  |[.sl b off len e,.int _ (.ofNat i)]=>match hget σ b with
   |.rows s _=>bif Nat.beq s sz then (bif Nat.blt i len then .ok (.sl b (off+i) (len-i) e) [b] [] else bif Nat.beq i len then (bif Nat.beq sz 3 then .ok (.sl b (off+len) 0 e) [b] [] else .ok (.rsl false (Nat.blt 0 len) sz []) [] []) else .stop) else .stop
   |_=>.stop
  |[.nils,.int _ (.ofNat 0)]=>.ok .nils [] []
  |_=>.stop
def Yx(sz:Nat)(xs:List AVal)(σ:List ABlk):SRes:=match xs with
  |[.rsl e n s rows,.int _ (.ofNat i)]=>bif Nat.beq s sz&&Nat.ble i rows.length then .ok (.rsl false n sz (cut 0 i rows)) [] [] else .stop
  |[.sl b off len e,.int _ (.ofNat i)]=>match hget σ b with
   |.rows s _=>bif Nat.beq s sz&&Nat.ble i len then .ok (.sl b off i false) [b] [] else .stop
   |_=>.stop
  |[.nils,.int _ (.ofNat 0)]=>.ok .nils [] []
  |_=>.stop
def Xx(sz:Nat)(xs:List AVal)(σ:List ABlk):SRes:=match xs with
  |[.rsl e n s rows,.int _ (.ofNat i),.int _ (.ofNat j)]=>bif Nat.beq s sz&&(Nat.ble i j&&Nat.ble j rows.length) then .ok (.rsl false n sz (cut i j rows)) [] [] else .stop
  |[.sl b off len e,.int _ (.ofNat i),.int _ (.ofNat j)]=>match hget σ b with
   |.rows s rs=>bif Nat.beq s sz&&((Nat.blt i j||Nat.beq i 0)&&(Nat.ble j len||(!(Nat.beq sz 0)&&Nat.ble (off+j) rs.length))) then .ok (.sl b (off+i) (j-i) false) [b] [] else .stop
   |_=>.stop
  |_=>.stop
def Yy(xs:List AVal)(σ:List ABlk):SRes:=match xs with
  |[.str s,.int _ (.ofNat i),.int _ (.ofNat j)]=>bif Nat.ble i j&&Nat.ble j s.length then .ok (.str ((s.take j).drop i)) [] [] else .stop
  |_=>.stop
def Qt(xs:List AVal)(σ:List ABlk):SRes:=match xs with
  |[.str s,.int _ (.ofNat i)]=>bif Nat.ble i s.length then .ok (.str (s.drop i)) [] [] else .stop
  |_=>.stop
def Zu(xs:List AVal)(σ:List ABlk):SRes:=match xs with
  |[.str s,.int _ (.ofNat i)]=>bif Nat.ble i s.length then .ok (.str (s.take i)) [] [] else .stop
  |_=>.stop
def QV(n:Nat)(by_:Nat)(z:List AVal)(xs:List AVal)(σ:List ABlk):SRes:=match xs with
  |[.int _ (.ofNat len)]=>bif Nat.ble (by_*len) (2 ^ 48)&&Nat.blt len (2 ^ 62) then .ok (.sl σ.length 0 len true) [] [(σ.length,.rows n (List.replicate len z))] else .stop
  |_=>.stop
def Zn(n by_:Nat)(σ:List ABlk)(rs:List (List AVal))(kill:List (Nat×ABlk))(y:AVal):SRes:=match Zp n σ y with
 |some (ys,rd)=>bif Zx ys&&Nat.ble ((2*(rs.length+ys.length)+192)*by_) (2 ^ 48) then
   .ok (.sl σ.length 0 (rs.length+ys.length) false) rd (kill++[(σ.length,.rows n (rs++ys))]) else .stop
 |none=>.stop
def Xch(n by_:Nat)(σ:List ABlk)(b off len:Nat)(rs:List (List AVal))(y:AVal):SRes:=match Zp n σ y with
 | some (ys,rd)=>bif Zx ys then (bif Nat.ble (off + len + ys.length) rs.length then .ok (.sl b off (len + ys.length) false) rd [(b,.rows n (over (off + len) ys rs))]
   else bif Nat.beq off 0&&(Nat.ble len rs.length&&(!(rd.contains b)&&Nat.ble ((2*(len+ys.length)+192)*by_) (2 ^ 48))) then
    .ok (.sl σ.length 0 (len + ys.length) false) rd [(b,.dead),(σ.length,.rows n (rs.take len ++ ys))] else .stop) else .stop
 |none=>.stop
def YbB(n by_:Nat)(σ:List ABlk)(b len:Nat)(rs:List (List AVal))(y:AVal):SRes:=match Zp n σ y with
 | some (ys,rd)=>bif Zx ys && Nat.ble ((2 * (len + ys.length) + 192) * by_) (2 ^ 48) then (bif Nat.ble (len + ys.length) rs.length then .ok (.sl b 0 (len + ys.length) false) rd [(b,.full n (over len ys rs))]
   else bif Nat.ble len rs.length then .ok (.sl σ.length 0 (len + ys.length) false) (b :: rd) [(σ.length,.rows n (rs.take len ++ ys))] else .stop) else .stop
 |none=>.stop
def Qa6:List (List AVal)→Bool
 |[]=>true
 |r::rs=>roL r&&Qa6 rs
theorem Za7:∀ {rs:List (List AVal)},Qa6 rs=true→∀(i:Nat) (row:List AVal),rs[i]?=some row→∀(j:Nat) (x:AVal),row[j]?=some x→x.ro=true
 |r::rs,h,0,row,e,j,x,ex=>by
  simp at e; subst e;simp only[Qa6,Bool.and_eq_true] at h;have:∀(l:List AVal),roL l=true→∀(j:Nat) (x:AVal),l[j]?=some x→x.ro=true:=by
   intro l
   induction l<;>grind [roL]
  exact this _ h.1 j x ex
 |r::rs,h,i+1,row,e,j,x,ex=>by
  simp only[Qa6,Bool.and_eq_true] at h;exact Za7 h.2 i row (by simpa using e) j x ex
theorem YaY{P:Program}{GL:Globs}(n by_:Nat)(z:List AVal)(nn:Bool)(y:AVal)(rs ys:List (List AVal))(rd:List Nat)(h0:Hp)(hy0:SrcIs h0 n y ys rd)(hro:Qa6 (rs++ys)=true)(hroom:(2*(rs.length+ys.length)+192)*by_≤2 ^ 48) :
  OpSem P GL (.append n by_ z) [.rsl true nn n rs,y] h0 (.rsl false false n (rs++ys)) rd []:=by
 intro o os hc w0 L g h w a r hx hrd _;generalize ho:o.op=op at hc;cases hc with
 |append t t' e ox oy _ _ v _ ht htd hsz hby hz hvs hcells hby0 hn0=>
  obtain⟨d,hd,hni⟩:=htd;obtain⟨d1,d2,_⟩:=hx;generalize hu1:a.eval ox=u1 at d1;generalize hu2:a.eval oy=u2 at d2;obtain⟨p1,cap1,oldv,e1,f1,ra1,_⟩:=YaU (P:=P) (h0:=h0) r.drew (.row true nn rs) (λb hb=>by cases hb) d1;obtain⟨newv,e2,f2,ra2⟩:=Xac (P:=P) r hy0 hrd d2;obtain⟨newv',_,f2',ra2'⟩:=Xac (P:=P) r.drew hy0 hrd d2;have hlen2:(Builtin.lenOf u2).run P w=.ok ys.length w:=e2;have hcap:cap1=rs.length:=by
   rw[e1] at d1;cases d1<;>simp_all
  subst hcap;by_cases hys:ys=[]
  ·subst hys;have hnv:newv.toList=[]:=by have:=ra2.1; simp at this; simp[this]
   have hrun:(Builtin.append_ #[t,t'] o.type #[.slice p1 rs.length rs.length,u2]).run P w=.ok (.slice p1 rs.length rs.length) w:=by
    obtain⟨k1,k2⟩:=(Qy ht hd hni hsz hby hz hby0 (base:=p1) (len:=rs.length) (cap:=rs.length) (newv:=newv) hlen2 o.type).1 (by simp) f2;cases p1 with
    |none=>exact k1 rfl
    |some ad=>exact k2 ad w rfl (by rw[hnv]; rfl)
   rw[Xy ho (by rw[hu1]; exact e1) hu2 hrun];refine Out.here r ?_;rw[List.append_nil,←e1];cases d1 with
   |rsl _ _ _ _ _ a' cap blk off f q1 q2 q3 q4 q5 q6 q7 q8=>exact .rsl _ _ _ _ _ a' cap blk off f (λh=>by cases h) (λh=>by cases h) q3 q4 q5 q6 q7 q8
  ·have hpos:0<ys.length:=List.length_pos_iff.2 hys;obtain⟨nc,hnc,hrun⟩:=(Qy ht hd hni hsz hby hz hby0 (base:=p1) (len:=rs.length) (cap:=rs.length) (newv:=newv') hlen2 o.type).2 (by omega) hroom oldv (by rw[←e1]; exact f1) f2';rw[Xy ho (by rw[hu1]; exact e1) hu2 hrun];obtain⟨q1,q2⟩:=Q3 (c:=Builtin.zeroCells v.cells (nc-(rs.length+ys.length))) ra1 ra2';generalize harr:oldv++newv'++Builtin.zeroCells v.cells (nc-(rs.length+ys.length))=arr at q2;have hsize:(rs++ys).length*n≤arr.size:=by
    rw[←harr];simp only[Array.size_append,ra1.1,ra2'.1,List.length_append,Nat.add_mul];omega
   obtain⟨hle,hrep⟩:=r.drew.allocM (.cells arr e);refine⟨_,hle,hrep,?_⟩;have hl:rs.length+ys.length=(rs++ys).length:=(List.length_append).symm;rw[hl];refine .rsl _ _ _ _ _ _ nc w.heap.size 0 (λi j=>(arr[i*n+j]?).getD undef) (λh=>by cases h) (λh=>by cases h) (λ_=>rfl) (λh=>by cases h) (by rw[←hl]; exact hnc) q1 (λi j hi hj=>?_) (λi row j x e1' e2'=>?_)
   ·have hlt:i*n+j<arr.size:=by
     have:(i+1)*n≤(rs++ys).length*n:=Nat.mul_le_mul_right n hi;rw[Nat.succ_mul] at this; omega
    rw[Nat.zero_add];unfold mcell;have:mup g.M w.drew.heap.size (.cells arr e) w.heap.size=some (.cells arr e):=by simp[mup]
    grind
   ·have hi:i<(rs++ys).length:=(YLG e1').1;have hj:j<n:=by grind
    have hlt:i*n+j<arr.size:=by
     have:(i+1)*n≤(rs++ys).length*n:=Nat.mul_le_mul_right n hi;rw[Nat.succ_mul] at this; omega
    have hdn:=q2 i row j x arr[i*n+j] e1' e2' (by simp[hlt]);have:(arr[i*n+j]?).getD undef=arr[i*n+j]:=by simp[hlt]
    show Den _ _ x ((arr[i*n+j]?).getD undef);rw[this];exact(Den.mono hle.m hdn (CLe.refl _)).ro (Za7 hro i row e1' j x e2') _
def Yh(n:Nat)(by_:Nat)(xs:List AVal)(σ:List ABlk):SRes:=match xs with
  |[.rsl true false s rs,y]=>match Zp n σ y with
   |some (ys,rd)=>bif Nat.beq s n&&(Qa6 (rs++ys)&&Nat.ble ((2*(rs.length+ys.length)+192)*by_) (2 ^ 48)) then .ok (.rsl false false n (rs++ys)) rd [] else .stop
   |none=>.stop
  |[x,y]=>match X5 x with
   |.nils=>Zn n by_ σ [] [] y
   |.cap0=>match Zp n σ y with
    |some ([],rd)=>bif XaP x then .ok x rd [] else .stop
    |_=>Zn n by_ σ [] [] y
   |.sl b off len _=>match hget σ b with
    |.rows s rs=>bif Nat.beq s n then (bif Nat.beq rs.length (len+off) then Zn n by_ σ (rs.drop off) [(b,.dead)] y else Xch n by_ σ b off len rs y) else .stop
    |.full s rs=>bif Nat.beq s n&&Nat.beq off 0 then YbB n by_ σ b len rs y else .stop
    |_=>.stop
   |x=>match Zp n σ y with
    |some ([],rd)=>bif XaP x then .ok x rd [] else .stop
    |_=>.stop
  |_=>.stop
def YP(n:Nat)(z:List AVal)(xs:List AVal)(σ:List ABlk):SRes:=match xs with
  |[.sl b off len _]=>match hget σ b with
   |.rows s rs=>bif Nat.beq s n&&Nat.ble (off+len) rs.length then .ok .junk [] [(b,.rows n (over off (List.replicate len z) rs))] else .stop
   |_=>.stop
  |[.nils]=>.ok .junk [] []
  |[.cap0]=>.ok .junk [] []
  |[.rsl _ _ _ []]=>.ok .junk [] []
  |_=>.stop
def XA(xs:List AVal)(σ:List ABlk):SRes:=match xs with
  |[.sl _ _ len _,.int _ (.ofNat i),.int _ (.ofNat j),.int _ (.ofNat m)]=>bif Nat.ble i j&&(Nat.ble j m&&Nat.ble m len) then .ok .junk [] [] else .stop
  |_=>.stop
def Zt(sz:Nat)(xs:List AVal)(σ:List ABlk):SRes:=match xs with
  | [x,.int _ (.ofNat i),.int _ (.ofNat j)]=>bif Nat.beq i 0 && Nat.beq j 0 then (bif XaP x then .ok .cap0 [] [] else .stop) else (match x with
   |.rsl _ nn s rows=>bif Nat.beq s sz&&(Nat.beq i j&&Nat.ble i rows.length) then .ok (.rsl true nn s (cut 0 i rows)) [] [] else .stop
   | _=>.stop)
  |_=>.stop
def QJ(str:Bool)(ok:Bool)(z:AVal)(xs:List AVal)(σ:List ABlk):SRes:=match xs with
  | [m,q]=>bif Xbf str q then (match mapOf σ m with
   |some (es,rd)=>match alook q es with
    |some r=>.ok (lookV ok z r) rd []
    |none=>.stop
   | none=>.stop) else .stop
  |_=>.stop
def ZK(str:Bool)(xs:List AVal)(σ:List ABlk):SRes:=match xs with
  | [.map b,q,x]=>bif Xbf str q then (match hget σ b with
   |.map es=>match aput q x es with
    |some es'=>.ok .junk [] [(b,.map es')]
    |none=>.stop
   | _=>.stop) else .stop
  |_=>.stop
def Xai(xs:List AVal)(σ:List ABlk):SRes:=match xs with
  |[.iter b]=>match hget σ b with
   |.siter s pos=>bif Nat.blt pos s.length then .ok (.tup [.bool true,.int .i64 pos,.int .i32 (Utf8.decode ⟨s.toArray⟩ pos).1]) [] [(b,.siter s (pos+(Utf8.decode ⟨s.toArray⟩ pos).2))]
    else .ok (.tup [.bool false]) [b] []
   |_=>.stop
  |_=>.stop
def cstep0(k:MK)(xs:List AVal)(σ:List ABlk):SRes:=
 match k with
 |.pick=>Zs xs σ
 |.idxAddrS sz=>Yr sz xs σ
 |.idxStr=>XJ xs σ
 |.load agg n=>YT agg n xs σ
 |.store n=>Yn n xs σ
 |.sliceS sz true false false=>YE sz xs σ
 |.sliceS sz false true false=>Yx sz xs σ
 |.sliceS sz true true false=>Xx sz xs σ
 |.sliceS _ true true true=>XA xs σ
 |.sliceS sz false true true=>Zt sz xs σ
 |.clearS n z=>YP n z xs σ
 |.sliceStr true true=>Yy xs σ
 |.sliceStr true false=>Qt xs σ
 |.sliceStr false true=>Zu xs σ
 |.makeS n by_ z=>QV n by_ z xs σ
 |.append n by_ _=>Yh n by_ xs σ
 |.lookup str ok z=>QJ str ok z xs σ
 |.mapUpd str=>ZK str xs σ
 |.next=>Xai xs σ
 |k=>mstep k xs σ
theorem Za8{α:Type}:∀ {l l':List α} {i:Nat} {c:α},ZO i c l=some l'→l'=l.set i c
 |[],_,_,_,h=>by simp[ZO] at h
 |x::l,l',0,c,h=>by simp[ZO] at h; subst h; rfl
 |x::l,l',i+1,c,h=>by
  simp only[ZO] at h;cases e:ZO i c l with
  |none=>simp[e] at h
  |some r=>simp[e] at h; subst h; rw[Za8 e]; rfl
theorem Xt{σ:List ABlk}{b sz:Nat}{rs:List (List AVal)}(h:hget σ b=.rows sz rs):hp σ b=some (.rows sz rs):=XW h (by simp)
theorem Qay{P:Program}{GL:Globs}{n by_:Nat}{z:List AVal}{σ:List ABlk}{x:AVal}{rs:List (List AVal)}{kill:List (Nat×ABlk)}{y v:AVal}{rd:List Nat}{up:List (Nat×ABlk)}(hx:VecIs (hp σ) n x rs kill)(h:Zn n by_ σ rs kill y=.ok v rd up):OpSem P GL (.append n by_ z) [x,y] (hp σ) v rd up:=by
 unfold Zn at h;split at h
 ·rename_i hy
  replace h:=Qc h; obtain⟨hs,h⟩:=h
  simp only[Bool.and_eq_true] at hs
  grind [Qa7,Z6,Zz,YF,YNL]
 ·cases h
theorem Qch{P:Program}{GL:Globs}{n by_:Nat}{z:List AVal}{σ:List ABlk}{b off len:Nat}{ex:Bool}{rs:List (List AVal)}{y v:AVal}{rd:List Nat}{up:List (Nat×ABlk)}(hb:hp σ b=some (.rows n rs))(h:Xch n by_ σ b off len rs y=.ok v rd up):OpSem P GL (.append n by_ z) [.sl b off len ex,y] (hp σ) v rd up:=by
 unfold Xch at h;split at h
 ·rename_i hy
  replace h:=Qc h; obtain⟨hc,h⟩:=h
  replace h:=Qz h
  rcases h with ⟨hs,h⟩|⟨_,h⟩
  ·grind [Qaw,Zz,YF,YNL]
  ·replace h:=Qc h; obtain⟨hs,h⟩:=h
   simp only[Bool.and_eq_true,Bool.not_eq_true'] at hs
   grind [YNB,ZaY,Z6,YNL,Zz,YF]
 ·cases h
theorem Xb4{P:Program}{GL:Globs}{n by_:Nat}{z:List AVal}{σ:List ABlk}{b len:Nat}{ex:Bool}{rs:List (List AVal)}{y v:AVal}{rd:List Nat}{up:List (Nat×ABlk)}(hb:hp σ b=some (.full n rs))(h:YbB n by_ σ b len rs y=.ok v rd up):OpSem P GL (.append n by_ z) [.sl b 0 len ex,y] (hp σ) v rd up:=by
 unfold YbB at h;split at h
 ·rename_i ys rd' hy
  replace h:=Qc h; obtain⟨hc,h⟩:=h
  simp only[Bool.and_eq_true] at hc
  replace h:=Qz h
  rcases h with ⟨hs,h⟩|⟨hs,h⟩
  ·cases h;exact QaS n by_ z y b len ex rs ys _ _ hb (Zz hy) (YF hc.1) (YNL hs)
  ·replace h:=Qc h; obtain⟨hl,h⟩:=h
   cases h;have hq:¬len+ys.length≤rs.length:=λq=>by rw[Nat.ble_eq_true_of_le q] at hs; cases hs
   exact ZaT n by_ z y b len ex rs ys _ _ _ (Z6 σ) hb (Zz hy) (YF hc.1) (YNL hl) (Nat.lt_of_not_le hq) (YNL hc.2)
 ·cases h
theorem ZbC{P:Program}{GL:Globs}{n by_:Nat}{z:List AVal}{xs:List AVal}{σ:List ABlk}{v:AVal}{rd:List Nat}{up:List (Nat×ABlk)}(h:Yh n by_ xs σ=.ok v rd up):OpSem P GL (.append n by_ z) xs (hp σ) v rd up:=by
 unfold Yh at h;split at h
 ·split at h
  ·rename_i hy
   replace h:=Qc h; obtain⟨hs,h⟩:=h
   simp only[Bool.and_eq_true] at hs
   grind [YNB,YaY,Zz,YNL]
  ·cases h
 ·rename_i x y _;split at h
  ·rename_i hx; refine OpSem.weak (Yah x) ?_; rw[hx]; exact Qay .nils h
  ·rename_i hx;split at h
   ·rename_i hy
    replace h:=Qc h; grind [Yab,ZaB,Zz]
   ·refine OpSem.weak (Yah x) ?_; rw[hx]; exact Qay .cap0 h
  ·rename_i b off len ex hx;refine OpSem.weak (Yah x) ?_;rw[hx];split at h
   ·rename_i s rs hg
    replace h:=Qc h; obtain⟨hs,h⟩:=h
    have:=YNB hs; subst this
    replace h:=Qz h
    rcases h with ⟨hq,h⟩|⟨_,h⟩
    ·exact Qay (.own _ _ _ _ _ (Xt hg) ((YNB hq).trans (Nat.add_comm _ _))) h
    ·exact Qch (Xt hg) h
   ·rename_i s rs hg
    replace h:=Qc h; obtain⟨hs,h⟩:=h
    simp only[Bool.and_eq_true] at hs;have h1:=YNB hs.1;have h2:=YNB hs.2;subst h1; subst h2;exact Xb4 (XW hg (by simp)) h
   ·cases h
  ·refine OpSem.weak (Yah x) ?_;split at h
   ·rename_i hy
    replace h:=Qc h; grind [Yab,ZaB,Zz]
   ·cases h
 ·cases h
theorem Qb5{P:Program}{GL:Globs}{n:Nat}{z:List AVal}{xs:List AVal}{σ:List ABlk}{v:AVal}{rd:List Nat}{up:List (Nat×ABlk)}(h:YP n z xs σ=.ok v rd up):OpSem P GL (.clearS n z) xs (hp σ) v rd up:=by
 unfold YP at h;split at h
 ·split at h
  ·rename_i hg
   replace h:=Qc h; obtain⟨hs,h⟩:=h
   simp only[Bool.and_eq_true] at hs
   grind [YNB,Ycz,Xt,YNL]
  ·cases h
 ·cases h; exact YX _ _ _ _ (.inl rfl)
 ·cases h; simp[YX]
 ·cases h; simp[YX]
 ·cases h
theorem Ybm{P:Program}{GL:Globs}{n:Nat}{xs:List AVal}{σ:List ABlk}{v:AVal}{rd:List Nat}{up:List (Nat×ABlk)}(h:XA xs σ=.ok v rd up):OpSem P GL (.sliceS n true true true) xs (hp σ) v rd up:=by
 unfold XA at h;split at h
 ·replace h:=Qc h; obtain⟨hs,h⟩:=h
  simp only[Bool.and_eq_true] at hs;cases h<;>simp_all [QaT]
 ·cases h
theorem Xbm{P:Program}{GL:Globs}{n:Nat}{xs:List AVal}{σ:List ABlk}{v:AVal}{rd:List Nat}{up:List (Nat×ABlk)}(h:Zt n xs σ=.ok v rd up):OpSem P GL (.sliceS n false true true) xs (hp σ) v rd up:=by
 unfold Zt at h;split at h
 ·rename_i x k i k' j
  replace h:=Qz h
  rcases h with ⟨hq,h⟩|⟨_,h⟩
  ·simp only[Bool.and_eq_true] at hq;have h1:=YNB hq.1;have h2:=YNB hq.2;subst h1; subst h2
   replace h:=Qc h; grind [ZaZ,ZaB]
  ·split at h
   ·replace h:=Qc h; obtain⟨hs,h⟩:=h
    simp only[Bool.and_eq_true] at hs;have h1:=YNB hs.1;have h2:=YNB hs.2.1;subst h1; subst h2;cases h;exact XaY _ _ _ _ _ _ (Int.ofNat i) (Int.natCast_nonneg _) (Int.ofNat_le.2 (YNL hs.2.2)) _
   ·cases h
 ·cases h
theorem Zr{P:Program}{GL:Globs}:StepOk P GL cstep0:=by
 intro k xs σ v rd up h;unfold cstep0 at h;simp only[Zs,Yr,XJ,YT,Yn,YE,Yx,Xx,Yy,Qt,Zu,QV,QJ,ZK,Xai] at h;split at h
 ·split at h
  ·cases h; exact Xcb _ _ _
  ·cases h; exact Qcb _ _ _
  ·cases h
 ·split at h
  ·replace h:=Qc h; obtain⟨hs,h⟩:=h
   have:=YNB hs; subst this;split at h
   ·rename_i hn; cases h; rw[YU] at hn; exact ZaI _ _ _ _ _ _ _ (Int.natCast_nonneg _) hn _
   ·cases h
  ·replace h:=Qc h; obtain⟨hlt,h⟩:=h
   split at h
   ·rename_i hg
    replace h:=Qc h; obtain⟨hs,h⟩:=h
    have:=YNB hs; subst this;cases h;exact QaH _ _ _ _ _ _ _ _ (Int.natCast_nonneg _) (Int.ofNat_lt.2 (YNL hlt)) _ (Xt hg)
   ·cases h
  ·cases h
 ·split at h
  ·split at h
   ·rename_i hn; cases h; rw[YU] at hn; exact Zca _ _ _ _ (Int.natCast_nonneg _) hn _
   ·cases h
  ·cases h
 ·split at h
  ·split at h
   ·rename_i hg;split at h
    ·rename_i hn;split at h
     ·rename_i hv; cases h; rw[YU] at hn; exact Xbh _ _ _ _ _ _ _ _ _ _ (Xt hg) hn hv
     ·cases h
    ·cases h
   ·cases h
  ·exact Yam h
 ·split at h
  ·split at h
   ·rename_i hg;split at h
    ·rename_i hn;split at h
     ·rename_i hc
      replace h:=Qc h; obtain⟨hl,h⟩:=h
      split at h
      ·rename_i hs;split at h
       ·rename_i hst;cases h;rw[YU] at hn;exact YaZ _ _ _ _ _ _ _ _ _ _ _ _ (Xt hg) hn hc (YNB hl) hs (Za8 hst)
       ·cases h
      ·cases h
     ·cases h
    ·cases h
   ·cases h
  ·exact Yam h
 ·split at h
  ·replace h:=Qc h; obtain⟨hs,h⟩:=h
   simp only[Bool.and_eq_true] at hs;have:=YNB hs.1; subst this;cases h;exact Zby _ _ _ _ _ _ (Int.natCast_nonneg _) (Int.ofNat_le.2 (YNL hs.2)) _
  ·split at h
   ·rename_i hg
    replace h:=Qc h; obtain⟨hs,h⟩:=h
    have:=YNB hs; subst this
    replace h:=Qz h; rcases h with ⟨hlt,h⟩|⟨_,h⟩
    ·cases h;exact XaI _ _ _ _ _ _ _ _ (Int.natCast_nonneg _) (Int.ofNat_lt.2 (YNL hlt)) _ (Xt hg)
    ·replace h:=Qc h; obtain⟨he,h⟩:=h
     have:=YNB he;subst this
     replace h:=Qz h; rcases h with ⟨h3,h⟩|⟨_,h⟩
     ·cases h;have h4:=YNB h3;exact Yax _ _ _ _ _ _ _ _ rfl (by omega) _ (Xt hg)
     ·cases h;exact YaD _ _ _ _ _ _ _ rfl _
   ·cases h
  ·cases h; exact ZaD _ _ _
  ·cases h
 ·split at h
  ·replace h:=Qc h; obtain⟨hs,h⟩:=h
   simp only[Bool.and_eq_true] at hs;have:=YNB hs.1; subst this;cases h;exact Qbx _ _ _ _ _ _ (Int.natCast_nonneg _) (Int.ofNat_le.2 (YNL hs.2)) _
  ·split at h
   ·rename_i hg
    replace h:=Qc h; obtain⟨hs,h⟩:=h
    simp only[Bool.and_eq_true] at hs;have:=YNB hs.1; subst this;cases h;exact YaI _ _ _ _ _ _ _ _ (Int.natCast_nonneg _) (Int.ofNat_le.2 (YNL hs.2)) _ (Xt hg)
   ·cases h
  ·cases h; exact QaC _ _ _
  ·cases h
 ·split at h
  ·replace h:=Qc h; obtain⟨hs,h⟩:=h
   simp only[Bool.and_eq_true] at hs;have:=YNB hs.1; subst this;cases h;exact QaY _ _ _ _ _ _ _ _ (Int.natCast_nonneg _) (Int.ofNat_le.2 (YNL hs.2.1)) (Int.ofNat_le.2 (YNL hs.2.2)) _
  ·split at h
   ·rename_i hg
    replace h:=Qc h; obtain⟨hs,h⟩:=h
    simp only[Bool.and_eq_true,Bool.or_eq_true] at hs;have:=YNB hs.1; subst this;cases h;refine Zax _ _ _ _ _ _ _ _ _ _ (Int.natCast_nonneg _) ?_ ?_ _ (Xt hg)
    ·rcases hs.2.1 with q|q
     ·exact .inl (Int.ofNat_lt.2 (YNL q))
     ·have:=YNB q; subst this; exact .inr ⟨rfl,Int.natCast_nonneg _⟩
    ·rcases hs.2.2 with q|q
     ·exact .inl (Int.ofNat_le.2 (YNL q))
     ·simp only[Bool.and_eq_true,Bool.not_eq_true'] at q;exact .inr ⟨(λe0=>by rw[e0] at q; cases q.1),YNL q.2⟩
   ·cases h
  ·cases h
 ·exact Ybm h
 ·exact Xbm h
 ·exact Qb5 h
 ·split at h
  ·replace h:=Qc h; obtain⟨hs,h⟩:=h
   simp only[Bool.and_eq_true] at hs;cases h;exact Xbx _ _ _ _ _ (Int.natCast_nonneg _) (Int.ofNat_le.2 (YNL hs.1)) (Int.ofNat_le.2 (YNL hs.2)) _
  ·cases h
 ·split at h
  ·replace h:=Qc h; obtain⟨hs,h⟩:=h
   cases h;exact XaT _ _ _ (Int.natCast_nonneg _) (Int.ofNat_le.2 (YNL hs)) _
  ·cases h
 ·split at h
  ·replace h:=Qc h; obtain⟨hs,h⟩:=h
   cases h;exact YaT _ _ _ (Int.natCast_nonneg _) (Int.ofNat_le.2 (YNL hs)) _
  ·cases h
 ·split at h
  ·replace h:=Qc h; obtain⟨hs,h⟩:=h
   simp only[Bool.and_eq_true] at hs;cases h;exact YcA _ _ _ _ _ (YNL hs.1) (YNL hs.2) _ _ (Z6 σ)
  ·cases h
 ·exact ZbC h
 ·split at h
  ·replace h:=Qc h; obtain⟨hs,h⟩:=h
   split at h
   ·rename_i hm;split at h
    ·rename_i hl; cases h; exact Qca _ _ _ _ _ _ _ _ _ (ZbR hm) (Ya3 hs) hl
    ·cases h
   ·cases h
  ·cases h
 ·split at h
  ·replace h:=Qc h; obtain⟨hs,h⟩:=h
   split at h
   ·rename_i hm;split at h
    ·rename_i hl; cases h; exact Zcb _ _ _ _ _ _ _ (Qat hm) (Ya3 hs) hl
    ·cases h
   ·cases h
  ·cases h
 ·split at h
  ·split at h
   ·rename_i hg
    replace h:=Qz h; rcases h with ⟨hlt,h⟩|⟨hlt,h⟩
    ·cases h;exact(YbX _ _ _ _ (XW hg (by simp))).1 (YNL hlt)
    ·cases h;refine(YbX _ _ _ _ (XW hg (by simp))).2 ?_;exact Nat.le_of_not_lt (λq=>by rw[show Nat.blt _ _=true from Nat.ble_eq_true_of_le q] at hlt; cases hlt)
   ·cases h
  ·cases h
 ·exact Yam h
def holdB:List (Bool×Bool)→Bool
 |[]=>true
 |(true,true)::r=>holdB r
 |(false,false)::r=>holdB r
 |_=>false
def Yaj:Cons→Bool
 |[]=>true
 | (G,(x,y)) :: r=>(bif holdB G then (match x,y with
  |true,true=>true
  |false,false=>true
  | _,_=>false) else holdNot G || false) && Yaj r
where holdNot:List (Bool×Bool)→Bool
 |[]=>false
 |(true,false)::_=>true
 |(false,true)::_=>true
 |_::r=>holdNot r
theorem YaA:∀ {c:List (Bool×Bool)},Yaj.holdNot c=true→¬Hold c
 |[],h=>by simp[Yaj.holdNot] at h
 |(true,false)::r,h=>λq=>by have:=q _ (List.mem_cons_self ..); cases this
 |(false,true)::r,h=>λq=>by have:=q _ (List.mem_cons_self ..); cases this
 |(true,true)::r,h=>λq=>YaA (c:=r) h (λp hp=>q p (List.mem_cons_of_mem _ hp))
 |(false,false)::r,h=>λq=>YaA (c:=r) h (λp hp=>q p (List.mem_cons_of_mem _ hp))
theorem Zi{H:Prop}:∀(xs:List AVal),All2 (Unw H) xs xs
 |[]=>trivial
 |x::xs=>⟨.inl rfl,Zi xs⟩
end Go.Ah
end
section
namespace Go.Ah
section
variable {P:Program} {GL:Globs} {Z:PZ}
def roRs:List (List AVal)→Bool
 |[]=>true
 |r::rs=>roL r&&roRs rs
theorem XbV:∀ {rs:List (List AVal)},roRs rs=true→∀(i:Nat) (row:List AVal),rs[i]?=some row→∀(j:Nat) (x:AVal),row[j]?=some x→x.ro=true
 |r::rs,h,0,row,e,j,x,ex=>by
  simp at e; subst e;simp only[roRs,Bool.and_eq_true] at h;exact QaB h.1 ex
 |r::rs,h,i+1,row,e,j,x,ex=>by
  simp only[roRs,Bool.and_eq_true] at h;exact XbV h.2 i row (by simpa using e) j x ex
theorem XbF{w:World}{b:Nat}{arr:Array Value}{T:TypeId}(h:w.heap[b]?=some (.cells arr T (0,0)))(off:Nat) :
  (w.freeze ⟨b,off,none⟩ 1).heap=w.heap.setIfInBounds b (.cells arr T (off,off+1)):=by
 have hlt:b<w.heap.size:=(Array.getElem?_eq_some_iff.1 h).1;have he:=(Array.getElem?_eq_some_iff.1 h).2;apply Array.ext
 ·simp[World.freeze]
 ·intro i h1 h2;by_cases e:b=i
  ·subst e;simp[World.freeze,Array.getElem_modify,he]
  ·have e1:(w.heap.setIfInBounds b (.cells arr T (off,off+1)))[i]=w.heap[i]'(by simpa using h2):=by grind
   rw[e1];simp[World.freeze,Array.getElem_modify,e]
theorem ZcT(b n:Nat)(rs:List (List AVal))(h0:Hp)(hb:h0 b=some (.rows 1 rs))(hn0:n≠0)(hlen:rs.length=n)(hro:roRs rs=true) :
  OpSem P GL (.x .same) [.sl b 0 n true] h0 (.rsl true true 1 rs) [] [(b,.dead)]:=by
 intro o os hc w0 L g h w a r hx hrd hup';have hb':h b=some (.rows 1 rs):=by simp_all
 generalize ho:o.op=op at hc;cases hc with
 |x _ _ _ hc=>
 cases hc with
 |same s e x hs he=>
  obtain⟨d1,_⟩:=hx;generalize hu1:a.eval x=u1 at d1;cases d1 with
  |slv=>exact(hn0 rfl).elim
  |sle=>exact(hn0 rfl).elim
  |sl _ _ _ _ _ cb cap ec hv q1 q2 q3=>
  obtain⟨e1,arr,T,ho',hs2,hle,hrow,hden⟩:=r.rowsBlk hb' ec hv;have hcap:=q3 rfl;have hsh:w.shape? cb.blk=some (T,arr.size):=by simp[World.shape?,ho']
  obtain⟨gle,rep⟩:=r.toM hb' rfl ec hv (w':=w.freeze ⟨cb.blk,arr.size,none⟩ 1) rfl rfl rfl (XbF ho' arr.size);have hrun:(execOp a.eval o).run P w=.ok (.value (.slice (some ⟨cb.blk,cb.base+0*cb.sz,none⟩) n cap)) (w.freeze ⟨cb.blk,arr.size,none⟩ 1):=by
   simp[execOp,ho,convert,run_underlying hs,run_underlying he,hu1,markStringish,hsh]
  rw[hrun];refine⟨_,gle,rep,?_⟩;rw[e1,Nat.zero_mul,Nat.add_zero];rw[hcap,←hlen];refine .rsl _ true true 1 rs _ rs.length cb.blk cb.base (λi j=>(arr[cb.base+(i*1+j)]?).getD undef) (λ_=>rfl) (λ_=>rfl) (λ_=>rfl) (λh=>by cases h) (Nat.le_refl _) hrow (λi j hi hj=>?_) (λi row j x e2 e3=>?_)
  ·have hlt:cb.base+(i*1+j)<arr.size:=by omega
   show mcell (mup g.M cb.blk _) cb.blk _=_;unfold mcell;rw[Nat.mul_one] at hlt ⊢;simp[mup,hlt]
  ·have hi:i<rs.length:=(YLG e2).1;have hj:j<1:=by have:=hrow i row e2; have:=(YLG e3).1; omega
   have hlt:cb.base+(i*1+j)<arr.size:=by omega
   have hq:(arr[cb.base+(i*1+j)]?).getD undef=arr[cb.base+(i*1+j)]:=by rw[Array.getElem?_eq_getElem hlt]; rfl
   show Den _ _ x ((arr[cb.base+(i*1+j)]?).getD undef);rw[hq];have hd:=hden i row j x arr[cb.base+(i*1+j)] e2 e3 (by rw[Nat.add_assoc]; exact Array.getElem?_eq_getElem hlt);exact(Den.mono gle.m hd (CLe.refl _)).ro (XbV hro i row e2 j x e3) _
def Qa1:Nat→List AVal→List AVal→Option Bool
 |0,[],[]=>some true
 |n+1,.str a::xs,.str b::ys=>match Qa1 n xs ys with
  |some r=>some (a==b&&r)
  |none=>none
 |_,_,_=>none
theorem QaG{g:Gm}{e:TypeId}(he:P.underlying e=some .string)(xs ys:Array Value)(w:World):∀(n k:Nat) (az bs:List AVal) (r:Bool),Qa1 n az bs=some r →
  (∀i x,az[i]?=some x→∃v,xs[k+i]?=some v∧g.den x v)→(∀i x,bs[i]?=some x→∃v,ys[k+i]?=some v∧g.den x v)→(Op.eqItems (9998+1) e 1 xs ys (List.range' k n)).run P w=.ok r w
 |0,k,az,bs,r,hr,_,_=>by
  cases az<;>cases bs<;>simp only[Qa1] at hr<;>first|(cases hr; rfl)|cases hr
 |n+1,k,az,bs,r,hr,hx,hy=>by
  unfold Qa1 at hr;split at hr
  ·rename_i h; cases h
  ·rename_i n' a az b bs h;cases h;split at hr
   ·rename_i r' hr';cases hr;obtain⟨v,hv1,hv2⟩:=hx 0 _ rfl;obtain⟨u,hu1,hu2⟩:=hy 0 _ rfl;rw[Nat.add_zero] at hv1 hu1;have ih:=QaG he xs ys w n (k+1) az bs r' hr' (λi x e=>by have:=hx (i+1) x (by simpa using e); rwa [show k+1+i=k+(i+1) by omega]) (λi x e=>by have:=hy (i+1) x (by simpa using e); rwa [show k+1+i=k+(i+1) by omega]);have hpart:∀(arr:Array Value) (z:Value),arr[k]?=some z→(part e arr (k*1)).run P w=.ok z w:=by
     intro arr z hz;have ha:isAgg? P e=some false:=by simp[isAgg?,he]
     simp_all [part,Qx]
    cases hv2 with
    |str _ s=>
    cases hu2 with
    |str _ s'=>
    simp only[List.range'_succ,Op.eqItems,Sem.run_bind,hpart xs _ hv1,hpart ys _ hu1,Result.andThen_ok,run_equalIn_string w 9998 e s s' he];have hb:(s.toList==s'.toList)=(s.data.toList==s'.data.toList):=by rw[ByteArray.toList_eq,ByteArray.toList_eq]
    rw[hb];cases hq:s.data.toList==s'.data.toList
    ·simp
    ·simpa using ih
   ·cases hr
  ·cases hr
theorem Xc4(neq:Bool)(n:Nat)(az bs:List AVal)(r:Bool)(hr:Qa1 n az bs=some r)(h0:Hp):OpSem P GL (.x (.eqT neq n)) [.agg az,.agg bs] h0 (.bool (bif neq then !r else r)) [] []:=by
 intro o os hc w0 L g h w a r' hx _ _;generalize ho:o.op=op at hc;cases hc with
 |x _ _ _ hc=>
 cases hc with
 |eqT _ t t' e x y _ i ht he hi h1 hg=>
  obtain⟨d1,d2,_⟩:=hx;generalize hu1:a.eval x=u1 at d1;generalize hu2:a.eval y=u2 at d2;cases d1 with
  |agg _ _ vs q1 q2=>
  cases d2 with
  |agg _ _ us q3 q4=>
  have hrun:(Op.equalIn 10000 t (.agg vs) (.agg us)).run P w=.ok r w:=by
   rw[show (10000:Nat)=(9998+1)+1 from rfl,run_equalIn_array w (9998+1) vs us ht hi,h1,List.range_eq_range'];refine QaG (g:=g) he vs us w n 0 az bs r hr (λi x e=>?_) (λi x e=>?_)
   ·have hi:i<vs.size:=by have:=(YLG e).1; omega
    exact⟨vs[i],by simp[hi],q2 i x _ e (by simp[hi])⟩
   ·have hi:i<us.size:=by have:=(YLG e).1; omega
    exact⟨us[i],by simp[hi],q4 i x _ e (by simp[hi])⟩
  cases neq
  ·rw[Xu ho hu1 hu2 (run_eqGuard_agg w _ t x y vs us hg) (z:=.bool r) (by show (binOp .eql t _ _).run P w=_; rw[run_eql_struct,hrun]; rfl)];exact Out.here r' (.bool _ _)
  ·rw[Xu ho hu1 hu2 (run_eqGuard_agg w _ t x y vs us hg) (z:=.bool (!r)) (by show (binOp .neq t _ _).run P w=_; rw[run_neq_struct,hrun]; rfl)];exact Out.here r' (.bool _ _)
theorem ZaS{t e:TypeId}{n:Nat}(ht:P.underlying t=some (.array n e)){p:Option Addr}{len cap:Nat}(h:n≤len)(w:World):(Instr.arrayAt t (.slice p len cap)).run P w=.ok (.pointer p) w:=by
 have:¬len<n:=by omega
 simp[Instr.arrayAt,run_underlying ht,this]
theorem Xbv(n:Nat)(ex nn:Bool)(sz:Nat)(rows:List (List AVal))(hn:n≤rows.length)(hr:rows≠[])(h0:Hp):OpSem P GL (.x (.arrP n)) [.rsl ex nn sz rows] h0 (.rptr rows.flatten 0) [] []:=by
 intro o os hc w0 L g h w a r hx hrd _;generalize ho:o.op=op at hc;cases hc with
 |x _ _ _ hc=>
 cases hc with
 |arrP t x _ e ht=>
  obtain⟨d1,_⟩:=hx;generalize hu1:a.eval x=u1 at d1;cases d1 with
  |rsl _ _ _ _ _ p cap blk off f h1 h2 h3 h4 h5 h6 h7 h8=>
  have hp:=h3 hr;subst hp;have hrun:(execOp a.eval o).run P w=.ok (.value (.pointer (some ⟨blk,off,none⟩))) w:=by
   simp[execOp,ho,hu1,ZaS ht hn]
  rw[hrun];obtain⟨l1,l2⟩:=QaJ h6;have:=Den.rptr (M:=g.M) g.c rows.flatten 0 blk off (λk=>f (k / sz) (k % sz)) (λk hk=>by
   rw[l1] at hk
   grind [Nat.div_lt_iff_lt_mul,Nat.mod_lt,Nat.div_add_mod]) (λk x e=>by
   obtain⟨i,j,row,rfl,e2,e3⟩:=l2 k x e;have hj:j<sz:=by have:=h6 i row e2; have:=(YLG e3).1; omega
   have hdiv:(i*sz+j)/sz=i:=by grind [Nat.mul_comm,Nat.mul_add_div,Nat.div_eq_of_lt]
   have hmod:(i*sz+j)%sz=j:=by rw[Nat.mul_comm,Nat.mul_add_mod,Nat.mod_eq_of_lt hj]
   show Den g.M noOwn x (f _ _);rw[hdiv,hmod];exact h8 i row j x e2 e3)
  exact Out.here r this
theorem Ybv(n b off len:Nat)(ex:Bool)(hn:n≤len)(hn0:n≠0)(h0:Hp):OpSem P GL (.x (.arrP n)) [.sl b off len ex] h0 (.ptr b off 0) [] []:=by
 intro o os hc w0 L g h w a r hx hrd _;generalize ho:o.op=op at hc;cases hc with
 |x _ _ _ hc=>
 cases hc with
 |arrP t x _ e ht=>
  obtain⟨d1,_⟩:=hx;generalize hu1:a.eval x=u1 at d1;cases d1 with
  |slv=>omega
  |sle=>omega
  |sl _ _ _ _ _ cb cap ec hv q1 q2 q3=>
  have hrun:(execOp a.eval o).run P w=.ok (.value (.pointer (some ⟨cb.blk,cb.base+off*cb.sz,none⟩))) w:=by
   simp[execOp,ho,hu1,ZaS ht hn]
  rw[hrun];exact Out.here r (.ptr _ _ _ _ _ ec)
theorem Qbh(n b i:Nat)(rs:List (List AVal))(h0:Hp)(hb:h0 b=some (.rows 1 rs))(hi:i+n≤rs.length)(hn0:n≠0):OpSem P GL (.load true n) [.ptr b i 0] h0 (.agg (((rs.drop i).take n).flatten)) [b] []:=by
 intro o os hc w0 L g h w a r hx hrd _;have hb':h b=some (.rows 1 rs):=by simp_all
 generalize ho:o.op=op at hc;cases hc with
 |load t x _ _ ha hn=>
  have d:=hx.1;generalize hu:a.eval x=u0 at d;cases d with
  |ptr _ _ _ _ cb ec=>
  cases hvirt:cb.virt with
  |true=>have:=(r.virtRows hb' ec hvirt).2; subst this; simp at hi; omega
  |false=>
  obtain⟨e1,arr,T,ho',hs,hle,hrow,hden⟩:=r.rowsBlk hb' ec hvirt;obtain⟨l1,_⟩:=X4 ha hn (T:=T) (fr:=(0,0)) (QE ho') (cb.base+i*1+0);have l1:=l1 rfl (λ_=>by omega);have hrun:(execOp a.eval o).run P w=.ok (.value (.agg (arr.extract (cb.base+i*1+0) (cb.base+i*1+0+n)))) w:=by
   rw[e1] at hu;simp only[execOp,ho,hu,Instr.loadAt,Instr.sureAddr,Sem.run_bind,Sem.run_pure,Result.andThen_ok,l1]
  rw[hrun];have hrows:∀(q:Nat) (row:List AVal),((rs.drop i).take n)[q]?=some row→row.length=1:=λq row e=>by
   rw[List.getElem?_take] at e;split at e
   ·rw[List.getElem?_drop] at e; exact hrow _ row e
   ·cases e
  obtain⟨f1,f2⟩:=QaJ hrows;refine Out.here r (.agg _ _ _ ?_ (λk x v e2 e3=>?_))
  ·rw[f1]; simp; omega
  ·obtain⟨q,j,row,rfl,e4,e5⟩:=f2 k x e2;have hj:j=0:=by have:=hrows q row e4; have:=(YLG e5).1; omega
   subst hj;rw[List.getElem?_take] at e4;split at e4
   ·rw[List.getElem?_drop] at e4;refine hden (i+q) row 0 x v e4 e5 ?_;rw[Array.getElem?_extract] at e3;split at e3
    ·rw[←e3]; congr 1; omega
    ·cases e3
   ·cases e4
def key2:AVal→AVal→Option Bool
 |.agg [.str a,.int k m],.agg [.str b,.int k' n]=>bif ikEq k k' then some (a==b&&m==n) else none
 |_,_=>none
def is2:AVal→Bool
 |.agg [.str _,.int _ _]=>true
 |_=>false
def alook2(k:AVal):List (AVal×AVal)→Option (Option AVal)
 |[]=>some none
 |(q,x)::es=>match key2 k q with
  |some true=>some (some x)
  |some false=>alook2 k es
  |none=>none
theorem ZaP{g:Gm}{x:AVal}{v:Value}(h:is2 x=true)(d:g.den x v):∃s k n,x=.agg [.str s,.int k n]∧∃t:ByteArray,t.data.toList=s∧v=.agg #[.string t,.int k n]:=by
 unfold is2 at h;split at h
 ·rename_i s k n;cases d with
  |agg _ _ vs h1 h2=>
   have h1:vs.size=2:=h1;obtain⟨t,e1,e2⟩:=QP (g:=g) (h2 0 _ vs[0] rfl (by simp[h1]));have e3:=Xh (g:=g) (h2 1 _ vs[1] rfl (by simp[h1]));refine⟨s,k,n,rfl,t,e2,?_⟩
   congr 1
   apply Array.ext
   ·simpa using h1
   ·intro i a1 a2
    match i with
    |0=>simpa using e1
    |1=>simpa using e3
    |i+2=>simp at a2; omega
 ·cases h
theorem Zb9{t:TypeId}(ht:KeySI P t)(a b:ByteArray)(k:IntKind)(m n:Int)(w:World) :
  (Op.equal t (.agg #[.string a,.int k m]) (.agg #[.string b,.int k n])).run P w=.ok (a==b&&m==n) w:=by
 obtain⟨f0,f1,i,hu,n0,n1,o0,o1,u0,u1,hst⟩:=ht;have hfo:P.fieldsOf t = #[f0,f1]:=by simp[Program.fieldsOf,hu]
 have a0:isAgg? P f0.type=some false:=by simp[isAgg?,u0]
 have a1:isAgg? P f1.type=some false:=by simp[isAgg?,u1]
 have e0:∀d,(Op.equalIn (d+1) f0.type (.string a) (.string b)).run P w=.ok (a==b) w:=by
  intro d; simp[Op.equalIn,run_underlying u0]
 have e1:∀d,(Op.equalIn (d+1) f1.type (.int k m) (.int k n)).run P w=.ok (m==n) w:=by
  intro d; simp[Op.equalIn,run_underlying u1]
 have key:∀d,(Op.equalIn (d+1+1) t (.agg #[.string a,.int k m]) (.agg #[.string b,.int k n])).run P w=.ok (a==b&&m==n) w:=by
  intro d;rw[run_equalIn_struct w (d+1) t _ _ (by rw[hfo]; exact hu) hst,hfo];have p0:∀(x y:Value),(part f0.type #[x,y] 0).run P w=.ok x w:=by intro x y; simp[part,Qx a0]
  have p1:∀(x y:Value),(part f1.type #[x,y] 1).run P w=.ok y w:=by intro x y; simp[part,Qx a1]
  simp only[List.toList_toArray,Op.eqFields];rw[YIP n0,o0];simp only[Sem.run_bind,p0,Result.andThen_ok,e0];cases h1:(a==b)
  ·simp
  ·simp only[Bool.not_true,Bool.false_eq_true,if_false];rw[YIP n1,o1];simp only[Sem.run_bind,p1,Result.andThen_ok,e1];cases h2:(m==n)<;>simp
 exact key 9998
theorem Xa7{t:TypeId}(ht:KeySI P t)(a:ByteArray)(k:IntKind)(m:Int)(b:Bool)(w:World):(Instr.checkKey b 10000 t (.agg #[.string a,.int k m])).run P w=.ok () w:=by
 obtain⟨f0,f1,i,hu,n0,n1,o0,o1,u0,u1,hst⟩:=ht;have a0:isAgg? P f0.type=some false:=by simp[isAgg?,u0]
 have a1:isAgg? P f1.type=some false:=by simp[isAgg?,u1]
 have key:∀d,(Instr.checkKey b (d+1+1) t (.agg #[.string a,.int k m])).run P w=.ok () w:=by
  intro d;simp[Instr.checkKey,run_underlying hu,n0,n1,part,Qx a0,Qx a1,o0,o1,run_underlying u0,run_underlying u1]
 exact key 9998
theorem find2{g:Gm}{t:TypeId}(ht:KeySI P t){k:AVal}{u:Value}(hk:is2 k=true)(hu:g.den k u)(w:World):∀(es:List (AVal×AVal)) (l:List MapEntry) (i:Nat) (r:Option AVal),EntriesOk g es l→alook2 k es=some r →
  (r=none→(Instr.findAsking t u l i).run P w=.ok none w)∧(∀x,r=some x→∃j v,(Instr.findAsking t u l i).run P w=.ok (some (j,v)) w∧g.den x v)
 |[],l,i,r,⟨hl,_⟩,h=>by
  have:l=[]:=List.length_eq_zero_iff.1 (by simpa using hl);subst this;simp only[alook2] at h; cases h;exact⟨λ_=>rfl,λx e=>by cases e⟩
 |(q,x)::es,l,i,r,⟨hl,hd⟩,h=>by
  cases l with
  |nil=>simp at hl
  |cons e l=>
   obtain⟨d1,d2⟩:=hd 0 q x e rfl rfl;simp only[alook2] at h;obtain⟨s,ik,m,rfl,sb,hs,rfl⟩:=ZaP hk hu;cases hk2:key2 (.agg [.str s,.int ik m]) q with
   |none=>simp[hk2] at h
   |some b=>
    have hq:is2 q=true:=by
     unfold key2 at hk2;split at hk2
     ·rename_i he1 he2; rfl
     ·cases hk2
    obtain⟨s',ik',m',rfl,sb',hs',he⟩:=ZaP hq d1;have hik:ik=ik':=by
     simp only[key2] at hk2;cases hi:ikEq ik ik' with
     |false=>rw[hi] at hk2; cases hk2
     |true=>exact YQ hi
    subst hik;have hb:(sb==sb'&&m==m')=b:=by
     simp only[key2] at hk2;have hrefl:ikEq ik ik=true:=by cases ik<;>simp_all [ikEq]
     rw[hrefl] at hk2;cases hk2;rw[←hs,←hs']
     congr 1
     simp[beq_toListBytes,ByteArray.toList_eq]
    have hrun:=Zb9 ht sb sb' ik m m' w;rw[hb] at hrun;cases b with
    |true=>
     simp only[hk2] at h; cases h;refine⟨λe=>(by cases e),λy ey=>?_⟩;cases ey;exact⟨i,e.val,by simp[Instr.findAsking,he,hrun],d2⟩
    |false=>
     simp only[hk2] at h;obtain⟨i1,i2⟩:=find2 ht hk hu w es l (i+1) r ⟨by simpa using hl,λj k' x' e' q1 q2=>hd (j+1) k' x' e' (by simpa using q1) (by simpa using q2)⟩ h;refine⟨λe0=>?_,λy ey=>?_⟩
     ·have:=i1 e0; simp[Instr.findAsking,he,hrun,this]
     ·obtain⟨j,v,k1,k2⟩:=i2 y ey;exact⟨j,v,by simp[Instr.findAsking,he,hrun,k1],k2⟩
theorem Xbu{g:Gm}{t:TypeId}(ht:KeySI P t){k:AVal}{u:Value}(hk:is2 k=true)(hu:g.den k u)(w:World){es:List (AVal×AVal)}{l:List MapEntry}{r:Option AVal}(hes:EntriesOk g es l)(h:alook2 k es=some r) :
  (r=none→(Instr.findKey t u l).run P w=.ok none w)∧(∀x,r=some x→∃j v,(Instr.findKey t u l).run P w=.ok (some (j,v)) w∧g.den x v):=by
 obtain⟨f1,f2⟩:=find2 ht hk hu w es l 0 r hes h;obtain⟨f0,f1',i,hu',_⟩:=ht;obtain⟨s,ik,m,rfl,sb,hs,rfl⟩:=ZaP hk hu;have hfn:l≠[]→Instr.findNow (.struct #[f0,f1']) (.agg #[.string sb,.int ik m]) l 0=none:=by
  intro hne;cases l with
  |nil=>exact(hne rfl).elim
  |cons e l=>simp[Instr.findNow,Instr.sameNow]
 by_cases hl:l=[]
 ·subst hl;have:es=[]:=List.length_eq_zero_iff.1 (by simpa using hes.1.symm);subst this;simp only[alook2] at h; cases h;exact⟨λ_=>by simp[Instr.findKey,run_underlying hu',Instr.findNow],λx e=>by cases e⟩
 ·have hrun:(Instr.findKey t (.agg #[.string sb,.int ik m]) l).run P w=(Instr.findAsking t (.agg #[.string sb,.int ik m]) l).run P w:=by
   simp[Instr.findKey,run_underlying hu',hfn hl]
  rw[hrun];exact⟨f1,f2⟩
theorem ZcA(ok:Bool)(z m k:AVal)(es:List (AVal×AVal))(rd:List Nat)(r:Option AVal)(h0:Hp)(hm:MapIs h0 m es rd)(hk:is2 k=true)(hr:alook2 k es=some r):OpSem P GL (.x (.look ok z)) [m,k] h0 (lookV ok z r) rd []:=by
 intro o os hc w0 L g h w a rp hx hrd _;generalize ho:o.op=op at hc;cases hc with
 |x _ _ _ hc=>
 cases hc with
 |look t kt e x i _ v _ ht hkt hz haz=>
  obtain⟨d1,d2,_⟩:=hx;generalize hu1:a.eval x=u1 at d1;generalize hu2:a.eval i=u2 at d2;have hmap:∃arr:Array MapEntry,((u1=.map none∧arr = #[])∨∃b clock,u1=.map (some b)∧w.heap[b]?=some (.map arr clock))∧EntriesOk g es arr.toList:=by
   cases hm with
   |own b _ hb=>
    have hb':h b=some (.map es):=by simp_all
    cases d1 with
    |map _ _ cb ec=>
    cases hvirt:cb.virt with
    |true=>have:=rp.hollow b _ cb hb' rfl ec hvirt; cases this
    |false=>
    obtain⟨_,_,o',ho',arr,clock,rfl,hs,hden⟩:=rp.own b _ cb hb' rfl ec hvirt;exact⟨arr,.inr ⟨_,clock,rfl,ho'⟩,by simpa using hs,λi k x e e1 e2=>hden i k x e e1 (by simpa using e2)⟩
   |row _=>
    cases d1 with
    |rmap _ _ blk arr clock hM hs h1 h2=>
    exact⟨arr,.inr ⟨_,clock,rfl,rp.stable _ _ hM⟩,by simpa using hs,λi k x e e1 e2=>⟨(h1 i k x e e1 (by simpa using e2)).mono (MLe.refl _) (CLe.noOwn _),(h2 i k x e e1 (by simpa using e2)).mono (MLe.refl _) (CLe.noOwn _)⟩⟩
   |nil=>
    cases d1;exact⟨#[],.inl ⟨rfl,rfl⟩,rfl,by simp⟩
  obtain⟨arr,hmv,hes⟩:=hmap;obtain⟨q1,q2⟩:=Xbu hkt hk d2 w hes hr;have hck:(Instr.checkKey arr.isEmpty 10000 kt u2).run P w=.ok () w:=by
   obtain⟨s,ik,mm,rfl,sb,hs,rfl⟩:=ZaP hk d2;exact Xa7 hkt sb ik mm _ w
  have hend:∀v' b,g.den (r.getD z) v'→b=r.isSome→g.den (lookV ok z r) (if ok then .tuple #[v',.bool b] else v'):=by
   intro v' b h2 h3;subst h3;cases ok
   ·exact h2
   ·refine .tup _ _ _ rfl (λi x v e1 e2=>?_)
    match i with
    |0=>simp at e1 e2; subst e1 e2; exact h2
    |1=>simp at e1 e2; subst e1 e2; exact .bool _ _
    |n+2=>simp at e1
  have fin:∃y,(Instr.lookup t u1 u2 ok).run P w=.ok y w∧g.den (lookV ok z r) y:=by
   cases r with
   |none=>
    refine⟨_,?_,hend v false (Qan haz) rfl⟩;have q1:=q1 rfl;unfold Instr.lookup;rcases hmv with ⟨rfl,rfl⟩|⟨b,clock,rfl,hb⟩<;>simp_all [getObj,Sem.run,run_underlying,QO]
   |some x=>
    obtain⟨j,v',g1,g2⟩:=q2 x rfl;refine⟨_,?_,hend v' true g2 rfl⟩;unfold Instr.lookup;rcases hmv with ⟨rfl,rfl⟩|⟨b,clock,rfl,hb⟩<;>simp_all [getObj,Sem.run,run_underlying]
  obtain⟨y,f1,f2⟩:=fin;simp_all [execOp,Out.here]
theorem YcT(b:Nat)(k x:AVal)(es:List (AVal×AVal))(h0:Hp)(hb:h0 b=some (.map es))(hk:is2 k=true)(hr:alook2 k es=some none):OpSem P GL (.x .upd) [.map b,k,x] h0 .junk [] [(b,.map (es++[(k,x)]))]:=by
 intro o os hc w0 L g h w a r hx _ hup';have hb':h b=some (.map es):=by simp_all
 have main:∀(t kt e:TypeId) (om ok ox:Operand),P.underlying t=some (.map kt e)→KeySI P kt→DenL g [.map b,k,x] (List.map a.eval [om,ok,ox]) →
   ∃w',(Instr.mapUpdate t (a.eval om) (a.eval ok) (a.eval ox)).run P w=.ok () w'∧Rep GL w0 L g (hup h b (.map (es++[(k,x)]))) w':=by
  intro t kt e om ok ox ht hkt ⟨d1,d2,d3,_⟩;generalize hu1:a.eval om=u1 at d1;generalize hu2:a.eval ok=u2 at d2;generalize hu3:a.eval ox=u3 at d3;cases d1 with
  |map _ _ cb ec=>
  cases hvirt:cb.virt with
  |true=>have:=r.hollow b _ cb hb' rfl ec hvirt; cases this
  |false=>
  obtain⟨_,_,o',ho',arr,clock,rfl,hs,hden⟩:=r.own b _ cb hb' rfl ec hvirt;have hg:(getObj cb.blk).run P w=.ok (.map arr clock) w:=by simp[getObj,Sem.run,ho']
  have hst:∀o'',(setObj cb.blk o'').run P w=.ok () { w with heap:=w.heap.setIfInBounds cb.blk o'' }:=by intro o''; simp[setObj,Sem.run,ho']
  have hes:EntriesOk g es arr.toList:=⟨by simpa using hs,λi k x e e1 e2=>hden i k x e e1 (by simpa using e2)⟩;have q1:=(Xbu hkt hk d2 w hes hr).1 rfl;have hck:(Instr.checkKey false 10000 kt u2).run P w=.ok () w:=by
   obtain⟨s,ik,mm,rfl,sb,hs,rfl⟩:=ZaP hk d2;exact Xa7 hkt sb ik mm _ w
  refine⟨_,by simp only[Instr.mapUpdate,Sem.run_bind,run_underlying ht,Result.andThen_ok,hg,hck,q1,hst]; rfl,?_⟩;refine r.write hb' rfl ec hvirt rfl rfl rfl rfl rfl ?_;refine⟨_,_,rfl,by simp[hs],λi k' x' e' e1 e2=>?_⟩;rw[List.getElem?_append] at e1;split at e1
  ·rename_i hi;refine hden i k' x' e' e1 ?_;rw[Array.getElem?_push] at e2;rw[YIN (by omega)] at e2;exact e2
  ·rename_i hi;have:i=es.length:=by
    have:=(YLG e1).1;simp at this; omega
   subst this;simp at e1;rw[Array.getElem?_push,YIP (by omega)] at e2;cases e2;exact⟨e1.1▸d2,e1.2▸d3⟩
 generalize ho:o.op=op at hc;cases hc with
 |x _ _ _ hc=>
 cases hc with
 |upd t kt e om ok ox ht hkt=>
  obtain⟨w',f1,f2⟩:=main t kt e om ok ox ht hkt hx;simp only[execOp,ho,Sem.run_bind,f1,Result.andThen_ok,Sem.run_pure];exact⟨g,Gm.Le.refl g,f2,rfl⟩
 |ins t kt e om ok ox ht hkt=>
  obtain⟨w',f1,f2⟩:=main t kt e om ok ox ht hkt hx;simp only[execOp,ho,Sem.run_bind,f1,Result.andThen_ok,Sem.run_pure];exact⟨g,Gm.Le.refl g,f2,rfl⟩
end
end Go.Ah
end
section
namespace Go.Ah
def mdl:IntKind→Nat
 |.u8=>256
 |.u16=>65536
 |.u32=>4294967296
 |.u64=>18446744073709551616
 |_=>0
theorem YM{k:IntKind}(h:mdl k≠0)(n:Nat):k.wrap (n:Int)=((n%mdl k:Nat):Int):=by
 cases k<;>simp_all [mdl,IntKind.wrap,IntKind.signed,IntKind.bits]
theorem Xah{n:Nat}(h:n<9223372036854775808):IntKind.i64.wrap (n:Int)=(n:Int):=by
 have e:(n:Int)%18446744073709551616=n:=by omega
 simp[IntKind.wrap,IntKind.signed,IntKind.bits,e];omega
theorem Zar{k:IntKind}{m n:Nat}(hm:m<mdl k)(hn:n<mdl k) :
  bits .and k m n=((m &&& n:Nat):Int)∧bits .or k m n=((m ||| n:Nat):Int)∧bits .xor k m n=((m ^^^ n:Nat):Int):=by
 have key:∀(b:Nat),mdl k=2 ^ b→k.bits=b→mdl k≠0→bits .and k m n=((m &&& n:Nat):Int)∧bits .or k m n=((m ||| n:Nat):Int)∧bits .xor k m n=((m ^^^ n:Nat):Int):=by
  intro b hb hk h0;rw[hb] at hm hn;have h1:(BitVec.ofInt k.bits (m:Int)).toNat=m:=by
   rw[hk,BitVec.ofInt_natCast,BitVec.toNat_ofNat]; exact Nat.mod_eq_of_lt hm
  have h2:(BitVec.ofInt k.bits (n:Int)).toNat=n:=by
   rw[hk,BitVec.ofInt_natCast,BitVec.toNat_ofNat]; exact Nat.mod_eq_of_lt hn
  refine⟨?_,?_,?_⟩
  ·show k.wrap ((BitVec.ofInt k.bits (m:Int) &&& BitVec.ofInt k.bits (n:Int)).toNat:Int)=_;rw[BitVec.toNat_and,h1,h2,YM h0,hb,Nat.mod_eq_of_lt (Nat.and_lt_two_pow _ hn)]
  ·show k.wrap ((BitVec.ofInt k.bits (m:Int) ||| BitVec.ofInt k.bits (n:Int)).toNat:Int)=_;rw[BitVec.toNat_or,h1,h2,YM h0,hb,Nat.mod_eq_of_lt (Nat.or_lt_two_pow hm hn)]
  ·show k.wrap ((BitVec.ofInt k.bits (m:Int) ^^^ BitVec.ofInt k.bits (n:Int)).toNat:Int)=_;rw[BitVec.toNat_xor,h1,h2,YM h0,hb,Nat.mod_eq_of_lt (Nat.xor_lt_two_pow hm hn)]
 cases k with
 |u8=>exact key 8 rfl rfl (by decide)
 |u16=>exact key 16 rfl rfl (by decide)
 |u32=>exact key 32 rfl rfl (by decide)
 |u64=>exact key 64 rfl rfl (by decide)
 |_=>simp[mdl] at hm
def binU(op:BinOp)(k:IntKind)(M m n:Nat):Option AVal:=match op with
 |.add=>some (.int k (.ofNat ((m+n)%M)))
 |.mul=>some (.int k (.ofNat ((m*n)%M)))
 |.sub=>bif Nat.ble n m then some (.int k (.ofNat ((m-n)%M))) else none
 |.and=>bif Nat.blt m M&&Nat.blt n M then some (.int k (.ofNat (Nat.land m n))) else none
 |.or=>bif Nat.blt m M&&Nat.blt n M then some (.int k (.ofNat (Nat.lor m n))) else none
 |.xor=>bif Nat.blt m M&&Nat.blt n M then some (.int k (.ofNat (Nat.xor m n))) else none
 |.lss=>some (.bool (Nat.blt m n))
 |.leq=>some (.bool (Nat.ble m n))
 |.gtr=>some (.bool (Nat.blt n m))
 |.geq=>some (.bool (Nat.ble n m))
 |.eql=>some (.bool (Nat.beq m n))
 |.neq=>some (.bool (!(Nat.beq m n)))
 |_=>none
def binS(op:BinOp)(m n:Nat):Option AVal:=match op with
 |.add=>bif Nat.blt (m+n) 9223372036854775808 then some (.int .i64 (.ofNat (m+n))) else none
 |.mul=>bif Nat.blt (m*n) 9223372036854775808 then some (.int .i64 (.ofNat (m*n))) else none
 |.sub=>bif Nat.ble n m&&Nat.blt m 9223372036854775808 then some (.int .i64 (.ofNat (m-n))) else none
 |.lss=>some (.bool (Nat.blt m n))
 |.leq=>some (.bool (Nat.ble m n))
 |.gtr=>some (.bool (Nat.blt n m))
 |.geq=>some (.bool (Nat.ble n m))
 |.eql=>some (.bool (Nat.beq m n))
 |.neq=>some (.bool (!(Nat.beq m n)))
 |_=>none
def binN(op:BinOp)(k:IntKind)(m n:Nat):Option AVal:=match k with
 |.u8=>binU op .u8 256 m n
 |.u32=>binU op .u32 4294967296 m n
 |.u64=>binU op .u64 18446744073709551616 m n
 |.i64=>binS op m n
 |_=>none
def shN(op:BinOp)(k:IntKind)(m n:Nat):Option AVal:=match op with
 |.shl=>match k with
  |.u8=>bif Nat.ble n 8 then some (.int .u8 (.ofNat (Nat.shiftLeft m n%256))) else none
  |.u32=>bif Nat.ble n 32 then some (.int .u32 (.ofNat (Nat.shiftLeft m n%4294967296))) else none
  |.u64=>bif Nat.ble n 64 then some (.int .u64 (.ofNat (Nat.shiftLeft m n%18446744073709551616))) else none
  |_=>none
 |.shr=>match k with
  |.u8=>bif Nat.ble n 8 then some (.int .u8 (.ofNat (Nat.shiftRight m n))) else none
  |.u32=>bif Nat.ble n 32 then some (.int .u32 (.ofNat (Nat.shiftRight m n))) else none
  |.u64=>bif Nat.ble n 64 then some (.int .u64 (.ofNat (Nat.shiftRight m n))) else none
  |_=>none
 |_=>none
theorem nblt{m n:Nat}:Nat.blt m n=decide (m<n):=by
 cases h:Nat.blt m n with
 |true=>exact(YDT (YNL h)).symm
 |false=>exact(YDF (λq=>by rw[show Nat.blt m n=true from Nat.ble_eq_true_of_le q] at h; cases h)).symm
theorem nble{m n:Nat}:Nat.ble m n=decide (m≤n):=by
 cases h:Nat.ble m n with
 |true=>exact(YDT (YNL h)).symm
 |false=>exact(YDF (λq=>by rw[Nat.ble_eq_true_of_le q] at h; cases h)).symm
theorem nbeq{m n:Nat}:Nat.beq m n=((m:Int)==(n:Int)):=by
 by_cases h:m=n
 ·subst h; rw[Nat.beq_refl]; simp
 ·have h1:Nat.beq m n=false:=by
   cases hb:Nat.beq m n with
   |false=>rfl
   |true=>exact(h (YNB hb)).elim
  rw[h1]; symm; simp; omega
theorem optC{b:Bool}{x v:AVal}(h:(bif b then some x else none)=some v):b=true∧x=v:=by
 cases b<;>simp_all
theorem QbB{op:BinOp}{k:IntKind}{m n:Nat}{v:AVal}(h0:mdl k≠0)(h:binU op k (mdl k) m n=some v):binI op k m n=some v:=by
 unfold binU at h;split at h
 ·cases h; simp only[binI]; rw[←Int.natCast_add,YM h0]; rfl
 ·cases h; simp only[binI]; rw[←Int.natCast_mul,YM h0]; rfl
 ·obtain⟨hb,rfl⟩:=optC h;simp only[binI]; rw[←Int.natCast_sub (YNL hb),YM h0]; rfl
 ·obtain⟨hb,rfl⟩:=optC h;simp only[Bool.and_eq_true] at hb;simp only[binI]; rw[(Zar (YNL hb.1) (YNL hb.2)).1]; rfl
 ·obtain⟨hb,rfl⟩:=optC h;simp only[Bool.and_eq_true] at hb;simp only[binI]; rw[(Zar (YNL hb.1) (YNL hb.2)).2.1]; rfl
 ·obtain⟨hb,rfl⟩:=optC h;simp only[Bool.and_eq_true] at hb;simp only[binI]; rw[(Zar (YNL hb.1) (YNL hb.2)).2.2]; rfl
 ·cases h; simp[binI,nblt]
 ·cases h; simp[binI,nble]
 ·cases h; simp[binI,nblt]
 ·cases h; simp[binI,nble]
 ·cases h; simp only[binI,nbeq]
 ·cases h; simp only[binI,nbeq]; rfl
 ·cases h
theorem YcZ{op:BinOp}{m n:Nat}{v:AVal}(h:binS op m n=some v):binI op .i64 m n=some v:=by
 unfold binS at h;split at h
 ·obtain⟨hb,rfl⟩:=optC h;simp only[binI]; rw[←Int.natCast_add,Xah (YNL hb)]; rfl
 ·obtain⟨hb,rfl⟩:=optC h;simp only[binI]; rw[←Int.natCast_mul,Xah (YNL hb)]; rfl
 ·obtain⟨hb,rfl⟩:=optC h;simp only[Bool.and_eq_true] at hb;have h1:=YNL hb.1;have h2:m<9223372036854775808:=YNL hb.2;simp only[binI]; rw[←Int.natCast_sub h1,Xah (by omega)]; rfl
 ·cases h; simp[binI,nblt]
 ·cases h; simp[binI,nble]
 ·cases h; simp[binI,nblt]
 ·cases h; simp[binI,nble]
 ·cases h; simp only[binI,nbeq]
 ·cases h; simp only[binI,nbeq]; rfl
 ·cases h
theorem ZcZ{op:BinOp}{k:IntKind}{m n:Nat}{v:AVal}(h:binN op k m n=some v):binI op k m n=some v:=by
 unfold binN at h;split at h
 ·exact QbB (k:=.u8) (by decide) h
 ·exact QbB (k:=.u32) (by decide) h
 ·exact QbB (k:=.u64) (by decide) h
 ·exact YcZ h
 ·cases h
theorem XcB{k:IntKind}{m n b:Nat}(hk:k.bits=b)(h0:mdl k≠0)(hn:n≤b):k.wrap ((m:Int)*2 ^ (min n k.bits))=((Nat.shiftLeft m n%mdl k:Nat):Int):=by
 rw[hk,Nat.min_eq_left hn,show ((m:Int)*2 ^ n)=((m*2 ^ n:Nat):Int) by simp,YM h0];show _=(((m <<< n)%mdl k:Nat):Int);rw[Nat.shiftLeft_eq]
theorem QcB{k:IntKind}{m n b:Nat}(hk:k.bits=b)(hn:n≤b):Int.fdiv (m:Int) (2 ^ (min n k.bits))=((Nat.shiftRight m n:Nat):Int):=by
 rw[hk,Nat.min_eq_left hn,Int.fdiv_eq_ediv_of_nonneg _ (by exact Int.le_of_lt (Int.pow_pos (by decide)))];show _=((m >>> n:Nat):Int);rw[Nat.shiftRight_eq_div_pow];simp
theorem Zdh{op:BinOp}{k k':IntKind}{m n:Nat}{v:AVal}(h:shN op k m n=some v):binI op k m n=none∧binX op k k' m n=some v:=by
 unfold shN at h;split at h
 ·refine⟨rfl,?_⟩;split at h
  ·obtain⟨hb,rfl⟩:=optC h;show some (AVal.int .u8 (IntKind.u8.wrap _))=_;rw[XcB (b:=8) rfl (by decide) (YNL hb)]; rfl
  ·obtain⟨hb,rfl⟩:=optC h;show some (AVal.int .u32 (IntKind.u32.wrap _))=_;rw[XcB (b:=32) rfl (by decide) (YNL hb)]; rfl
  ·obtain⟨hb,rfl⟩:=optC h;show some (AVal.int .u64 (IntKind.u64.wrap _))=_;rw[XcB (b:=64) rfl (by decide) (YNL hb)]; rfl
  ·cases h
 ·refine⟨rfl,?_⟩;split at h
  ·obtain⟨hb,rfl⟩:=optC h;show some (AVal.int .u8 (Int.fdiv _ _))=_;rw[QcB (b:=8) rfl (YNL hb)]; rfl
  ·obtain⟨hb,rfl⟩:=optC h;show some (AVal.int .u32 (Int.fdiv _ _))=_;rw[QcB (b:=32) rfl (YNL hb)]; rfl
  ·obtain⟨hb,rfl⟩:=optC h;show some (AVal.int .u64 (Int.fdiv _ _))=_;rw[QcB (b:=64) rfl (YNL hb)]; rfl
  ·cases h
 ·cases h
def QF(op:BinOp)(isBool:Bool)(xs:List AVal)(σ:List ABlk):SRes:=match xs with
 |[.int k (.ofNat m),.int k' (.ofNat n)]=>match shN op k m n with
  |some v=>.ok v [] []
  |none=>match (bif ikEq k k' then binN op k m n else none) with
   |some v=>.ok v [] []
   |none=>Zq op isBool [.int k (.ofNat m),.int k' (.ofNat n)] σ
 |xs=>Zq op isBool xs σ
theorem Yb(op:BinOp)(isBool:Bool)(xs:List AVal)(σ:List ABlk):QF op isBool xs σ=Zq op isBool xs σ:=by
 unfold QF;split
 ·rename_i k m k' n;split
  ·rename_i v hv;obtain⟨h1,h2⟩:=Zdh (k':=k') hv;have h1':binI op k (Int.ofNat m) (Int.ofNat n)=none:=h1;have h2':binX op k k' (Int.ofNat m) (Int.ofNat n)=some v:=h2;cases hk:ikEq k k'<;>simp only[Zq,hk,h1',h2',cond_true,cond_false]
  ·split
   ·rename_i v hv;cases hk:ikEq k k' with
    |false=>rw[hk] at hv; cases hv
    |true=>
     rw[hk] at hv;have h1':binI op k (Int.ofNat m) (Int.ofNat n)=some v:=ZcZ hv;simp only[Zq,hk,cond_true,h1']
   ·rfl
 ·rfl
def ZR(k:IntKind)(xs:List AVal)(σ:List ABlk):SRes:=match xs with
 |[.int _ (.ofNat n)]=>match k with
  |.u8=>.ok (.int .u8 (.ofNat (n%256))) [] []
  |.u32=>.ok (.int .u32 (.ofNat (n%4294967296))) [] []
  |.u64=>.ok (.int .u64 (.ofNat (n%18446744073709551616))) [] []
  |.i64=>bif Nat.blt n 9223372036854775808 then .ok (.int .i64 (.ofNat n)) [] [] else QQ .i64 xs σ
  |k=>QQ k xs σ
 |xs=>QQ k xs σ
theorem Qh(k:IntKind)(xs:List AVal)(σ:List ABlk):ZR k xs σ=QQ k xs σ:=by
 unfold ZR;split
 ·rename_i k0 n;split
  ·show _=SRes.ok (.int .u8 (IntKind.u8.wrap (n:Int))) [] [];rw[YM (k:=.u8) (by decide)]; rfl
  ·show _=SRes.ok (.int .u32 (IntKind.u32.wrap (n:Int))) [] [];rw[YM (k:=.u32) (by decide)]; rfl
  ·show _=SRes.ok (.int .u64 (IntKind.u64.wrap (n:Int))) [] [];rw[YM (k:=.u64) (by decide)]; rfl
  ·cases hb:Nat.blt n 9223372036854775808 with
   |false=>rfl
   |true=>
    show _=SRes.ok (.int .i64 (IntKind.i64.wrap (n:Int))) [] [];rw[Xah (YNL hb)]; rfl
  ·rfl
 ·rfl
def XaH(op:UnOp)(xs:List AVal)(σ:List ABlk):SRes:=match op,xs with
 |.xor,[.int .u32 (.ofNat n)]=>bif Nat.blt n 4294967296 then .ok (.int .u32 (.ofNat (Nat.xor 4294967295 n))) [] [] else YbI .xor [.int .u32 (.ofNat n)] σ
 |op,xs=>YbI op xs σ
theorem Qo(op:UnOp)(xs:List AVal)(σ:List ABlk):XaH op xs σ=YbI op xs σ:=by
 unfold XaH;split
 ·rename_i n;cases hb:Nat.blt n 4294967296 with
  |false=>rfl
  |true=>
   show _=SRes.ok (.int .u32 (bits .xor .u32 ((4294967295:Nat):Int) (n:Int))) [] [];rw[(Zar (k:=.u32) (by decide) (YNL hb)).2.2]; rfl
 ·rfl
def bnds:Bool→Bool→List AVal→Option (Option (IntKind×Nat)×Option (IntKind×Nat))
 |false,false,[]=>some (none,none)
 |true,false,[.int k (.ofNat i)]=>some (some (k,i),none)
 |false,true,[.int k (.ofNat i)]=>some (none,some (k,i))
 |true,true,[.int k (.ofNat i),.int k' (.ofNat j)]=>some (some (k,i),some (k',j))
 |_,_,_=>none
theorem Xcj{a b:Bool}{xs:List AVal}{lo hi:Option (IntKind×Nat)}(h:bnds a b xs=some (lo,hi)):xs=bndL lo hi∧a=lo.isSome∧b=hi.isSome:=by
 unfold bnds at h;split at h<;>cases h<;>exact⟨rfl,rfl,rfl⟩
def bytesOf:List (List AVal)→Option (List UInt8)
 |[]=>some []
 | [.int .u8 (.ofNat n)] :: r=>bif Nat.blt n 256 then (match bytesOf r with
  |some s=>some (UInt8.ofNat n::s)
  | none=>none) else none
 |_=>none
theorem Xb5:∀ {ys:List (List AVal)} {s:List UInt8},bytesOf ys=some s→ys=s.map λc=>[.int .u8 c.toNat]:=by
 intro ys
 induction ys with
 |nil=>intro s h; cases h; rfl
 |cons y r ih=>
  intro s h;unfold bytesOf at h;split at h
  ·rename_i h0; cases h0
  ·rename_i n r' h0;cases h0
   replace h:=Ql h; obtain⟨hb,h⟩:=h
   split at h
   ·rename_i s' hs;cases h;have hn:n<256:=YNL hb;rw[List.map_cons,←ih hs]
    congr 3
    simp[UInt8.toNat_ofNat,Nat.mod_eq_of_lt hn]
   ·cases h
  ·cases h
def isSl:AVal→Bool
 |.str _=>false
 |_=>true
def YK(len n:Nat)(lo hi:Bool)(xs:List AVal):SRes:=match xs with
 |.bptr b j::r=>match bnds lo hi r with
  |some (l,h)=>bif Nat.ble (bl l) (bh len h)&&Nat.ble (bh len h) len then .ok (bslV b j (bl l) (bh len h) len n) [] [] else .stop
  |none=>.stop
 |_=>.stop
def Yai(n:Nat)(xs:List AVal)(σ:List ABlk):SRes:=match xs with
 |[.bsl b j len _,y]=>match hget σ b with
  |.box row=>match Zp n σ y with
   | some (ys,rd)=>bif Zx ys then (match splice j ((ys.take len).flatten) row with
    |some row'=>.ok (.int .i64 (Nat.min ys.length len)) rd [(b,.box row')]
    | none=>.stop) else .stop
   |none=>.stop
  |_=>.stop
 |_=>.stop
def QA(xs:List AVal)(σ:List ABlk):SRes:=match xs with
 | [y]=>bif isSl y then (match Zp 1 σ y with
  |some (ys,rd)=>match bytesOf ys with
   |some s=>.ok (.str s) rd []
   |none=>.stop
  | none=>.stop) else .stop
 |_=>.stop
def Qai(xs:List AVal)(σ:List ABlk):SRes:=match xs with
 |[.sl b 0 n true]=>match hget σ b with
  |.rows s rs=>bif Nat.beq s 1&&(!(Nat.beq n 0)&&(Nat.beq rs.length n&&roRs rs)) then .ok (.rsl true true 1 rs) [] [(b,.dead)] else .stop
  |_=>.stop
 |_=>.stop
def Zai(n:Nat)(xs:List AVal):SRes:=match xs with
 |[.rsl _ _ _ (r::rs)]=>bif Nat.ble n (rs.length+1) then .ok (.rptr (r::rs).flatten 0) [] [] else .stop
 |[.sl b off len _]=>bif Nat.ble n len && !(Nat.beq n 0) then .ok (.ptr b off 0) [] [] else .stop
 |_=>.stop
def ZaX(neq:Bool)(n:Nat)(xs:List AVal):SRes:=match xs with
 |[.agg a,.agg b]=>match Qa1 n a b with
  |some r=>.ok (.bool (bif neq then !r else r)) [] []
  |none=>.stop
 |_=>.stop
def XV(ok:Bool)(z:AVal)(xs:List AVal)(σ:List ABlk):SRes:=match xs with
 | [m,k]=>bif is2 k then (match mapOf σ m with
  |some (es,rd)=>match alook2 k es with
   |some r=>.ok (lookV ok z r) rd []
   |none=>.stop
  | none=>.stop) else .stop
 |_=>.stop
def Zaj(xs:List AVal)(σ:List ABlk):SRes:=match xs with
 | [.map b,k,x]=>bif is2 k then (match hget σ b with
  |.map es=>match alook2 k es with
   |some none=>.ok .junk [] [(b,.map (es++[(k,x)]))]
   |_=>.stop
  | _=>.stop) else .stop
 |_=>.stop
def c_x(q:XK)(xs:List AVal)(σ:List ABlk):SRes:=match q with
 |.sliceA len n lo hi=>YK len n lo hi xs
 |.copyS n=>Yai n xs σ
 |.toStr=>QA xs σ
 |.same=>Qai xs σ
 |.arrP n=>Zai n xs
 |.look ok z=>XV ok z xs σ
 |.upd=>Zaj xs σ
 |.eqT neq n=>ZaX neq n xs
 |.panic=>.stop
def Xl(sz:Nat)(xs:List AVal)(σ:List ABlk):SRes:=match xs with
 |[.bsl b j n _,.int _ (.ofNat i)]=>bif Nat.blt i n then .ok (.bptr b (j+i*sz)) [] [] else .stop
 |xs=>cstep0 (.idxAddrS sz) xs σ
def QG(xs:List AVal)(σ:List ABlk):SRes:=match xs with
 |[.bsl _ _ n _]=>.ok (.int .i64 n) [] []
 |xs=>cstep0 .lenS xs σ
def XC(sz:Nat)(lo hi:Bool)(xs:List AVal)(σ:List ABlk):SRes:=match xs with
 |.bsl b j n cap::r=>match bnds lo hi r with
  |some (l,h)=>bif Nat.ble (bl l) (bh n h)&&Nat.ble (bh n h) cap then .ok (bslV b j (bl l) (bh n h) cap sz) [] [] else .stop
  |none=>.stop
 |xs=>cstep0 (.sliceS sz lo hi false) xs σ
def Zg(agg:Bool)(n:Nat)(xs:List AVal)(σ:List ABlk):SRes:=match xs with
 | [.ptr b i j]=>bif agg && (Nat.beq j 0 && !(Nat.beq n 0)) then (match hget σ b with
  |.rows s rs=>bif Nat.beq s 1&&Nat.ble (i+n) rs.length then .ok (.agg (((rs.drop i).take n).flatten)) [b] [] else cstep0 (.load agg n) xs σ
  | _=>.stop) else cstep0 (.load agg n) xs σ
 |xs=>cstep0 (.load agg n) xs σ
def cstep(k:MK)(xs:List AVal)(σ:List ABlk):SRes:=match k with
 |.x q=>c_x q xs σ
 |.idxAddrS sz=>Xl sz xs σ
 |.lenS=>QG xs σ
 |.sliceS sz lo hi false=>XC sz lo hi xs σ
 |.load agg n=>Zg agg n xs σ
 |.bin op ib=>QF op ib xs σ
 |.conv q=>ZR q xs σ
 |.un op=>XaH op xs σ
 |k=>cstep0 k xs σ
theorem Qda{P:Program}{GL:Globs}{q:XK}{xs:List AVal}{σ:List ABlk}{v:AVal}{rd:List Nat}{up:List (Nat×ABlk)}(h:c_x q xs σ=.ok v rd up):OpSem P GL (.x q) xs (hp σ) v rd up:=by
 unfold c_x at h;split at h
 ·unfold YK at h;split at h
  ·split at h
   ·rename_i hb;obtain⟨rfl,rfl,rfl⟩:=Xcj hb
    replace h:=Qc h; obtain⟨hc,h⟩:=h
    simp only[Bool.and_eq_true] at hc;cases h;exact Zcc _ _ _ _ _ _ (YNL hc.1) (YNL hc.2) _
   ·cases h
  ·cases h
 ·unfold Yai at h;split at h
  ·split at h
   ·rename_i hg;split at h
    ·rename_i hs
     replace h:=Qc h; obtain⟨hc,h⟩:=h
     split at h
     ·rename_i hsp; cases h;exact YcR _ _ _ _ _ _ _ _ _ _ _ (Xat hg) (Zz hs) (YF hc) hsp
     ·cases h
    ·cases h
   ·cases h
  ·cases h
 ·unfold QA at h;split at h
  ·replace h:=Qc h; obtain⟨hc,h⟩:=h
   split at h
   ·rename_i hs;split at h
    ·rename_i hb; cases h;have:=Zz hs;rw[Xb5 hb] at this;exact YcB _ _ _ _ this (by rintro s rfl; cases hc)
    ·cases h
   ·cases h
  ·cases h
 ·unfold Qai at h;split at h
  ·split at h
   ·rename_i hg
    replace h:=Qc h; obtain⟨hc,h⟩:=h
    simp only[Bool.and_eq_true,Bool.not_eq_true'] at hc;have:=YNB hc.1; subst this;cases h;exact ZcT _ _ _ _ (Xt hg) (by rintro rfl; cases hc.2.1) (YNB hc.2.2.1) hc.2.2.2
   ·cases h
  ·cases h
 ·unfold Zai at h;split at h
  ·replace h:=Qc h; obtain⟨hc,h⟩:=h
   cases h;exact Xbv _ _ _ _ _ (YNL hc) (by simp) _
  ·replace h:=Qc h; obtain⟨hc,h⟩:=h
   simp only[Bool.and_eq_true,Bool.not_eq_true'] at hc;cases h;exact Ybv _ _ _ _ _ (YNL hc.1) (by rintro rfl; cases hc.2) _
  ·cases h
 ·unfold XV at h;split at h
  ·replace h:=Qc h; obtain⟨hc,h⟩:=h
   split at h
   ·rename_i hm;split at h
    ·rename_i hl; cases h; exact ZcA _ _ _ _ _ _ _ _ (ZbR hm) hc hl
    ·cases h
   ·cases h
  ·cases h
 ·unfold Zaj at h;split at h
  ·replace h:=Qc h; obtain⟨hc,h⟩:=h
   split at h
   ·rename_i hg;split at h
    ·rename_i hl; cases h; exact YcT _ _ _ _ _ (Qat hg) hc hl
    ·cases h
   ·cases h
  ·cases h
 ·unfold ZaX at h;split at h
  ·split at h
   ·rename_i hr; cases h; exact Xc4 _ _ _ _ _ hr _
   ·cases h
  ·cases h
 ·cases h
theorem ZB{P:Program}{GL:Globs}:StepOk P GL cstep:=by
 intro k xs σ v rd up h;unfold cstep at h;split at h
 ·exact Qda h
 ·unfold Xl at h;split at h
  ·replace h:=Qc h; obtain⟨hc,h⟩:=h
   cases h;exact Zbw _ _ _ _ _ _ _ (YNL hc) _
  ·exact Zr h
 ·unfold QG at h;split at h
  ·cases h; exact ZcS _ _ _ _ _
  ·exact Zr h
 ·unfold XC at h;split at h
  ·split at h
   ·rename_i hb;obtain⟨rfl,rfl,rfl⟩:=Xcj hb
    replace h:=Qc h; obtain⟨hc,h⟩:=h
    simp only[Bool.and_eq_true] at hc;cases h;exact Ycc _ _ _ _ _ _ _ (YNL hc.1) (YNL hc.2) _
   ·cases h
  ·exact Zr h
 ·unfold Zg at h;split at h
  ·replace h:=Qz h; rcases h with ⟨hc,h⟩|⟨_,h⟩
   ·simp only[Bool.and_eq_true,Bool.not_eq_true'] at hc;obtain⟨rfl,h1,h2⟩:=hc;have:=YNB h1; subst this;split at h
    ·rename_i hg
     replace h:=Qz h; rcases h with ⟨hc,h⟩|⟨_,h⟩
     ·simp only[Bool.and_eq_true] at hc;have:=YNB hc.1; subst this;cases h;exact Qbh _ _ _ _ _ (Xt hg) (YNL hc.2) (by rintro rfl; cases h2)
     ·exact Zr h
    ·cases h
   ·exact Zr h
  ·exact Zr h
 ·rename_i op ib; rw[Yb] at h; exact Zr (k:=.bin op ib) h
 ·rename_i q; rw[Qh] at h; exact Zr (k:=.conv q) h
 ·rename_i op; rw[Qo] at h; exact Zr (k:=.un op) h
 ·exact Zr h
end Go.Ah
end
section
namespace Go.Ah
def Loc(P:Program)(GL:Globs)(m:MOper)(ρ:Frame)(h0:Hp)(v:AVal)(rd:List Nat)(up:List (Nat×ABlk)):Prop:=
 ∀(n:Nat) (ops:Array Oper) (o:Oper),OperOk P GL n ops o m→∀(ρ':Frame) (h:Hp) (w0:World) (L:Ln) (g:Gm) (w:World) (a:Act),
  (∀t∈usesT m,fget ρ' t=fget ρ t)→(∀b∈rd,h b=h0 b)→(∀p∈up,h p.1=h0 p.1)→Rep GL w0 L g h w→DenF n g ρ' a →
  ∀(rnd:Option Nat) (next:Act→World→Prop) (Q:Exit→Act→World→Prop),(∀g' w' u,g.Le g'→Rep GL w0 L g' (hups h up) w'→DenF n g' (putF m.dst v ρ') (a.put o.dst u)→next (a.put o.dst u) w') →
   if Region.wanted o (yielded ops a.tmps) then o.wpIn (wz rnd) 0 P a w next Q else (∀f,o.about P w a.eval=some f→(wz rnd).fn f)∧next (a.put o.dst undef) w
section
variable {P:Program} {GL:Globs} {Z:PZ}
theorem XbE{m:MOper}{ρ ρ':Frame}(h:∀t∈usesT m,fget ρ' t=fget ρ t):m.xs.map (ev ρ')=m.xs.map (ev ρ):=by
 apply List.map_congr_left;intro x hx;cases x with
 |t n=>exact h n (List.mem_append.2 (.inl (List.mem_filterMap.2 ⟨.t n,hx,rfl⟩)))
 |c v=>rfl
theorem ZZ{m:MOper}{ρ ρ':Frame}(h:∀t∈usesT m,fget ρ' t=fget ρ t){cs:List (Bool×Bool)}(hg:GuardIs ρ m.guard cs):GuardIs ρ' m.guard cs:=by
 unfold usesT at h;generalize m.guard=gd at hg h;cases hg with
 |none=>exact .none
 |bool s w c e=>exact .bool s w c (by rw[h s (by simp)]; exact e)
 |when s w c cs e=>exact .when s w c cs (by rw[h s (by simp)]; exact e)
theorem YbG{m:MOper}{ρ:Frame}{σ:List ABlk}{lg:Log}{K:Frame→List ABlk→Log→Prop}(s:StepR true P GL Z m ρ σ lg K) :
  ∃v rd up σ',upL σ up=some σ'∧K (putF m.dst v ρ) σ' (lg++[(rd,up.map (·.1))])∧Loc P GL m ρ (hp σ) v rd up:=by
 cases s with
 |run cs ys v rd up σ' h1 h2 h3 h4 h5 h6=>
  refine⟨v,rd,up,σ',h5,h6,?_⟩;intro n ops o ok ρ' h w0 L g w a hu hrd hup r d rnd next Q hn;obtain⟨os,hcomp,hos⟩:=ok.op;have hops:=Qav r d hos;rw[YIP ((Zm ok d (ZZ hu h1)).1 h2)];have hden:=Qag trivial h3 (by rw[←XbE hu]; exact hops);have ho:=h4 o os hcomp w0 L g h w a r hden hrd hup;refine ho.upon hcomp rnd (λg' u w' hle hr hu=>hn g' w' u hle hr ?_);rw[ok.dst];exact(d.mono hle).putF ok.lt hu
 |skip cs h1 h2 h3=>
  refine⟨.junk,[],[],σ,rfl,h3,?_⟩;intro n ops o ok ρ' h w0 L g w a hu hrd hup r d rnd next Q hn;rw[YIN (by grind [Zm,ZZ])];refine⟨λ_ _=>trivial,hn g w undef (Gm.Le.refl g) r ?_⟩;rw[ok.dst];exact d.putF ok.lt (.junk _ _)
 |lazy cs ys v rd h1 h2 h3 h4=>
  refine⟨.when cs v,rd,[],σ,rfl,h4,?_⟩;intro n ops o ok ρ' h w0 L g w a hu hrd hup r d rnd next Q hn;obtain⟨os,hcomp,hos⟩:=ok.op;have hops:=Qav r d hos;by_cases hh:Hold cs
  ·rw[YIP ((Zm ok d (ZZ hu h1)).1 hh)];have hden:=Qag hh h2 (by rw[←XbE hu]; exact hops);have ho:=h3 hh o os hcomp w0 L g h w a r hden hrd hup;refine ho.upon hcomp rnd (λg' u w' hle hr hu=>hn g' w' u hle hr ?_);rw[ok.dst];exact(d.mono hle).putF ok.lt (.when _ _ _ _ (λ_=>hu) (λh=>(h hh).elim))
  ·rw[YIN (by grind [Zm,ZZ])];refine⟨λ_ _=>trivial,hn g w undef (Gm.Le.refl g) r ?_⟩;rw[ok.dst];exact d.putF ok.lt (.when _ _ _ _ (λh=>(hh h).elim) (λ_=>rfl))
 |pick cs x y z c p q v h1 hk hxs hx hy hz hv h8=>
  refine⟨v,[],[],σ,rfl,h8,?_⟩;intro n ops o ok ρ' h w0 L g w a hu hrd hup r d rnd next Q hn;obtain⟨os,hcomp,hos⟩:=ok.op;have hops:=Qav r d hos;rw[XbE hu,hxs] at hops;have h1':=ZZ hu h1;have hcomp':=hcomp;rw[hk] at hcomp';generalize hop:o.op=op at hcomp';cases hcomp' with
  |pick oc oa ob=>
   obtain⟨d1,d2,d3,_⟩:=hops;by_cases hh:Hold cs
   ·rw[YIP ((Zm ok d h1').1 hh)];have e1:=Yt (Yan hh hx d1);have hres:g.den (.bool (bif c then p else q)) (if c then a.eval oa else a.eval ob):=by
     cases c
     ·exact Yan ⟨hh,rfl⟩ hz d3
     ·exact Yan ⟨hh,rfl⟩ hy d2
    have hrun:(execOp a.eval o).run P w=.ok (.value (if c then a.eval oa else a.eval ob)) w:=by
     simp_all [execOp,asBool]
    refine⟨λ_ _=>trivial,?_⟩;rw[Qad hcomp,hrun];refine hn g _ _ (Gm.Le.refl g) r ?_;rw[ok.dst];rcases hv with rfl|⟨rfl,rfl⟩
    ·exact d.putF ok.lt (.when _ _ _ _ (λ_=>hres) (λh=>(h hh).elim))
    ·exact d.putF ok.lt hres
   ·rw[YIN (by rw[(Zm ok d h1').2 hh]; simp)];refine⟨λ_ _=>trivial,hn g _ _ (Gm.Le.refl g) r ?_⟩;rw[ok.dst];rcases hv with rfl|⟨rfl,rfl⟩
    ·exact d.putF ok.lt (.when _ _ _ _ (λh=>(hh h).elim) (λ_=>rfl))
    ·exact(hh (by simp[Hold])).elim
 |rel cs ys R h0=>cases h0
structure TS where
 v:AVal
 rd:List Nat
 up:List (Nat×ABlk)
def Tr(P:Program)(GL:Globs):List MOper→List TS→Frame→List ABlk→Log→(Frame→List ABlk→Log→Prop)→Prop
 |[],[],ρ,σ,lg,Q=>Q ρ σ lg
 |m::ms,t::ts,ρ,σ,lg,Q=>Loc P GL m ρ (hp σ) t.v t.rd t.up∧∃σ',upL σ t.up=some σ'∧Tr P GL ms ts (putF m.dst t.v ρ) σ' (lg++[(t.rd,t.up.map (·.1))]) Q
 |_,_,_,_,_,_=>False
theorem Zay:∀(ms:List MOper) (ρ:Frame) (σ:List ABlk) (lg:Log) (Q:Frame→List ABlk→Log→Prop),AwpR true P GL Z ms ρ σ lg Q→∃ts,Tr P GL ms ts ρ σ lg Q
 |[],ρ,σ,lg,Q,h=>⟨[],h⟩
 |m::ms,ρ,σ,lg,Q,h=>by
  obtain⟨v,rd,up,σ',h1,h2,h3⟩:=YbG h;obtain⟨ts,ht⟩:=Zay ms _ _ _ Q h2;exact⟨⟨v,rd,up⟩::ts,h3,σ',h1,ht⟩
def frS(S:Nat→Bool):Nat→List MOper→List TS→Frame→Frame
 |i,m::ms,t::ts,ρ=>frS S (i+1) ms ts (if S i then putF m.dst t.v ρ else ρ)
 |_,_,_,ρ=>ρ
def hpS(S:Nat→Bool):Nat→List TS→Hp→Hp
 |i,t::ts,h=>hpS S (i+1) ts (if S i then hups h t.up else h)
 |_,_,h=>h
theorem ZL{S S':Nat→Bool}{t:Nat}:∀(ms:List MOper) (ts:List TS) (i:Nat) (ρ ρ':Frame),(∀(k:Nat) (m:MOper),ms[k]?=some m→m.dst=some t→S (i+k)=S' (i+k))→fget ρ t=fget ρ' t→fget (frS S i ms ts ρ) t=fget (frS S' i ms ts ρ') t
 |[],_,_,_,_,_,h=>by simpa[frS] using h
 |_::_,[],_,_,_,_,h=>by simpa[frS] using h
 |m::ms,x::ts,i,ρ,ρ',hs,h=>by
  simp only[frS];refine ZL ms ts (i+1) _ _ (λk m' e1 e2=>by have:=hs (k+1) m' (by simpa using e1) e2; grind) ?_;by_cases hd:m.dst=some t
  ·have:=hs 0 m rfl hd;rw[Nat.add_zero] at this
   grind [ZQ]
  ·have e1:∀(b:Bool) (r:Frame),fget (if b then putF m.dst x.v r else r) t=fget r t:=by simp_all [ZQ]
   rw[e1,e1,h]
theorem Ybf:∀(up:List (Nat×ABlk)) (h h':Hp) (b:Nat),b∈up.map (·.1)→hups h up b=hups h' up b
 |[],_,_,_,e=>by cases e
 |(a,x)::up,h,h',b,e=>by
  by_cases hb:b∈up.map (·.1)
  ·exact Ybf up _ _ b hb
  ·have:b=a:=by simp_all
   subst this;have out:∀(up:List (Nat×ABlk)) (h:Hp),b∉up.map (·.1)→hups h up b=h b:=by
    intro up
    induction up<;>simp_all [hups,Yk]
   simp_all [hups,Zl]
theorem ZaK:∀(up:List (Nat×ABlk)) (h:Hp) (b:Nat),b∉up.map (·.1)→hups h up b=h b
 |[],_,_,_=>rfl
 |(a,x)::up,h,b,hn=>by
  simp only[List.map_cons,List.mem_cons,not_or] at hn;show hups (hup h a x) up b=h b;rw[ZaK up _ b hn.2,Yk _ _ hn.1]
theorem YL{S S':Nat→Bool}{b:Nat}:∀(ts:List TS) (i:Nat) (h h':Hp),(∀(k:Nat) (t:TS),ts[k]?=some t→b∈t.up.map (·.1)→S (i+k)=S' (i+k))→h b=h' b→hpS S i ts h b=hpS S' i ts h' b
 |[],_,_,_,_,h=>by simpa[hpS] using h
 |x::ts,i,h,h',hs,e=>by
  simp only[hpS];refine YL ts (i+1) _ _ (λk t e1 e2=>by have:=hs (k+1) t (by simpa using e1) e2; grind) ?_;by_cases hd:b∈x.up.map (·.1)
  ·have:=hs 0 x rfl hd;rw[Nat.add_zero] at this
   grind [Ybf]
  ·have e1:∀(c:Bool) (r:Hp),(if c then hups r x.up else r) b=r b:=by simp_all [ZaK]
   rw[e1,e1,e]
theorem Zbe{S:Nat→Bool}{t:Nat}:∀(ms:List MOper) (ts:List TS) (i:Nat) (ρ:Frame) (j:Nat) (m:MOper) (x:TS),ms[j]?=some m→ts[j]?=some x→m.dst=some t→S (i+j)=true →
  (∀(k:Nat) (m':MOper),ms[k]?=some m'→m'.dst=some t→S (i+k)=true→k≤j)→fget (frS S i ms ts ρ) t=x.v
 |m::ms,x::ts,i,ρ,0,m0,x0,e1,e2,e3,e4,hl=>by
  simp at e1 e2; subst e1 e2;rw[Nat.add_zero] at e4;simp only[frS,e4,if_true];have:=ZL (S:=S) (S':=λ_=>false) (t:=t) ms ts (i + 1) (putF m.dst x.v ρ) (putF m.dst x.v ρ) (λk m' q1 q2=>by
   cases hS:S (i+1+k) with
   |false=>rfl
   | true=>have:=hl (k + 1) m' (by simpa using q1) q2 (by grind); omega) rfl
  rw[this];have hid:∀(ms:List MOper) (ts:List TS) (i:Nat) (ρ:Frame),frS (λ_=>false) i ms ts ρ=ρ:=by
   intro ms
   induction ms with
   |nil=>intros; simp[frS]
   |cons m ms ih=>intro ts i ρ; cases ts<;>simp_all [frS]
  rw[hid,ZQ,YIP e3]
 |m::ms,x::ts,i,ρ,j+1,m0,x0,e1,e2,e3,e4,hl=>by
  simp only[frS];exact Zbe ms ts (i + 1) _ j m0 x0 (by simpa using e1) (by simpa using e2) e3 (by rwa [show i + 1 + j=i + (j + 1) by omega]) (λk m' q1 q2 q3=>by
   have:=hl (k + 1) m' (by simpa using q1) q2 (by rwa [show i + (k + 1)=i + 1 + k by omega]); omega)
 |[],_,_,_,_,_,_,e1,_,_,_,_=>by simp at e1
 |_::_,[],_,_,_,_,_,_,e2,_,_,_=>by simp at e2
theorem Zbf{S:Nat→Bool}{b:Nat}:∀(ts:List TS) (i:Nat) (h:Hp) (j:Nat) (x:TS),ts[j]?=some x→b∈x.up.map (·.1)→S (i+j)=true →
  (∀(k:Nat) (x':TS),ts[k]?=some x'→b∈x'.up.map (·.1)→S (i+k)=true→k≤j)→∀h':Hp,hpS S i ts h b=hups h' x.up b
 |x::ts,i,h,0,x0,e2,e3,e4,hl,h'=>by
  simp at e2; subst e2;rw[Nat.add_zero] at e4;simp only[hpS,e4,if_true];have:=YL (S:=S) (S':=λ_=>false) (b:=b) ts (i + 1) (hups h x.up) (hups h' x.up) (λk m' q1 q2=>by
   cases hS:S (i+1+k) with
   |false=>rfl
   | true=>have:=hl (k + 1) m' (by simpa using q1) q2 (by grind); omega) (Ybf _ _ _ _ e3)
  rw[this];have hid:∀(ts:List TS) (i:Nat) (h:Hp),hpS (λ_=>false) i ts h=h:=by
   intro ts
   induction ts<;>grind [hpS]
  rw[hid]
 |x::ts,i,h,j+1,x0,e2,e3,e4,hl,h'=>by
  simp only[hpS];exact Zbf ts (i + 1) _ j x0 (by simpa using e2) e3 (by rwa [show i + 1 + j=i + (j + 1) by omega]) (λk m' q1 q2 q3=>by
   have:=hl (k + 1) m' (by simpa using q1) q2 (by rwa [show i + (k + 1)=i + 1 + k by omega]); omega) h'
 |[],_,_,_,_,e2,_,_,_,_=>by simp at e2
theorem Ycd:∀(ms:List MOper) (ts:List TS) (i:Nat) (ρ:Frame) (σ:List ABlk) (lg:Log) (Q:Frame→List ABlk→Log→Prop),Tr P GL ms ts ρ σ lg Q →
  ts.length=ms.length ∧
  (∀(j:Nat) (m:MOper) (x:TS),ms[j]?=some m→ts[j]?=some x→∃ρ',(∀t,fget ρ' t=fget (frS (λk=>decide (k<i+j)) i ms ts ρ) t)∧Loc P GL m ρ' (hpS (λk=>decide (k<i+j)) i ts (hp σ)) x.v x.rd x.up) ∧
  ∃ρ' σ',(∀t,fget ρ' t=fget (frS (λ_=>true) i ms ts ρ) t)∧hp σ'=hpS (λ_=>true) i ts (hp σ)∧Q ρ' σ' (lg++ts.map λx=>(x.rd,x.up.map (·.1)))
 |[],[],i,ρ,σ,lg,Q,h=>⟨rfl,by simp,ρ,σ,by simp[frS],by simp[hpS],by simpa[Tr] using h⟩
 |[],_::_,_,_,_,_,_,h=>h.elim
 |_::_,[],_,_,_,_,_,h=>h.elim
 |m::ms,x::ts,i,ρ,σ,lg,Q,h=>by
  obtain⟨h1,σ',h2,h3⟩:=h;obtain⟨k1,k2,ρ2,σ2,k3,k4,k5⟩:=Ycd ms ts (i+1) _ _ _ _ h3;have hu:=Yay _ _ _ h2;refine⟨by simp[k1],λj m' x' e1 e2=>?_,ρ2,σ2,λt=>by rw[k3 t]; simp[frS],by simp_all [hpS],by simpa[List.append_assoc] using k5⟩;cases j with
  |zero=>
   simp at e1 e2; subst e1 e2;have hf:∀t,fget ρ t=fget (frS (λk=>decide (k<i+0)) i (m::ms) (x::ts) ρ) t:=by
    intro t;have:=ZL (S:=λk=>decide (k<i+0)) (S':=λ_=>false) (t:=t) (m::ms) (x::ts) i ρ ρ (λk _ _ _=>by simp) rfl;rw[this];have hid:∀(ms:List MOper) (ts:List TS) (i:Nat) (ρ:Frame),frS (λ_=>false) i ms ts ρ=ρ:=by
     intro ms
     induction ms with
     |nil=>intros; simp[frS]
     |cons m ms ih=>intro ts i ρ; cases ts<;>simp_all [frS]
    rw[hid]
   have hh:hpS (λk=>decide (k<i+0)) i (x::ts) (hp σ)=hp σ:=by
    funext b
    have:=YL (S:=λk=>decide (k<i+0)) (S':=λ_=>false) (b:=b) (x::ts) i (hp σ) (hp σ) (λk _ _ _=>by simp) rfl;rw[this];have hid:∀(ts:List TS) (i:Nat) (h:Hp),hpS (λ_=>false) i ts h=h:=by
     intro ts
     induction ts<;>simp_all [hpS]
    rw[hid]
   grind
  |succ j=>
   grind [frS,hpS]
end
end Go.Ah
end
section
namespace Go.Ah
theorem QY:∀ {a b:List Nat},disj a b=true→∀x,x∈a→x∉b
 |[],_,_,x,h=>by cases h
 |y::a,b,hd,x,h=>by
  simp only[disj,Bool.and_eq_true,Bool.not_eq_true'] at hd;rcases List.mem_cons.1 h with rfl|h
  ·intro hb; have:=List.contains_iff_mem.2 hb; rw[hd.1] at this; cases this
  ·exact QY hd.2 x h
theorem YV{h:List Nat}{q:List Nat×List Nat}:∀ {lg:Log} {i:Nat},Xj h q i lg=true→∀(k:Nat) (p:List Nat×List Nat),lg[k]?=some p→(i+k)∈h∨apart2 p q=true
 |[],_,_,_,_,e=>by simp at e
 |p::lg,i,hh,0,p',e=>by
  simp_all [Xj]
 |p::lg,i,hh,k+1,p',e=>by
  simp only[Xj,Bool.and_eq_true] at hh;have:=YV hh.2 k p' (by simpa using e)
  grind
def cnt(S:Nat→Bool):Nat→Nat
 |0=>0
 |n+1=>cnt S n+(if S n then 0 else 1)
theorem YaJ{S:Nat→Bool}:∀ {n:Nat},cnt S n=0→∀k,k<n→S k=true
 |0,_,k,h=>by omega
 |n+1,e,k,h=>by
  simp only[cnt] at e;by_cases hk:k=n
  ·simp_all
  ·exact YaJ (S:=S) (n:=n) (by omega) k (by omega)
theorem QbM{S S':Nat→Bool}:∀ {n:Nat},(∀k,k<n→S' k=S k)→cnt S' n=cnt S n
 |0,_=>rfl
 |n+1,h=>by simp only[cnt]; rw[QbM (λk hk=>h k (by omega)),h n (by omega)]
theorem Yba{S S':Nat→Bool}{j:Nat}:∀ {n:Nat},j<n→S j=false→S' j=true→(∀k,k<n→k≠j→S' k=S k)→cnt S' n+1=cnt S n
 |0,h,_,_,_=>by omega
 |n+1,h,h1,h2,h3=>by
  simp only[cnt];by_cases hj:j=n
  ·grind [QbM]
  ·have:=Yba (n:=n) (by omega) h1 h2 (λk hk hne=>h3 k (by omega) hne)
   grind
structure DrawFacts (ops:List Oper) (ms:List MOper) (hd:List (List Nat)):Prop where
 len:ops.length=ms.length
 back:∀j,j<ms.length→∀i∈waits (ops.getD j default),i<j
 ahd:∀j,j<ms.length→∀i∈Yj hd j,i<j∧(i∈waits (ops.getD j default)∨∃k∈waits (ops.getD j default),i∈Yj hd k)
 slots:∀j,j<ms.length→∀i,i<j→i∈Yj hd j∨((∀t∈defsT (ms.getD i default),t∉usesT (ms.getD j default))∧(∀t∈defsT (ms.getD i default),t∉defsT (ms.getD j default))∧∀t∈usesT (ms.getD i default),t∉defsT (ms.getD j default))
theorem ZU{ops:List Oper}{ms:List MOper}{hd:List (List Nat)}(h:Qas ops ms hd=true):DrawFacts ops ms hd:=by
 unfold Qas at h;simp only[Bool.and_eq_true,List.all_eq_true,List.mem_range,Bool.or_eq_true,List.any_eq_true] at h;obtain⟨⟨⟨⟨h1,h2⟩,h3⟩,h4⟩,h5⟩:=h;refine⟨YNB h1,λj hj i hi=>YNL (h3 j hj i hi),λj hj i hi=>?_,λj hj i hi=>?_⟩
 ·simp_all
 grind [QY]
section
variable {P:Program} {GL:Globs} {Z:PZ}
theorem Zap{ops:List Oper}{ms:List MOper}{hd:List (List Nat)}(D:DrawFacts ops ms hd){S:Nat→Bool}(hS:∀j,S j=true→j<ms.length∧∀i∈waits (ops.getD j default),S i=true) :
  ∀(j:Nat),j<ms.length→(∀i∈waits (ops.getD j default),S i=true)→∀i∈Yj hd j,S i=true:=by
 intro j
 induction j using Nat.strongRecOn with
 |_ j ih=>
  intro hj hw i hi;rcases (D.ahd j hj i hi).2 with q|⟨k,q,q'⟩
  ·exact hw i q
  ·have hk:=hw k q;exact ih k (D.back j hj k q) (hS k hk).1 (hS k hk).2 i q'
theorem Z0{o:Oper}{i:Nat}:i∈waits o↔∃e∈o.after,Region.binds .any e=true∧e.on=i:=by
 grind [waits]
theorem ZI(ops:Array Oper)(j:Nat){o:Oper}(h:ops[j]?=some o):ops.toList.getD j default=o:=by
 simp_all
theorem Za1{n:Nat}{ops:Array Oper}{ms:List MOper}{hd:List (List Nat)}(hsz:ops.size=ms.length)(hok:∀(j:Nat) (m:MOper),ms[j]?=some m→∃o,ops[j]?=some o∧OperOk P GL n ops o m)(hdr:Qas ops.toList ms hd=true)
 {ρ:Frame}{σ:List ABlk}{ts:List TS}{K:Frame→List ABlk→Log→Prop}(htr:Tr P GL ms ts ρ σ [] K)(hap:Xf hd (ts.map λx=>(x.rd,x.up.map (·.1)))=true)
 {w0:World}{L:Ln}{g:Gm}{rnd:Option Nat}(Q:Exit→Act→World→Prop)(hQ:∀g' ρ' σ' a w,g.Le g'→Rep GL w0 L g' (hp σ') w→DenF n g' ρ' a→K ρ' σ' (ts.map λx=>(x.rd,x.up.map (·.1)))→Q .normal a w) :
  ∀(fuel:Nat) (listed:Array Bool) (a:Act) (w:World),listed.size=ms.length→(∀j,listed.getD j false=true→j<ms.length∧∀i∈waits (ops.toList.getD j default),listed.getD i false=true) →
   cnt (λk=>listed.getD k false) ms.length≤fuel→(∃g' ρ',g.Le g'∧Rep GL w0 L g' (hpS (λk=>listed.getD k false) 0 ts (hp σ)) w∧DenF n g' ρ' a∧∀t,fget ρ' t=fget (frS (λk=>listed.getD k false) 0 ms ts ρ) t) →
   wpAnyIn (wz rnd) 0 P .any ops Q fuel listed a w:=by
 have D:=ZU hdr;obtain⟨hlen,hat,ρf,σf,hf1,hf2,hf3⟩:=Ycd ms ts 0 ρ σ [] K htr;rw[List.nil_append] at hf3;have hA:∀j,j<ms.length→∀i,i<j→i∈Yj hd j∨apart2 (Qp (ts.map λx=>(x.rd,x.up.map (·.1))) i) (Qp (ts.map λx=>(x.rd,x.up.map (·.1))) j)=true:=by
  intro j hj i hi;unfold Xf at hap;simp only[List.all_eq_true,List.mem_range,List.length_map] at hap;have:=YV (hap j (by omega)) i (Qp (ts.map λx=>(x.rd,x.up.map (·.1))) i) (by
   grind [Qp])
  rwa [Nat.zero_add] at this
 have hlog:∀j x,ts[j]?=some x→Qp (ts.map λx=>(x.rd,x.up.map (·.1))) j=(x.rd,x.up.map (·.1)):=by
  simp_all [Qp]
 have fin:∀(listed:Array Bool) (a:Act) (w:World),(∀k,k<ms.length→listed.getD k false=true)→(∃g' ρ',g.Le g'∧Rep GL w0 L g' (hpS (λk=>listed.getD k false) 0 ts (hp σ)) w∧DenF n g' ρ' a∧∀t,fget ρ' t=fget (frS (λk=>listed.getD k false) 0 ms ts ρ) t)→Q .normal a w:=by
  rintro listed a w hall ⟨g',ρ',h1,h2,h3,h4⟩;refine hQ g' ρf σf a w h1 ?_ ?_ hf3
  ·rw[hf2];have:hpS (λk=>listed.getD k false) 0 ts (hp σ)=hpS (λ_=>true) 0 ts (hp σ):=by
    funext b
    simp_all [YL,List.getElem?_eq_some_iff]
   rw[←this]; exact h2
  ·refine h3.weak (λt=>.inl ?_);rw[hf1 t,h4 t];refine ZL _ _ _ _ _ (λk m e _=>?_) rfl
   grind
 have rdy:∀(listed:Array Bool),listed.size=ms.length→Region.ready .any ops listed=[]→∀k,k<ms.length→listed.getD k false=true:=by
  intro listed hs hr k
  induction k using Nat.strongRecOn with
  |_ k ih=>
   intro hk;cases hl:listed.getD k false with
   |true=>rfl
   |false=>
    exfalso;have hko:ops[k]?=some ops[k]:=by simp
    have:k∈Region.ready .any ops listed:=by
     rw[mem_ready];refine⟨?_,ops[k],hko,λe he hb=>?_⟩
     ·simp_all
     ·have hw:e.on∈waits (ops.toList.getD k default):=by rw[ZI ops k hko,Z0]; exact⟨e,he,hb,rfl⟩
      have hlt:=D.back k hk _ hw;exact ih e.on hlt (by omega)
    rw[hr] at this; cases this
 intro fuel
 induction fuel with
 |zero=>
  intro listed a w hs hS hc hst;have hall:=YaJ (Nat.le_zero.1 hc);refine⟨?_,fin listed a w hall hst⟩;cases hr:Region.ready .any ops listed with
  |nil=>rfl
  |cons k r=>
   exfalso;have:k∈Region.ready .any ops listed:=by rw[hr]; simp
   grind [mem_ready]
 |succ fuel ih=>
  intro listed a w hs hS hc hst;refine⟨λhr=>fin listed a w (rdy listed hs hr) hst,λj hj=>?_⟩;obtain⟨h1,o,ho,hedge⟩:=mem_ready.1 hj;have hjn:j<ms.length:=by grind
  have hSj:listed.getD j false=false:=by
   grind
  have hwj:∀i∈waits (ops.toList.getD j default),listed.getD i false=true:=by
   intro i hi;rw[ZI ops j ho,Z0] at hi
   grind
  have hhd:=Zap D (S:=λk=>listed.getD k false) hS j hjn hwj;have hmj:ms[j]?=some ms[j]:=by simp
  have htj:ts[j]?=some (ts[j]'(by omega)):=by simp[show j<ts.length by omega]
  generalize hmd:ms[j]=m at hmj;generalize hxd:(ts[j]'(by omega))=x at htj;have hmD:ms.getD j default=m:=by grind
  obtain⟨o',ho',oko⟩:=hok j m hmj;rw[ho] at ho'; cases ho';obtain⟨ρj,q1,q2⟩:=hat j m x hmj htj;simp only[Nat.zero_add] at q1 q2;obtain⟨g',ρ',s1,s2,s3,s4⟩:=hst;have key:∀k,k<ms.length→(k<j→k∈Yj hd j)→(j<k→j∈Yj hd k)→(k≠j)→(listed.getD k false=decide (k<j)):=by
   intro k hk ha hb hne;by_cases hlt:k<j
   ·grind
   ·rw[YDF hlt];have hgt:j<k:=by omega
    cases hl:listed.getD k false with
    |false=>rfl
    |true=>
     have:listed.getD j false=true:=Zap D (S:=λk=>listed.getD k false) hS k hk (hS k hl).2 j (hb hgt);rw[hSj] at this; cases this
  have hslot:∀t,(t∈usesT m)→∀k mk,ms[k]?=some mk→mk.dst=some t→k≠j→listed.getD k false=decide (k<j):=by
   intro t ht k mk hk hdst hne;have hkn:k<ms.length:=(YLG hk).1;have hkD:ms.getD k default=mk:=by grind
   have hdef:t∈defsT mk:=by unfold defsT; rw[hdst]; simp
   refine key k hkn (λhlt=>?_) (λhgt=>?_) hne
   ·rcases D.slots j hjn k hlt with q|⟨q,_,_⟩
    ·exact q
    grind
   ·rcases D.slots k hkn j hgt with q|⟨_,_,q⟩
    ·exact q
    grind
  have hblk:∀b,(b∈x.rd∨b∈x.up.map (·.1))→∀k xk,ts[k]?=some xk→b∈xk.up.map (·.1)→k≠j→listed.getD k false=decide (k<j):=by
   intro b hb k xk hk hin hne;have hkn:k<ms.length:=by grind
   refine key k hkn (λhlt=>?_) (λhgt=>?_) hne
   ·rcases hA j hjn k hlt with q|q
    ·exact q
    ·rw[hlog k xk hk,hlog j x htj] at q;simp only[apart2,Bool.and_eq_true] at q
     grind [QY]
   ·rcases hA k hkn j hgt with q|q
    ·exact q
    ·rw[hlog k xk hk,hlog j x htj] at q;simp only[apart2,Bool.and_eq_true] at q
     grind [QY]
  have hjself:∀k,k=j→listed.getD k false=decide (k<j):=by rintro k rfl; rw[hSj]; simp
  have heq:∀b,(b∈x.rd∨b∈x.up.map (·.1))→hpS (λk=>listed.getD k false) 0 ts (hp σ) b=hpS (λk=>decide (k<j)) 0 ts (hp σ) b:=by
   intro b hb;refine YL _ _ _ _ (λk xk e1 e2=>?_) rfl
   grind
  unfold wpOpIn;simp only[ho];refine q2 n ops o oko ρ' _ w0 L g' w a (λt ht=>?_) (λb hb=>heq b (.inl hb)) (λp hp'=>heq p.1 (.inr (List.mem_map.2 ⟨p,hp',rfl⟩))) s2 s3 rnd _ _ (λg2 w2 u hle hr hd2=>?_)
  ·rw[s4 t,q1 t];refine ZL _ _ _ _ _ (λk mk e1 e2=>?_) rfl
   grind
  ·have hset:∀k,k<ms.length→(listed.setIfInBounds j true).getD k false=if k=j then true else listed.getD k false:=by
    intro k hk;by_cases hkj:k=j
    ·subst hkj; simp[show k<listed.size by omega]
    ·rw[YIN hkj]; simp[Array.getElem?_setIfInBounds_ne (Ne.symm hkj)]
   have hset':∀k,(listed.setIfInBounds j true).getD k false=if k=j then true else listed.getD k false:=by
    intro k;by_cases hk:k<ms.length
    ·exact hset k hk
    ·rw[YIN (by omega)]
     grind
   refine ih _ _ _ (by simpa using hs) (λk hk=>?_) ?_ ⟨g2,putF m.dst x.v ρ',s1.trans hle,?_,hd2,λt=>?_⟩
   ·rw[hset'] at hk;by_cases hkj:k=j
    ·subst hkj;refine⟨hjn,λi hi=>?_⟩;rw[hset']; split
     ·rfl
     ·exact hwj i hi
    ·rw[YIN hkj] at hk;refine⟨(hS k hk).1,λi hi=>?_⟩;rw[hset']; split
     ·rfl
     ·exact(hS k hk).2 i hi
   ·have:=Yba (S:=λk=>listed.getD k false) (S':=λk=>(listed.setIfInBounds j true).getD k false) (j:=j) (n:=ms.length) hjn hSj (by simp only[hset']; simp) (λk hk hne=>by simp only[hset']; rw[YIN hne]);omega
   ·have:hpS (λk=>(listed.setIfInBounds j true).getD k false) 0 ts (hp σ)=hups (hpS (λk=>listed.getD k false) 0 ts (hp σ)) x.up:=by
     funext b
     by_cases hb:b∈x.up.map (·.1)
     ·refine Zbf ts 0 (hp σ) j x htj hb (by rw[Nat.zero_add,hset',YIP rfl]) (λk xk e1 e2 e3=>?_) _;rw[Nat.zero_add,hset'] at e3;by_cases hkj:k=j
      ·omega
      grind
     ·rw[ZaK _ _ _ hb];refine YL _ _ _ _ (λk xk e1 e2=>?_) rfl;rw[Nat.zero_add];simp only[hset'];have hkj:k≠j:=by grind
      rw[YIN hkj]
    rw[this]; exact hr
   ·rw[ZQ];by_cases hdt:m.dst=some t
    ·rw[YIP hdt];refine(Zbe ms ts 0 ρ j m x hmj htj hdt (by rw[Nat.zero_add,hset',YIP rfl]) (λk mk e1 e2 e3=>?_)).symm;rw[Nat.zero_add,hset'] at e3;by_cases hkj:k=j
     ·omega
     ·rw[YIN hkj] at e3;have hkn:k<ms.length:=(YLG e1).1;have hkD:ms.getD k default=mk:=by grind
      have hdefm:t∈defsT m:=by unfold defsT; rw[hdt]; simp
      have hdefk:t∈defsT mk:=by unfold defsT; rw[e2]; simp
      have:=key k hkn (λhlt=>by
       rcases D.slots j hjn k hlt with q|⟨_,q,_⟩
       ·exact q
       grind) (λhgt=>by
       rcases D.slots k hkn j hgt with q|⟨_,q,_⟩
       ·exact q
       grind) hkj
      grind
    ·rw[YIN hdt,s4 t];refine ZL _ _ _ _ _ (λk mk e1 e2=>?_) rfl;rw[Nat.zero_add];simp only[hset'];have hkj:k≠j:=by grind
     rw[YIN hkj]
theorem ZbM(hP:POk P){n:Nat}{id:Nat}{ms:List MOper}{hd:List (List Nat)}{ρ:Frame}{σ:List ABlk}{Q:APost}
 (h:AwpR true P GL Z ms ρ σ [] (λρ' σ' lg=>Xf hd lg=true∧Q .normal ρ' σ')):Awp P GL Z n (.region id ms (some hd)) ρ σ Q:=by
 intro c hc rnd hr w0 L g a w r d;cases hc with
 |draw _ ops _ _ hsz hok hdr=>
  obtain⟨ts,htr⟩:=Zay ms ρ σ [] _ h;obtain⟨hlen,_,ρf,σf,_,_,hf3⟩:=Ycd ms ts 0 ρ σ [] _ htr;rw[List.nil_append] at hf3;refine wpIn_region_any hP.1 ?_;refine Za1 (w0:=w0) (L:=L) (g:=g) hsz hok hdr htr hf3.1 _ (λg' ρ' σ' a' w' k1 k2 k3 k4=>⟨g',ρ',σ',k1.toK,k2,k3,k4.2⟩) ops.size _ a _ (by simp[hsz]) (λj hj=>?_) ?_ ⟨g,ρ,Gm.Le.refl g,?_,d,λt=>?_⟩
  ·exfalso;rw[Array.getD_eq_getD_getElem?,Array.getElem?_replicate] at hj;split at hj<;>simp at hj
  ·rw[hsz];have:∀m,cnt (λk=>(Array.replicate ms.length false).getD k false) m≤m:=by
    intro m
    induction m<;>grind [cnt]
   exact this _
  ·have hF:(λk=>(Array.replicate ops.size false).getD k false)=λ_=>false:=by
    funext k; rw[Array.getD_eq_getD_getElem?,Array.getElem?_replicate]; split<;>rfl
   rw[hF];have hid:∀(ts:List TS) (i:Nat) (h:Hp),hpS (λ_=>false) i ts h=h:=by
    intro ts
    induction ts<;>simp_all [hpS]
   rw[hid];exact r.drew
  ·have hF:(λk=>(Array.replicate ops.size false).getD k false)=λ_=>false:=by
    funext k; rw[Array.getD_eq_getD_getElem?,Array.getElem?_replicate]; split<;>rfl
   rw[hF];have hid:∀(ms:List MOper) (ts:List TS) (i:Nat) (ρ:Frame),frS (λ_=>false) i ms ts ρ=ρ:=by
    intro ms
    induction ms with
    |nil=>intros; simp[frS]
    |cons m ms ih=>intro ts i ρ; cases ts<;>grind [frS]
   rw[hid]
end
end Go.Ah
end
section
namespace Go.Ah
theorem Steps.peel{P:Program}{m m₁ t:Machine}(h:Steps P m t)(hs:step P m=.next m₁):t=m∨Steps P m₁ t:=by
 obtain⟨n,hn⟩:=h;cases n with
 |zero=>simp[runN] at hn; exact .inl hn.symm
 |succ n=>simp only[runN,hs] at hn; exact .inr ⟨n,hn⟩
theorem Za2:∀(k k':List Item) (id:Nat),exitTo id k=some k'→k'.length≤k.length
  |[],k',id,h=>by simp[exitTo] at h
  |x::k,k',id,h=>by
    have ih:=Za2 k k' id;cases x<;>simp only[exitTo] at h<;>first
      |(have:=ih h; simp; omega)
      | (split at h
         · cases h; simp
         · have:=ih h; simp; omega)
theorem Yau{b:Go.Frame}{a a':Act}{k k':List Item}{cs:List Go.Frame}{w w':World}(h:lone (b.atR a k) cs w=lone (b.atR a' k') cs w'):k=k':=by
 simp_all [lone,Go.Frame.atR]
theorem Qbq{b:Go.Frame}{a a':Act}{k k':List Item}{cs:List Go.Frame}{w w':World}{m:FrameMode}(hm:m≠.run)(h:lone { b.atR a' k' with mode:=m } cs w'=lone (b.atR a k) cs w):False:=by
 simp_all [lone,Go.Frame.atR]
theorem Yag{rnd:Option Nat}{P:Program}{m m':Machine}:StepsIn (Machine.fenced P (wz rnd)) P m m'↔Steps P m m':=
 show StepsIn (Machine.fenced P Fence.wide) P m m'↔_ from stepsIn_wide
theorem Ycs{rnd:Option Nat}{P:Program}{c:Code}{Q:Exit→Act→World→Prop}{a:Act}{w:World}(hQ:∀a w,¬Q .outgrown a w)(hQ2:∀l a w,¬Q (.goto l) a w)(h:(Code.loop c).wpIn (wz rnd) 0 P Q a w)(b:Go.Frame)(k:List Item)(cs:List Go.Frame)(hro:b.roundOf=(wz rnd).round)(hb:(wz rnd).fn b.fn)(hr:(wz rnd).room (cs.length+1+0)) :
  ∃e a' w',Q e a' w'∧ArrivesIn (Machine.fenced P (wz rnd)) P (lone (b.atR a (.code c::.inLoop c::k)) cs w) b k cs e a' w':=by
 obtain⟨e,a',w',hq,harr⟩:=h b k cs hro hb hr;refine⟨e,a',w',hq,?_⟩;have peel:∀m',StepsIn (Machine.fenced P (wz rnd)) P (lone (b.atR a (.code (.loop c)::k)) cs w) m'→m'=lone (b.atR a (.code (.loop c)::k)) cs w∨StepsIn (Machine.fenced P (wz rnd)) P (lone (b.atR a (.code c::.inLoop c::k)) cs w) m':=by
  intro m' hs;rcases Steps.peel (Yag.1 hs) stepR_loop with e|e
  ·exact .inl e
  ·exact .inr (Yag.2 e)
 cases e with
 |normal=>
  rcases peel _ harr with e|e
  ·have:=Yau e; have:=congrArg List.length this; simp at this
  ·exact e
 |exit id=>
  refine⟨λk' hk=>?_,λhr' hk=>?_⟩
  ·rcases peel _ (harr.1 k' hk) with e|e
   ·have:=Yau e; have:=congrArg List.length this; have:=Za2 _ _ _ hk; simp at *; omega
   ·exact e
  ·obtain⟨k₁,h1,h2⟩:=harr.2 hr' hk;refine⟨k₁,h1,?_⟩;rcases peel _ h2 with e|e
   ·have:=Yau e; simp at this
   ·exact e
 |goto l=>exact(hQ2 _ _ _ hq).elim
 |ret=>
  refine⟨λhr'=>?_,λhr'=>?_⟩
  ·obtain⟨todo,hs⟩:=harr.1 hr';refine⟨todo,?_⟩;rcases peel _ hs with e|e
   ·exact(Qbq (by simp) e).elim
   ·exact e
  ·obtain⟨k₁,h2⟩:=harr.2 hr';refine⟨k₁,?_⟩;rcases peel _ h2 with e|e
   ·have:=Yau e; simp at this
   ·exact e
 |panic ch=>
  obtain⟨todo,hs⟩:=harr;refine⟨todo,?_⟩;rcases peel _ hs with e|e
  ·exact(Qbq (by simp) e).elim
  ·exact e
 |outgrown=>exact(hQ _ _ hq).elim
theorem XaZ{rnd:Option Nat}{P:Program}{c:Code}{Q:Exit→Act→World→Prop}{a:Act}{w:World}(hQ:∀a w,¬Q .outgrown a w)(hQ2:∀l a w,¬Q (.goto l) a w)
 (h:c.wpIn (wz rnd) 0 P (Exit.then (λa w=>(Code.loop c).wpIn (wz rnd) 0 P Q a w) Q) a w):(Code.loop c).wpIn (wz rnd) 0 P Q a w:=by
 intro b k cs hro hb hr;have s1:∀a w,StepsIn (Machine.fenced P (wz rnd)) P (lone (b.atR a (.code (.loop c)::k)) cs w) (lone (b.atR a (.code c::.inLoop c::k)) cs w):=λa w=>Yag.2 (.one stepR_loop);have s2:∀a w,StepsIn (Machine.fenced P (wz rnd)) P (lone (b.atR a (.inLoop c::k)) cs w) (lone (b.atR a (.code c::.inLoop c::k)) cs w):=λa w=>Yag.2 (.one stepR_inLoop);obtain⟨e,a₁,w₁,hq,harr⟩:=h b (.inLoop c::k) cs hro hb hr;cases e with
 |normal=>
  obtain⟨e₂,a₂,w₂,hq₂,harr₂⟩:=Ycs hQ hQ2 hq b k cs hro hb hr;exact⟨e₂,a₂,w₂,hq₂,.of_steps (s1 _ _) (.of_steps (StepsIn.trans harr (s2 _ _)) harr₂)⟩
 |exit id=>exact⟨_,a₁,w₁,hq,.of_steps (s1 _ _) (.pass (x:=.inLoop c) rfl (λ_ _=>.inl (by simp)) harr)⟩
 |goto l=>exact(hQ2 _ _ _ hq).elim
 |ret=>exact⟨_,a₁,w₁,hq,.of_steps (s1 _ _) (.pass (x:=.inLoop c) rfl (λ_ _=>.inl (by simp)) harr)⟩
 |panic ch=>exact⟨_,a₁,w₁,hq,.of_steps (s1 _ _) (.pass (x:=.inLoop c) rfl (λ_ _=>.inl (by simp)) harr)⟩
 |outgrown=>exact(hQ _ _ hq).elim
theorem Yb5{P:Program}{GL:Globs}{Z:PZ}{n:Nat}{x:MCode}{ρ:Frame}{σ:List ABlk}{Q:APost}(h:Awp P GL Z n x ρ σ (APost.andThen (λρ σ=>Awp P GL Z n (.loop x) ρ σ Q) Q)):Awp P GL Z n (.loop x) ρ σ Q:=by
 intro c hc rnd hr w0 L g a w r d;cases hc with
 |loop c1 _ h1=>
  refine XaZ (λa w h=>h) (λl a w h=>h) (wpIn_mono (h c1 h1 rnd hr w0 L g a w r d) (λe a' w' hl=>?_));cases e with
  |normal=>
   obtain⟨g',ρ',σ',k1,k2,k3,k4⟩:=hl;exact wpIn_mono (k4 (.loop c1) (.loop _ _ h1) rnd hr w0 L g' a' w' k2 k3) (LiftQ.mono k1 (λ_ _ _ q=>q))
  |_=>exact hl
def Zk:MK→List AVal→Option (Nat×List AVal)
 |.call f,xs=>some (f,xs)
 |.callv,.func (.func f) first captured::xs=>some (f,first++xs++captured)
 |.invoke _ tbl,.iface t v::xs=>match ZaV t tbl with
  |some f=>some (f,v::xs)
  |none=>none
 |_,_=>none
section
variable {P:Program} {GL:Globs} {Z:PZ}
theorem Xa6{F:MFn}{f:FuncId}{k:MK}{xs ys:List AVal}(hc:Zk k xs=some (f,ys))(hp:Qi P f=true)(ok:FnOk P GL f F)(hn:ys.length=F.np){σ:List ABlk}{R:KT}
 (h:Awp P GL Z F.n F.body (frame0 ys) σ (λe ρ σ'=>(e=.normal∨e=.ret)∧∃v,retV F.rets ρ σ'=some v∧R v σ')):OpRelP P GL k xs σ R Z:=by
 have key:=Zaw (P:=P) (GL:=GL) ok hn h;intro o os hco w0 L g w a r hx;unfold Zk at hc;split at hc
 ·cases hc;generalize ho:o.op=op at hco;cases hco with
  |call _ args ts _=>
   have hrun:(execOp a.eval o).run P w=.ok (.enter f (args.map a.eval)) w:=by
    simp_all [execOp,resolve,Act.eval,Deferred.ofValue,invoke,QB]
   rw[hrun];have:=key w0 L g w _ r hx
   rwa [←Array.toList_map,Array.toArray_toList] at this
 ·rename_i first captured xs'
  cases hc;generalize ho:o.op=op at hco;cases hco with
  |callv x args ts=>
   obtain⟨d,dr⟩:=hx;generalize hu:a.eval x=u0 at d;cases d with
   |func _ _ _ _ vs ws h1 h2 h3 h4=>
    have hrun:(execOp a.eval o).run P w=.ok (.enter f (vs++args.map a.eval++ws)) w:=by
     simp_all [execOp,resolve,Deferred.ofValue,invoke,QB]
    rw[hrun];have hl:=dr.length;simp at hl;have:=key w0 L g w (vs ++ args.map a.eval ++ ws).toList r (DenL.of_get (by simp[h1,h2,hl]) (λi y u e1 e2=>by
     simp only[Array.toList_append] at e2;by_cases hi:i<first.length
     ·rw[List.append_assoc,List.getElem?_append_left hi] at e1;rw[List.append_assoc,List.getElem?_append_left (by simpa[h1] using hi)] at e2;exact h3 i y u e1 (by simpa using e2)
     ·by_cases hi2:i<first.length+xs'.length
      ·rw[List.append_assoc,List.getElem?_append_right (by omega),List.getElem?_append_left (by omega)] at e1;rw[List.append_assoc,List.getElem?_append_right (by simp; omega),List.getElem?_append_left (by simp; omega)] at e2;refine dr.get (i-first.length) y u e1 ?_;simpa[h1] using e2
      ·rw[List.getElem?_append_right (by simp; omega)] at e1;rw[List.getElem?_append_right (by simp; omega)] at e2;refine h4 (i - (first ++ xs').length) y u e1 ?_;simpa[h1,hl] using e2))
    rwa [Array.toArray_toList] at this
 ·rename_i name tbl ty v xs';split at hc
  ·rename_i f' hl;cases hc;generalize ho:o.op=op at hco;cases hco with
   |invoke y _ args ts _ hok=>
    obtain⟨d,dr⟩:=hx;generalize hu:a.eval y=u0 at d;cases d with
    |iface _ _ _ vv hvv=>
     obtain⟨k1,k2⟩:=hok _ (Zan hl);have hrun:(execOp a.eval o).run P w=.ok (.enter f (#[vv]++args.map a.eval)) w:=by
      simp only[execOp,ho,resolve,Sem.run_bind,hu,Sem.run_pure,Result.andThen_ok,invoke];have e0:(#[Value.iface ty vv]++args.map a.eval)[0]?=some (Value.iface ty vv):=by grind
      have e1:(#[Value.iface ty vv]++args.map a.eval).extract 1 (#[Value.iface ty vv]++args.map a.eval).size=args.map a.eval:=by
       simp
      grind [Za5]
     rw[hrun];have:=key w0 L g w (vv::(args.map a.eval).toList) r ⟨hvv,by rwa [Array.toList_map]⟩;have e2:(vv::(args.map a.eval).toList).toArray = #[vv]++args.map a.eval:=by apply Array.ext'; simp
     rw[e2] at this;exact this
  ·cases hc
 ·cases hc
end
end Go.Ah
end
section
namespace Go.Ah
def nilOf:NilCls→Value→Bool
 |.ptr,.pointer none=>true
 |.slice,.slice none 0 0=>true
 |.iface,.nilIface=>true
 |.func,.nilFunc=>true
 |.map,.map none=>true
 |_,_=>false
theorem YcN{c:NilCls}{v:Value}(h:nilOf c v=true):v=nilV c:=by
 unfold nilOf at h;split at h<;>first|rfl|cases h
def optB{α β:Type}(o:Option α)(f:α→Option β):Option β:=match o with
 |some a=>f a
 |none=>none
theorem Xa{α β:Type}{o:Option α}{f:α→Option β}{b:β}(h:optB o f=some b):∃a,o=some a∧f a=some b:=by
 cases o with
 |none=>cases h
 |some a=>exact⟨a,rfl,h⟩
def Yw{β:Type}(c:Bool)(x:Option β):Option β:=match c with
 |true=>x
 |false=>none
theorem Yg{β:Type}{c:Bool}{x:Option β}{b:β}(h:Yw c x=some b):c=true∧x=some b:=by
 cases c with
 |true=>exact⟨rfl,h⟩
 |false=>cases h
def mapM'{α β:Type}(f:α→Option β):List α→Option (List β)
 |[]=>some []
 |a::l=>optB (f a) λb=>optB (mapM' f l) λr=>some (b::r)
theorem QbQ{α β:Type}(f:α→Option β):∀(l:List α),l.mapM f=mapM' f l
 |[]=>rfl
 |a::l=>by
  rw[List.mapM_cons,QbQ f l,mapM'];cases f a with
  |none=>rfl
  |some b=>cases mapM' f l<;>rfl
def zeroCells(P:Program)(t:TypeId):Option (List AVal):=optB (zero? P t) λv=>QC v.cells.toList
def YaP(P:Program)(t:TypeId):Bool:=match P.underlying t with
 |some .bool=>true
 |_=>false
theorem QaA{P:Program}{t:TypeId}(h:YaP P t=true):P.underlying t=some .bool:=by
 grind [YaP]
def Zcr(P:Program)(t:TypeId):Bool:=match P.underlying t with
 |some .string=>true
 |_=>false
theorem Ycr{P:Program}{t:TypeId}(h:Zcr P t=true):P.underlying t=some .string:=by
 grind [Zcr]
def intT?(P:Program)(t:TypeId):Option IntKind:=match P.underlying t with
 |some (.int k)=>some k
 |_=>none
theorem Xc2{P:Program}{t:TypeId}{k:IntKind}(h:intT? P t=some k):P.underlying t=some (.int k):=by
 grind [intT?]
theorem ZbP{P:Program}{t e:TypeId}(h:elemS? P t=some e):P.underlying t=some (.slice e):=by
 grind [elemS?]
def keyT?(P:Program)(k:TypeId):Option Bool:=match P.underlying k with
 |some .string=>some true
 |some (.int _)=>some false
 |_=>none
theorem ZbG{P:Program}{k:TypeId}{s:Bool}(h:keyT? P k=some s):KeyT P k s:=by
 unfold keyT? at h;split at h
 ·rename_i e; cases h; exact e
 ·rename_i q e; cases h; exact⟨q,e⟩
 ·cases h
def YbS(c:NilCls):Operand→Bool
 |.const v=>nilOf c v
 |_=>false
theorem Qbr{c:NilCls}{x:Operand}(h:YbS c x=true):x=.const (nilV c):=by
 cases x<;>simp only[YbS] at h<;>first|cases h|rw[YcN h]
def eqOp:BinOp→Option Bool
 |.eql=>some false
 |.neq=>some true
 |_=>none
theorem Ycp{op:BinOp}{b:Bool}(h:eqOp op=some b):op=if b then .neq else .eql:=by
 grind [eqOp]
def Ydi(P:Program)(t:TypeId):Bool:=match P.underlying t with
 |some (.array _ e)=>match P.underlying e with
  |some .string=>true
  |_=>false
 |_=>false
def QbC(P:Program)(op:BinOp)(t:TypeId)(x y:Operand):Option (MK×List Operand):=
 match eqOp op with
 |none=>some (.bin op (YaP P t),[x,y])
 |some neq=>match clsT P t with
  |some c=>match YbS c y with
   |true=>some (.eqNil c neq false,[x,y])
   |false=>match YbS c x with
    |true=>some (.eqNil c neq true,[x,y])
    |false=>some (.bin op (YaP P t),[x,y])
  |none=>match leaves? P t with
   |some ls=>Yw (!P.stoodInHeld t && !P.eqGuardType P.depth t) (some (.eqS neq ls,[x,y]))
   |none=>Yw (!Ydi P t) (some (.bin op (YaP P t),[x,y]))
def srcT?(P:Program)(t:TypeId):Option Unit:=match P.underlying t with
 |some (.slice _)=>some ()
 |some .string=>some ()
 |_=>none
theorem Yc5{P:Program}{t:TypeId}{u:Unit}(h:srcT? P t=some u):∃d,P.underlying t=some d∧∀k,d≠.int k:=by
 unfold srcT? at h;split at h
 ·rename_i hu; exact⟨_,hu,by simp⟩
 ·rename_i hu; exact⟨_,hu,by simp⟩
 ·cases h
def Xba(P:Program)(c:Call):Option (MK×List Operand):=
 match c.callee with
 |.value (.func f)=>Yw (Qi P f) (some (.call f,c.args.toList))
 |.value x=>some (.callv,x::c.args.toList)
 |.invoke x name=>some (.invoke name (Yct P name),x::c.args.toList)
 |.builtin .len=>match c.args.toList,c.argTypes.toList with
  |[x],[t]=>match P.underlying t with
   |some (.slice _)=>some (.lenS,[x])
   |some .string=>some (.lenStr,[x])
   |some (.array n _)=>some (.lenA n,[x])
   |some (.map _ _)=>some (.lenM,[x])
   |_=>none
  |_,_=>none
 |.builtin .clear=>match c.args.toList,c.argTypes.toList with
  |[x],[t]=>optB (elemS? P t) λe=>optB (size? P e) λn=>optB (zero? P e) λv=>optB (QC v.cells.toList) λz=>
   Yw (Nat.beq v.cells.size n && !(Nat.beq n 0)) (some (.clearS n z,[x]))
  |_,_=>none
 |.builtin .min=>match c.args.toList with
  |[x,y]=>some (.min2,[x,y])
  |_=>none
 |.builtin .max=>match c.args.toList with
  |[x,y]=>some (.max2,[x,y])
  |_=>none
 |.builtin .append=>match c.args.toList,c.argTypes.toList with
  |[x,y],[t,t']=>optB (elemS? P t) λe=>optB (srcT? P t') λ_=>optB (size? P e) λn=>optB (zero? P e) λv=>optB (QC v.cells.toList) λz=>
   Yw (Nat.beq v.cells.size n&&(!(Nat.beq (P.bytesOf e) 0) && !(Nat.beq n 0))) (some (.append n (P.bytesOf e) z,[x,y]))
  |_,_=>none
 |_=>none
def XbI:Operand→Operand→Bool
 |.tmp a,.tmp b=>Nat.beq a b
 |.const (.int k a),.const (.int k' b)=>ikEq k k'&&decide (a=b)
 |_,_=>false
theorem Xb9{x y:Operand}(h:XbI x y=true):x=y:=by
 unfold XbI at h;split at h
 ·rw[YNB h]
 ·simp only[Bool.and_eq_true,YDE] at h;rw[YQ h.1,h.2]
 ·cases h
def implB(P:Program)(ms:Array (String×TypeId))(t:TypeId):Bool:=match P.info? t with
 |some i=>match i.methods.size with
  |0=>false
  |_=>ms.toList.all λp=>i.methods.any λm=>m.name==p.1&&m.sig==p.2
 |none=>false
def Qcq(P:Program)(ms:Array (String×TypeId)):List TypeId:=(List.range P.types.size).filter (implB P ms)
theorem Xb7{P:Program}{ms:Array (String×TypeId)}{q:TypeId}(h:q∈Qcq P ms):∃i,P.info? q=some i∧Instr.missingMethod ms i.methods=none:=by
 have h:=(List.mem_filter.1 h).2;unfold implB at h;split at h
 ·rename_i i hi;refine⟨i,hi,?_⟩;split at h
  ·cases h
  ·have e:(ms.toList.filter λ(x:String×TypeId)=>!i.methods.any λm=>m.name==x.1&&m.sig==x.2)=[]:=by
    grind [List.filter_eq_nil_iff]
   unfold Instr.missingMethod;simp only;rw[show (List.filter (λx=>match x with|(name,sig)=>!i.methods.any λm=>m.name==name&&m.sig==sig) ms.toList)=[] from e];rfl
 ·cases h
def Zcl(P:Program):Op→Option (MK×List Operand)
 |.move x=>some (.mv,[x])
 |.assign x=>some (.mv,[x])
 |.pick c a b=>some (.pick,[c,a,b])
 |.alloc t=>optB (zeroCells P t) λz=>some (.alloc z,[])
 |.box _ x=>some (.box,[x])
 |.build t parts=>match P.underlying t with
  |some (.struct fs)=>optB (zeroCells P t) λz=>optB (mapM' (λf=>(P.info? f.type).map λi=>(f.offset,i.size)) fs.toList) λplaces=>
   optB (mapM' (λ(p:Nat×Operand)=>places[p.1]?) parts.toList) λps=>some (.build z ps,parts.toList.map (·.2))
  |some (.array _ e)=>optB (zeroCells P t) λz=>optB (size? P e) λsz=>some (.build z (parts.toList.map (λp=>(p.1*sz,sz))),parts.toList.map (·.2))
  |_=>none
 |.buildSlice t 0 parts=>optB (elemS? P t) λe=>optB (size? P e) λsz=>match parts.toList with
  |[]=>some (.buildS0 sz,[])
  |_=>none
 |.makeSlice t l c=>optB (elemS? P t) λe=>optB (size? P e) λn=>optB ((P.info? e).map (·.bytes)) λby_=>optB (zero? P e) λv=>optB (QC v.cells.toList) λz=>
  Yw (!(Nat.beq n 0) && Nat.beq v.cells.size n) (match XbI l c with
   |true=>some (.makeS n by_ z,[l])
   | false=>none)
 |.buildSlice t n parts=>optB (elemS? P t) λe=>optB (size? P e) λsz=>optB (zero? P e) λv=>optB (QC v.cells.toList) λz0=>
  Yw (Nat.ble (n*sz) (2 ^ 24)&&(!(Nat.beq (n*sz) 0)&&Nat.beq v.cells.size sz)) (some (.buildS sz n (List.replicate n z0).flatten (parts.toList.map (λp=>(p.1*sz,sz))),parts.toList.map (·.2)))
 |.load t x=>optB (isAgg? P t) λagg=>optB (size? P t) λn=>some (.load agg n,[x])
 |.store t x y=>optB (size? P t) λn=>some (.store n,[x,y])
 |.nilCheck x=>some (.nilCheck,[x])
 |.binOp op t x y _=>QbC P op t x y
 |.unOp op _ x=>some (.un op,[x])
 |.convert s d x=>Yw (P.underlying s).isSome (optB (intT? P d) λk=>some (.conv k,[x]))
 |.makeInterface t x=>Yw (P.concrete t) (some (.mkIface t,[x]))
 |.makeFunc fn xs ys=>some (.mkFunc fn xs.size,xs.toList++ys.toList)
 |.makeMap _ none=>some (.makeMap,[])
 |.fieldAddr t x f=>match P.underlying t with
  |some (.struct fs)=>optB fs[f]? λfd=>optB (size? P fd.type) λn=>Yw (!(Nat.beq n 0)) (some (.fieldAddr fd.offset,[x]))
  |_=>none
 |.field t x f=>match P.underlying t with
  |some (.struct fs)=>optB fs[f]? λfd=>optB (size? P fd.type) λn=>optB (isAgg? P fd.type) λagg=>some (.field agg fd.offset n,[x])
  |_=>none
 |.indexAddr t x i=>match P.underlying t with
  |some (.array len e)=>optB (size? P e) λn=>some (.idxAddrA len n,[x,i])
  |some (.slice e)=>optB (size? P e) λn=>some (.idxAddrS n,[x,i])
  |_=>none
 |.index t x i=>match P.underlying t with
  |some (.array len e)=>optB (size? P e) λn=>optB (isAgg? P e) λagg=>some (.idxA agg len n,[x,i])
  |some .string=>some (.idxStr,[x,i])
  |_=>none
 |.extract x i=>some (.extract i,[x])
 |.slice t x lo hi mx=>match P.underlying t with
  |some (.slice e)=>optB (size? P e) λn=>some (.sliceS n lo.isSome hi.isSome mx.isSome,[x]++lo.toList++hi.toList++mx.toList)
  |some .string=>match mx with
   |none=>some (.sliceStr lo.isSome hi.isSome,[x]++lo.toList++hi.toList)
   |some _=>none
  |_=>none
 |.call c=>Xba P c
 |.lookup t x i ok=>match P.underlying t with
  |some (.map k e)=>optB (keyT? P k) λstr=>optB (zero? P e) λv=>optB (aVal v) λz=>some (.lookup str ok z,[x,i])
  |_=>none
 |.mapUpdate t x i y=>match P.underlying t with
  |some (.map k _)=>optB (keyT? P k) λstr=>some (.mapUpd str,[x,i,y])
  |_=>none
 |.insert t x i y=>match P.underlying t with
  |some (.map k _)=>optB (keyT? P k) λstr=>some (.mapUpd str,[x,i,y])
  |_=>none
 |.range t x=>Yw (Zcr P t) (some (.range,[x]))
 |.next x true=>some (.next,[x])
 |.typeAssert x _ u ok=>match P.underlying u with
  |some (.interface ms)=>match ok,zero? P u with
   |true,some .nilIface=>some (.assertI (Qcq P ms),[x])
   |_,_=>none
  |_=>Yw (P.concrete u&&(P.underlying u).isSome) (optB (zero? P u) λv=>optB (aVal v) λz=>some (.assertT u ok z,[x]))
 |_=>none
section
variable {P:Program} {GL:Globs} {Z:PZ}
theorem Zb6{op:BinOp}{t t':TypeId}{x y:Operand}{k:MK}{os:List Operand}(h:QbC P op t x y=some (k,os)):Comp P GL (.binOp op t x y t') k os:=by
 unfold QbC at h;split at h
 ·cases h; exact .bin _ _ _ _ _ _ QaA
 ·rename_i neq heq;have hop:=Ycp heq;split at h
  ·rename_i c hc;split at h
   ·rename_i hn;cases h;rw[hop,Qbr hn];exact .eqNilR _ _ _ _ _ hc
   ·split at h
    ·rename_i hn;cases h;rw[hop,Qbr hn];exact .eqNilL _ _ _ _ _ hc
    ·cases h; exact .bin _ _ _ _ _ _ QaA
  ·split at h
   ·rename_i ls hl;obtain⟨hg,h⟩:=Yg h;cases h;simp only[Bool.and_eq_true,Bool.not_eq_true'] at hg;rw[hop];exact .eqS _ _ _ _ _ _ hl hg.1 hg.2
   ·obtain⟨_,h⟩:=Yg h;cases h; exact .bin _ _ _ _ _ _ QaA
theorem Qap{α:Type}{a:Array α}{x:α}(h:a.toList=[x]):a = #[x]:=by
 cases a; simp at h; subst h; rfl
theorem Zaq{α:Type}{a:Array α}{x y:α}(h:a.toList=[x,y]):a = #[x,y]:=by
 cases a; simp at h; subst h; rfl
theorem ZbD{c:Call}{k:MK}{os:List Operand}(h:Xba P c=some (k,os)):Comp P GL (.call c) k os:=by
 unfold Xba at h;obtain⟨callee,args,ts⟩:=c;simp only at h;split at h
 ·obtain⟨hg,h⟩:=Yg h;cases h;exact .call _ _ _ hg
 ·cases h; exact .callv _ _ _
 ·cases h;refine .invoke _ _ _ _ _ (λp hp=>?_)
  grind [Yct]
 ·split at h
  ·rename_i ha ht;have:=Qap ha; subst this;have:=Qap ht; subst this;split at h
   ·rename_i hu; cases h; exact .lenS _ _ _ hu
   ·rename_i hu; cases h; exact .lenStr _ _ hu
   ·rename_i hu; cases h; exact .lenA _ _ _ _ hu
   ·rename_i hu; cases h; exact .lenM _ _ _ _ hu
   ·cases h
  ·cases h
 ·split at h
  ·rename_i ha ht;have:=Qap ha; subst this;have:=Qap ht; subst this;obtain⟨e,he,h⟩:=Xa h;obtain⟨n,hn,h⟩:=Xa h;obtain⟨v,hv,h⟩:=Xa h;obtain⟨z,hz,h⟩:=Xa h;obtain⟨hg,h⟩:=Yg h;simp only[Bool.and_eq_true,Bool.not_eq_true'] at hg;cases h;exact .clearS _ e _ _ v _ he hn (λe0=>by rw[e0] at hg; cases hg.2) hv (YNB hg.1) hz
  ·cases h
 ·split at h
  ·rename_i ha; have:=Zaq ha; subst this; cases h; exact .min2 _ _ _
  ·cases h
 ·split at h
  ·rename_i ha; have:=Zaq ha; subst this; cases h; exact .max2 _ _ _
  ·cases h
 ·split at h
  ·rename_i ha ht;have:=Zaq ha; subst this;have:=Zaq ht; subst this;obtain⟨e,he,h⟩:=Xa h;obtain⟨e',he',h⟩:=Xa h;obtain⟨n,hn,h⟩:=Xa h;obtain⟨v,hv,h⟩:=Xa h;obtain⟨z,hz,h⟩:=Xa h;obtain⟨hg,h⟩:=Yg h;simp only[Bool.and_eq_true,Bool.not_eq_true'] at hg;cases h;exact .append _ _ e _ _ _ _ v _ (ZbP he) (Yc5 he') hn rfl hv (YNB hg.1) hz (λe0=>by rw[e0] at hg; cases hg.2.1) (λe0=>by rw[e0] at hg; cases hg.2.2)
  ·cases h
 ·cases h
theorem Ybr{α β:Type}{f:α→Option β}:∀ {l:List α} {r:List β},mapM' f l=some r→l.map f=r.map some
 |[],r,h=>by simp[mapM'] at h; subst h; rfl
 |a::l,r,h=>by
  obtain⟨b,hb,h⟩:=Xa h;obtain⟨r',hr,h⟩:=Xa h;cases h;simp[hb,Ybr hr]
theorem Ycl{op:Op}{k:MK}{os:List Operand}(h:Zcl P op=some (k,os)):Comp P GL op k os:=by
 unfold Zcl at h;split at h
 ·cases h; exact .move _
 ·cases h; exact .assign _
 ·cases h; exact .pick _ _ _
 ·obtain⟨z,hz,h⟩:=Xa h;obtain⟨v,hv,hz⟩:=Xa hz;cases h; exact .alloc _ v _ hv hz
 ·cases h; exact .box _ _
 ·split at h
  ·rename_i fs hu;obtain⟨z,hz,h⟩:=Xa h;obtain⟨v,hv,hz⟩:=Xa hz;obtain⟨places,hp,h⟩:=Xa h;obtain⟨ps,hps,h⟩:=Xa h;cases h;exact .buildStruct _ fs v _ _ places _ hu hv hz (by rw[QbQ]; exact hp) (Ybr hps)
  ·rename_i n e hu;obtain⟨z,hz,h⟩:=Xa h;obtain⟨v,hv,hz⟩:=Xa hz;obtain⟨sz,hs,h⟩:=Xa h;cases h;exact .buildArray _ n e v _ _ _ sz hu hv hz hs rfl
  ·cases h
 ·obtain⟨e,he,h⟩:=Xa h;obtain⟨sz,hs,h⟩:=Xa h;split at h
  ·rename_i hp; cases h; exact .buildSlice0 _ e _ _ he hs hp
  ·cases h
 ·obtain⟨e,he,h1⟩:=Xa h;obtain⟨n,hn,h2⟩:=Xa h1;obtain⟨b,hb,h3⟩:=Xa h2;obtain⟨v,hv,h4⟩:=Xa h3;obtain⟨z,hz,h5⟩:=Xa h4;obtain⟨hg,h6⟩:=Yg h5;clear h h1 h2 h3 h4 h5;simp only[Bool.and_eq_true,Bool.not_eq_true'] at hg;split at h6
  ·rename_i hs;have:=Xb9 hs;subst this;cases h6;exact .makeSlice _ _ e v _ _ _ he hn hb (λe0=>by rw[e0] at hg; cases hg.1) hv (YNB hg.2) hz
  ·cases h6
 ·obtain⟨e,he,h⟩:=Xa h;obtain⟨sz,hs,h⟩:=Xa h;obtain⟨v,hv,h⟩:=Xa h;obtain⟨z0,hz,h⟩:=Xa h;obtain⟨hg,h⟩:=Yg h;simp only[Bool.and_eq_true,Bool.not_eq_true'] at hg;cases h;exact .buildSlice _ _ e v z0 _ _ _ _ he hs (YNL hg.1) (λe0=>by rw[e0] at hg; cases hg.2.1) hv (YNB hg.2.2) hz rfl rfl
 ·obtain⟨agg,ha,h⟩:=Xa h;obtain⟨n,hn,h⟩:=Xa h;cases h; exact .load _ _ _ _ ha hn
 ·obtain⟨n,hn,h⟩:=Xa h;cases h; exact .store _ _ _ _ hn
 ·cases h; exact .nilCheck _
 ·exact Zb6 h
 ·cases h; exact .un _ _ _
 ·obtain⟨hg,h⟩:=Yg h;obtain⟨q,hq,h⟩:=Xa h;cases h; exact .conv _ _ _ _ hg (Xc2 hq)
 ·obtain⟨hg,h⟩:=Yg h;cases h; exact .mkIface _ _ hg
 ·cases h; exact .mkFunc _ _ _
 ·cases h; exact .makeMap _
 ·split at h
  ·rename_i fs hu;obtain⟨fd,hf,h⟩:=Xa h;obtain⟨n,hn,h⟩:=Xa h;obtain⟨hg,h⟩:=Yg h;cases h;exact .fieldAddr _ _ _ fs fd n hu hf hn (λe0=>by rw[e0] at hg; cases hg)
  ·cases h
 ·split at h
  ·rename_i fs hu;obtain⟨fd,hf,h⟩:=Xa h;obtain⟨n,hn,h⟩:=Xa h;obtain⟨agg,ha,h⟩:=Xa h;cases h;exact .field _ _ _ fs fd _ _ hu hf hn ha
  ·cases h
 ·split at h
  ·rename_i len e hu;obtain⟨n,hn,h⟩:=Xa h;cases h; exact .idxAddrA _ _ _ _ e _ hu hn
  ·rename_i e hu;obtain⟨n,hn,h⟩:=Xa h;cases h; exact .idxAddrS _ _ _ e _ hu hn
  ·cases h
 ·split at h
  ·rename_i len e hu;obtain⟨n,hn,h⟩:=Xa h;obtain⟨agg,ha,h⟩:=Xa h;cases h; exact .idxA _ _ _ _ e _ _ hu hn ha
  ·rename_i hu; cases h; exact .idxStr _ _ _ hu
  ·cases h
 ·cases h; exact .extract _ _
 ·split at h
  ·rename_i e hu;obtain⟨n,hn,h⟩:=Xa h;cases h; exact .sliceS _ _ _ _ _ e _ hu hn
  ·rename_i hu;split at h
   ·cases h; exact .sliceStr _ _ _ _ hu
   ·cases h
  ·cases h
 ·exact ZbD h
 ·split at h
  ·rename_i k e hu;obtain⟨s,hs,h⟩:=Xa h;obtain⟨v,hv,h⟩:=Xa h;obtain⟨z,hz,h⟩:=Xa h;cases h; exact .lookup _ k e _ _ _ _ v _ hu (ZbG hs) hv hz
  ·cases h
 ·split at h
  ·rename_i k e hu;obtain⟨s,hs,h⟩:=Xa h;cases h; exact .mapUpdate _ k e _ _ _ _ hu (ZbG hs)
  ·cases h
 ·split at h
  ·rename_i k e hu;obtain⟨s,hs,h⟩:=Xa h;cases h; exact .mapInsert _ k e _ _ _ _ hu (ZbG hs)
  ·cases h
 ·obtain⟨hg,h⟩:=Yg h;cases h; exact .range _ _ (Ycr hg)
 ·cases h; exact .next _
 ·split at h
  ·rename_i hu;split at h
   ·rename_i hz; cases h; exact .assertI _ _ _ _ _ hu hz (λq hq=>Xb7 hq)
   ·cases h
  ·obtain⟨hg,h⟩:=Yg h;simp only[Bool.and_eq_true] at hg;obtain⟨v,hv,h⟩:=Xa h;obtain⟨z,hz,h⟩:=Xa h;cases h; exact .assertT _ _ _ _ v _ hg.1 hg.2 hv hz
 ·cases h
end
end Go.Ah
end
section
namespace Go.Ah
def QbP(g:Nat):Globs→Option (List AVal)
 |[]=>none
 |(q,row)::r=>match Nat.beq g q with
  |true=>some row
  |false=>QbP g r
theorem Ybp{g:Nat}{row:List AVal}:∀ {GL:Globs},QbP g GL=some row→(g,row)∈GL
 |[],h=>by cases h
 |(q,r)::GL,h=>by
  simp only[QbP] at h;split at h
  ·rename_i e; cases h; rw[YNB e]; simp
  ·exact List.mem_cons_of_mem _ (Ybp h)
def Qba(GL:Globs):Operand→Option Opd
 |.tmp t=>some (.t t)
 |.const v=>optB (aVal v) λx=>some (.c x)
 |.global g=>optB (QbP g GL) λrow=>some (.c (.rptr row 0))
 |.func f=>some (.c (.func (.func f) [] []))
theorem Zaz{GL:Globs}{x:Operand}{y:Opd}(h:Qba GL x=some y):OpdOk GL x y:=by
 cases x with
 |tmp t=>cases h; exact .tmp _
 |const v=>obtain⟨z,hz,h⟩:=Xa h; cases h; exact .const _ _ hz
 |global g=>obtain⟨z,hz,h⟩:=Xa h; cases h; exact .glob _ _ (Ybp hz)
 |func f=>cases h; exact .func _
theorem QZ{α β:Type}{f:α→Option β}{R:α→β→Prop}(hR:∀ {a b},f a=some b→R a b):∀ {l:List α} {r:List β},mapM' f l=some r→All2 R l r
 |[],r,h=>by simp[mapM'] at h; subst h; trivial
 |a::l,r,h=>by
  obtain⟨b,hb,h⟩:=Xa h;obtain⟨r',hr,h⟩:=Xa h;cases h;exact⟨hR hb,QZ hR hr⟩
def dstOk(n:Nat):Option Nat→Bool
 |none=>true
 |some d=>Nat.blt d n
def Qck(ops:List Oper):Option (Nat×Bool)→Option (Option (Nat×Bool))
 |none=>some none
 |some (j,w)=>optB (nth ops j) λo=>optB o.dst λs=>some (some (s,w))
def keySI(P:Program)(k:TypeId):Bool:=match P.underlying k with
 |some (.struct fs)=>match fs.toList with
  | [f0,f1]=>(f0.name != "_" && (f1.name != "_" && (Nat.beq f0.offset 0 && Nat.beq f1.offset 1))) && ((match P.underlying f0.type with
   |some .string=>true
   | _=>false) && ((match P.underlying f1.type with
   |some (.int _)=>true
   | _=>false) && !(P.stoodInHeld k)))
  |_=>false
 |_=>false
theorem Qbf{P:Program}{k:TypeId}(h:keySI P k=true):KeySI P k:=by
 unfold keySI at h;split at h
 ·rename_i fs hu;split at h
  ·rename_i f0 f1 hf;simp only[Bool.and_eq_true,bne_iff_ne,Bool.not_eq_true'] at h;obtain⟨⟨h1,h2,h3,h4⟩,h5,h6,h7⟩:=h;have hfs:fs = #[f0,f1]:=by apply Array.toList_inj.1; simpa using hf
   split at h5
   ·rename_i hs;split at h6
    ·rename_i i hi;exact⟨f0,f1,i,by rw[hu,hfs],h1,h2,YNB h3,YNB h4,hs,hi,h7⟩
    ·cases h6
   ·cases h5
  ·cases h
 ·cases h
def isU8(P:Program)(e:TypeId):Bool:=match P.underlying e with
 |some (.int .u8)=>true
 |_=>false
theorem Xcr{P:Program}{e:TypeId}(h:isU8 P e=true):P.underlying e=some (.int .u8):=by
 unfold isU8 at h;split at h
 ·assumption
 ·cases h
def compX(P:Program):Op→Option (XK×List Operand)
 |.slice t x lo hi none=>match P.underlying t with
  |some (.array len e)=>optB (size? P e) λn=>some (.sliceA len n lo.isSome hi.isSome,[x]++lo.toList++hi.toList)
  |_=>none
 |.call ⟨.builtin .copy,xs,ts⟩=>match xs.toList,ts.toList with
  |[x,y],[t,t']=>optB (elemS? P t) λe=>optB (size? P e) λn=>Yw (!(Nat.beq n 0)) (some (.copyS n,[x,y]))
  |_,_=>none
 |.convert s d x=>match P.underlying s,P.underlying d with
  |some (.slice e),some .string=>Yw (isU8 P e) (some (.toStr,[x]))
  |some (.slice e),some (.slice _)=>Yw (Nat.beq s d&&isU8 P e) (some (.same,[x]))
  |_,_=>none
 |.sliceToArrayPointer t x=>match P.underlying t with
  |some (.array n _)=>some (.arrP n,[x])
  |_=>none
 |.lookup t x i ok=>match P.underlying t with
  |some (.map k e)=>Yw (keySI P k) (optB (zero? P e) λv=>optB (aVal v) λz=>some (.look ok z,[x,i]))
  |_=>none
 |.mapUpdate t x i y=>match P.underlying t with
  |some (.map k _)=>Yw (keySI P k) (some (.upd,[x,i,y]))
  |_=>none
 |.insert t x i y=>match P.underlying t with
  |some (.map k _)=>Yw (keySI P k) (some (.upd,[x,i,y]))
  |_=>none
 |.panic x=>some (.panic,[x])
 |.binOp op t x y _=>optB (eqOp op) λneq=>match P.underlying t with
  |some (.array n e)=>match P.underlying e with
   |some .string=>optB (P.info? e) λ_=>Yw (Nat.beq (P.cellsOf e) 1 && !P.eqGuardType P.depth t) (some (.eqT neq n,[x,y]))
   |_=>none
  |_=>none
 |_=>none
theorem XcJ{P:Program}{op:Op}{q:XK}{os:List Operand}(h:compX P op=some (q,os)):CompX P op q os:=by
 unfold compX at h;split at h
 ·split at h
  ·rename_i hu;obtain⟨n,hn,h⟩:=Xa h;cases h; exact .sliceA _ _ _ _ _ _ _ hu hn
  ·cases h
 ·rename_i xs ts;split at h
  ·rename_i x y t t' hx ht;obtain⟨e,he,h⟩:=Xa h;obtain⟨n,hn,h⟩:=Xa h;obtain⟨h0,h⟩:=Yg h;cases h;have hxs:xs = #[x,y]:=by apply Array.toList_inj.1; simpa using hx
   have hts:ts = #[t,t']:=by apply Array.toList_inj.1; simpa using ht
   subst hxs; subst hts;exact .copyS _ _ e _ _ _ (ZbP he) hn (by rintro rfl; cases h0)
  ·cases h
 ·split at h
  ·rename_i hs hd;obtain⟨h0,h⟩:=Yg h;cases h; exact .toStr _ _ _ _ hs (Xcr h0) hd
  ·rename_i hs hd;obtain⟨h0,h⟩:=Yg h;have e1:=YNB (Bool.and_eq_true_iff.1 h0).1;have e2:=Xcr (Bool.and_eq_true_iff.1 h0).2;clear hd h0;cases h;subst e1;exact .same _ _ _ hs e2
  ·cases h
 ·split at h
  ·rename_i hu; cases h; exact .arrP _ _ _ _ hu
  ·cases h
 ·split at h
  ·rename_i hu;obtain⟨h0,h⟩:=Yg h;obtain⟨v,hv,h⟩:=Xa h;obtain⟨z,hz,h⟩:=Xa h;cases h; exact .look _ _ _ _ _ _ _ _ hu (Qbf h0) hv hz
  ·cases h
 ·split at h
  ·rename_i hu;obtain⟨h0,h⟩:=Yg h;cases h; exact .upd _ _ _ _ _ _ hu (Qbf h0)
  ·cases h
 ·split at h
  ·rename_i hu;obtain⟨h0,h⟩:=Yg h;cases h; exact .ins _ _ _ _ _ _ hu (Qbf h0)
  ·cases h
 ·cases h; exact .panic _
 ·obtain⟨neq,hop,h⟩:=Xa h;split at h
  ·rename_i hu;split at h
   ·rename_i he;obtain⟨i,hi,h⟩:=Xa h;obtain⟨h0,h⟩:=Yg h;simp only[Bool.and_eq_true,Bool.not_eq_true'] at h0;cases h;rw[Ycp hop];exact .eqT _ _ _ _ _ _ _ i hu he hi (YNB h0.1) h0.2
   ·cases h
  ·cases h
 ·cases h
def YbD(P:Program)(o:Op):Option (MK×List Operand):=match Zcl P o with
 |some r=>some r
 |none=>match compX P o with
  |some (q,os)=>some (.x q,os)
  |none=>none
theorem Yb6{P:Program}{GL:Globs}{op:Op}{k:MK}{os:List Operand}(h:YbD P op=some (k,os)):Comp P GL op k os:=by
 unfold YbD at h;split at h
 ·rename_i hc; cases h; exact Ycl hc
 ·split at h
  ·rename_i hc; cases h; exact .x _ _ _ (XcJ hc)
  ·cases h
def YbN(P:Program)(GL:Globs)(o:Op):Option (MK×List Opd):=optB (YbD P o) λ(k,os)=>optB (mapM' (Qba GL) os) λxs=>some (k,xs)
def Zbb(P:Program)(GL:Globs)(n:Nat)(ops:List Oper)(o:Oper):Option MOper:=
 Yw (dstOk n o.dst) (optB (Qck ops o.guard) λg=>match YbN P GL o.op with
  |some (k,xs)=>some ⟨o.dst,k,xs,g⟩
  | none=>Yw (!QbF o.op) (some ⟨o.dst,.bad,[],g⟩))
theorem XbD{P:Program}{GL:Globs}{n:Nat}{ops:Array Oper}{o:Oper}{m:MOper}(h:Zbb P GL n ops.toList o=some m):OperOk P GL n ops o m:=by
 unfold Zbb at h;obtain⟨hd,h⟩:=Yg h;obtain⟨g,hg,h⟩:=Xa h;have hk:∃k xs,m=⟨o.dst,k,xs,g⟩∧∃os,Comp P GL o.op k os∧All2 (OpdOk GL) os xs:=by
  split at h
  ·rename_i k xs hk;cases h;unfold YbN at hk;obtain⟨⟨k,os⟩,hc,hk⟩:=Xa hk;obtain⟨xs,hx,hk⟩:=Xa hk;cases hk;exact⟨_,_,rfl,os,Yb6 hc,QZ Zaz hx⟩
  ·obtain⟨hb,h⟩:=Yg h;cases h;exact⟨_,_,rfl,[],.bad _ (by simpa using hb),trivial⟩
 obtain⟨k,xs,rfl,hos⟩:=hk;refine⟨rfl,λd e=>?_,hos,?_⟩
 ·simp only at e; rw[e] at hd; exact YNL hd
 ·cases hog:o.guard with
  |none=>rw[hog] at hg; cases hg; trivial
  |some jw=>
   obtain⟨j,w⟩:=jw;rw[hog] at hg;obtain⟨o',ho',hg⟩:=Xa hg;obtain⟨s,hs,hg⟩:=Xa hg;cases hg<;>simp_all [YU]
theorem Xau{l:List Nat}{n:Nat}:memN l n=true↔n∈l:=by
 induction l with
 |nil=>simp[memN]
 |cons x l ih=>
  simp only[memN,Bool.or_eq_true,ih,List.mem_cons]
  grind [YNB,Nat.beq_refl]
def ZbA{β:Type}:List Nat→List Nat→(List Nat→β)→β
 |[],l,k=>k l
 |x::xs,l,k=>match memN l x with
  |true=>ZbA xs l k
  |false=>ZbA xs (x::l) k
def nthQ:List (List Nat)→Nat→List Nat
 |[],_=>[]
 |x::_,0=>x
 |_::l,n+1=>nthQ l n
def closQ{β:Type}(acc:List (List Nat)):List Nat→List Nat→(List Nat→β)→β
 |[],s,k=>k s
 |i::r,s,k=>ZbA (i::nthQ acc i) s λs=>closQ acc r s k
def sortQ{β:Type}(s:List Nat):Nat→List Nat→(List Nat→β)→β
 |0,l,k=>k l
 |i+1,l,k=>match memN s i with
  |true=>sortQ s i (i::l) k
  |false=>sortQ s i l k
def Xa2{β:Type}:List (List Nat)→Nat→List (List Nat)→(List (List Nat)→β)→β
 |[],_,acc,k=>k acc
 |w::r,j,acc,k=>closQ acc w [] λs=>sortQ s j [] λl=>Zac (acc++[l]) λacc=>Xa2 r (j+1) acc k
def allN(p:Nat→Bool):Nat→Bool
 |0=>true
 |i+1=>p i&&allN p i
def allQ(p:Nat→Bool):List Nat→Bool
 |[]=>true
 |x::l=>p x&&allQ p l
def disjQ:List Nat→List Nat→Bool
 |[],_=>true
 |x::a,b=>!(memN b x)&&disjQ a b
def drawQ(n:Nat)(ws hd ds us:List (List Nat)):Bool:=
 allN (λj=>Zac (nthQ ws j) λwj=>Zac (nthQ hd j) λhj=>Zac (nthQ ds j) λdj=>Zac (nthQ us j) λuj=>
  allQ (λi=>Nat.blt i j) wj && (allQ (λi=>Nat.blt i j && (memN wj i || !(allQ (λk=>!(memN (nthQ hd k) i)) wj))) hj &&
  allN (λi=>memN hj i || (disjQ (nthQ ds i) uj && (disjQ (nthQ ds i) dj && disjQ (nthQ us i) dj))) j)) n
def eachQ{α β:Type}(f:α→List Nat):List α→(List (List Nat)→β)→β
 |[],k=>k []
 |x::r,k=>Zac (f x) λl=>eachQ f r λr=>k (l::r)
theorem QbO{α β:Type}(f:α→List Nat):∀(l:List α) (k:List (List Nat)→β),eachQ f l k=k (l.map f)
 |[],_=>rfl
 |x::r,k=>by simp only[eachQ,Yac,QbO f r,List.map_cons]
theorem XaB:∀(l:List (List Nat)) (n:Nat),nthQ l n=(l[n]?).getD []
 |[],_=>rfl
 |x::_,0=>rfl
 |_::l,n+1=>by simp[nthQ,XaB l n]
theorem Yap{p:Nat→Bool}:∀ {n:Nat},allN p n=true→∀i,i<n→p i=true
 |0,_,i,h=>by omega
 |n+1,h,i,hi=>by
  simp only[allN,Bool.and_eq_true] at h;by_cases e:i=n
  ·rw[e]; exact h.1
  ·exact Yap h.2 i (by omega)
theorem Xa9{p:Nat→Bool}:∀ {l:List Nat},allQ p l=true↔∀i∈l,p i=true
 |[]=>by simp[allQ]
 |x::l=>by simp only[allQ,Bool.and_eq_true,Xa9 (l:=l),List.mem_cons,forall_eq_or_imp]
theorem YbO:∀ {a b:List Nat},disjQ a b=true→disj a b=true
 |[],_,_=>rfl
 |x::a,b,h=>by
  simp only[disjQ,disj,Bool.and_eq_true,Bool.not_eq_true'] at h ⊢;refine⟨?_,YbO h.2⟩;cases e:b.contains x with
  |false=>rfl
  |true=>rw[Xau.2 (List.contains_iff_mem.1 e)] at h; cases h.1
theorem YcK{ops:List Oper}{ms:List MOper}{hd:List (List Nat)}(h1:Nat.beq ops.length ms.length=true)(h2:Nat.beq hd.length ms.length=true)(h:drawQ ms.length (ops.map waits) hd (ms.map defsT) (ms.map usesT)=true):Qas ops ms hd=true:=by
 have e1:=YNB h1;unfold drawQ at h;simp only[Yac] at h;unfold Qas;simp only[Bool.and_eq_true,List.all_eq_true,List.mem_range,Bool.or_eq_true,List.any_eq_true];have key:=λj hj=>Yap h j hj;simp only[Bool.and_eq_true,Xa9] at key;have hw:∀j,j<ms.length→nthQ (ops.map waits) j=waits (ops.getD j default):=by
  simp_all [XaB]
 have hd':∀j,nthQ hd j=Yj hd j:=λj=>XaB _ _;have hds:∀j,j<ms.length→nthQ (ms.map defsT) j=defsT (ms.getD j default):=by
  simp_all [XaB]
 have hus:∀j,j<ms.length→nthQ (ms.map usesT) j=usesT (ms.getD j default):=by
  simp_all [XaB]
 refine⟨⟨⟨⟨h1,h2⟩,λj hj i hi=>?_⟩,λj hj i hi=>?_⟩,λj hj i hi=>?_⟩
 ·simp_all
 ·have:=(key j hj).2.1 i (by rw[hd']; exact hi);rw[hw j hj] at this;refine⟨this.1,?_⟩;have q:=this.2;simp only[Bool.or_eq_true,Xau,Bool.not_eq_true'] at q
  grind [Xa9,Xau]
 ·have:=Yap (key j hj).2.2 i hi;rw[hd',hds j hj,hus j hj,hds i (by omega),hus i (by omega)] at this;simp only[Bool.or_eq_true,Bool.and_eq_true,Xau] at this
  grind [YbO]
theorem Zbq{β:Type}:∀(ws:List (List Nat)) (j:Nat) (acc:List (List Nat)) (k:List (List Nat)→β),∃hd,Xa2 ws j acc k=k hd
 |[],_,acc,_=>⟨acc,rfl⟩
 |w::r,j,acc,k=>by
  have hu:∀ {γ:Type} (xs l:List Nat) (k:List Nat→γ),∃s,ZbA xs l k=k s:=by
   intro γ xs
   induction xs with
   |nil=>intro l k; exact⟨l,rfl⟩
   |cons x xs ih=>
    intro l k;unfold ZbA;cases memN l x<;>simp_all
  have hc:∀ {γ:Type} (w s:List Nat) (k:List Nat→γ),∃s',closQ acc w s k=k s':=by
   intro γ w
   induction w with
   |nil=>intro s k; exact⟨s,rfl⟩
   |cons i w ih=>
    intro s k;unfold closQ;obtain⟨s1,h1⟩:=hu (i::nthQ acc i) s (λs=>closQ acc w s k);rw[h1]; exact ih s1 k
  have hs:∀ {γ:Type} (s:List Nat) (j:Nat) (l:List Nat) (k:List Nat→γ),∃l',sortQ s j l k=k l':=by
   intro γ s j
   induction j with
   |zero=>intro l k; exact⟨l,rfl⟩
   |succ j ih=>
    intro l k;unfold sortQ;cases memN s j<;>simp_all
  unfold Xa2;obtain⟨s,h1⟩:=hc w [] (λs=>sortQ s j [] λl=>Zac (acc++[l]) λacc=>Xa2 r (j+1) acc k);rw[h1];obtain⟨l,h2⟩:=hs s j [] (λl=>Zac (acc++[l]) λacc=>Xa2 r (j+1) acc k);simp_all [Yac,Zbq]
def Qm(P:Program)(GL:Globs)(n:Nat):Nat→Code→Option MCode
 |_,.skip=>some .skip
 |_,.region id ops dr=>optB (mapM' (Zbb P GL n ops.toList) ops.toList) λms=>match dr with
  |false=>some (.region id ms none)
  |true=>eachQ waits ops.toList λws=>Xa2 ws 0 [] λhd=>eachQ defsT ms λds=>eachQ usesT ms λus=>
   Yw (Nat.beq ops.toList.length ms.length&&(Nat.beq hd.length ms.length&&drawQ ms.length ws hd ds us)) (some (.region id ms (some hd)))
 |k,.seq a b=>optB (Qm P GL n k a) λx=>optB (Qm P GL n (k+QN a) b) λy=>some (.seq x y)
 |k,.cond c a b=>optB (Qba GL c) λd=>optB (Qm P GL n k a) λx=>optB (Qm P GL n (k+QN a) b) λy=>some (.cond d x y)
 |k,.block id a=>optB (Qm P GL n k a) λx=>some (.block id x)
 |k,.loop a=>optB (Qm P GL n k a) λx=>some (.loop x)
 |k,.scope a=>optB (Qm P GL n k a) λx=>some (.scope x)
 |_,.exit id=>some (.exit id)
 |_,.label l=>some (.label l)
 |_,.ret=>some .ret
 |k,.rangeFunc f ps a b=>optB (Qba GL f) λd=>optB (Qm P GL n (k+1) a) λx=>optB (Qm P GL n (k+1+QN a) b) λy=>Yw (ps.toList.all λt=>Nat.blt t n) (some (.rangeF d k ps.toList x y))
 |_,_=>none
theorem Zbr{α β:Type}{f:α→Option β}:∀ {l:List α} {r:List β},mapM' f l=some r→l.length=r.length∧∀(j:Nat) (b:β),r[j]?=some b→∃a,l[j]?=some a∧f a=some b
 |[],r,h=>by simp[mapM'] at h; subst h; simp
 |a::l,r,h=>by
  obtain⟨b,hb,h⟩:=Xa h;obtain⟨r',hr,h⟩:=Xa h;cases h;obtain⟨h1,h2⟩:=Zbr hr
  grind
theorem YaM{P:Program}{GL:Globs}{n:Nat}:∀ {c:Code} {k:Nat} {m:MCode},(∀i lr,(XB n c)[i]?=some lr→lpsOf P (k+i)=some lr)→Qm P GL n k c=some m→CodeOk P GL n c m:=by
 intro c
 induction c with
 |skip=>intro k m hl h; cases h; exact .skip
 |region id ops dr=>
  intro k m hl h;simp only[Qm] at h;obtain⟨ms,hm,h⟩:=Xa h;obtain⟨h1,h2⟩:=Zbr hm;have hok:∀(j:Nat) (x:MOper),ms[j]?=some x→∃o,ops[j]?=some o∧OperOk P GL n ops o x:=λj x e=>by
   grind [XbD]
  cases dr with
  |false=>cases h; exact .region _ _ _ (by simpa using h1) hok
  |true=>
   simp only[QbO] at h;obtain⟨hd,hh⟩:=Zbq (ops.toList.map waits) 0 [] (λhd=>Yw (Nat.beq ops.toList.length ms.length&&(Nat.beq hd.length ms.length&&drawQ ms.length (ops.toList.map waits) hd (ms.map defsT) (ms.map usesT))) (some (MCode.region id ms (some hd))));rw[hh] at h;obtain⟨hg,h⟩:=Yg h;simp only[Bool.and_eq_true] at hg;cases h; exact .draw _ _ _ _ (by simpa using h1) hok (YcK hg.1 hg.2.1 hg.2.2)
 |seq a b iha ihb=>
  intro k m hl h;simp only[Qm] at h;obtain⟨x,hx,h⟩:=Xa h;obtain⟨y,hy,h⟩:=Xa h;cases h; exact .seq _ _ _ _ (iha (λi lr e=>hl i lr (by simp only[XB]; rw[List.getElem?_append_left (YLG e).1]; exact e)) hx) (ihb (λi lr e=>by
   have:=hl (QN a+i) lr (by simp only[XB]; rw[←XL n a,List.getElem?_append_right (by omega)]; simpa using e)
   rwa [← Nat.add_assoc] at this) hy)
 |cond c a b iha ihb=>
  intro k m hl h;simp only[Qm] at h;obtain⟨d,hd,h⟩:=Xa h;obtain⟨x,hx,h⟩:=Xa h;obtain⟨y,hy,h⟩:=Xa h;cases h; exact .cond _ _ _ _ _ _ (Zaz hd) (iha (λi lr e=>hl i lr (by simp only[XB]; rw[List.getElem?_append_left (YLG e).1]; exact e)) hx) (ihb (λi lr e=>by
   have:=hl (QN a+i) lr (by simp only[XB]; rw[←XL n a,List.getElem?_append_right (by omega)]; simpa using e)
   rwa [← Nat.add_assoc] at this) hy)
 |block id a ih=>
  intro k m hl h;simp only[Qm] at h;obtain⟨x,hx,h⟩:=Xa h;cases h; exact .block _ _ _ (ih hl hx)
 |loop a ih=>
  intro k m hl h;simp only[Qm] at h;obtain⟨x,hx,h⟩:=Xa h;cases h; exact .loop _ _ (ih hl hx)
 |scope a ih=>
  intro k m hl h;simp only[Qm] at h;obtain⟨x,hx,h⟩:=Xa h;cases h; exact .scope _ _ (ih hl hx)
 |exit id=>intro k m hl h; cases h; exact .exit _
 |label l=>intro k m hl h; cases h; exact .label _
 |ret=>intro k m hl h; cases h; exact .ret
 |rangeFunc f ps a b iha ihb=>
  intro k m hl h;simp only[Qm] at h;obtain⟨d,hd,h⟩:=Xa h;obtain⟨x,hx,h⟩:=Xa h;obtain⟨y,hy,h⟩:=Xa h;obtain⟨hg,h⟩:=Yg h;cases h;refine .rangeF _ _ _ _ _ _ _ _ (Zaz hd) (iha (λi lr e=>?_) hx) (ihb (λi lr e=>?_) hy) ?_ ?_
  ·have:=hl (i+1) lr (by simp only[XB,List.getElem?_cons_succ]; rw[List.getElem?_append_left (YLG e).1]; exact e)
   rwa [show k+(i+1)=k+1+i by omega] at this
  ·have:=hl (QN a+i+1) lr (by simp only[XB,List.getElem?_cons_succ]; rw[←XL n a,List.getElem?_append_right (by omega)]; simpa using e)
   rwa [show k+(QN a+i+1)=k+1+QN a+i by omega] at this
  ·have:=hl 0 ⟨n,ps,a,b⟩ (by simp only[XB,List.getElem?_cons_zero]);simpa using this
  ·intro t ht;exact YNL (List.all_eq_true.1 hg t ht)
 |_=>intro k m hl h; simp[Qm] at h
def Ybb(P:Program):ResultVar→Option RV
 |.tmp t=>some (.t t)
 |.cell s t=>optB (isAgg? P t) λagg=>optB (size? P t) λn=>some (.c s agg n)
theorem Yaz{P:Program}{r:ResultVar}{v:RV}(h:Ybb P r=some v):RvOk P r v:=by
 cases r with
 |tmp t=>cases h; exact .tmp _
 |cell s t=>
  obtain⟨agg,ha,h⟩:=Xa h;obtain⟨n,hn,h⟩:=Xa h;cases h; exact .cell _ _ _ _ ha hn
def ZbN(P:Program)(GL:Globs)(np:Nat)(f:FuncId):Option MFn:=
 optB P.funcs[f]? λfn=>optB fn.body λc=>Yw (Nat.ble np fn.ntmps&&Nat.ble (QN c) 16) (optB (Qm P GL fn.ntmps (f*16) c) λm=>optB (mapM' (Ybb P) fn.results.toList) λrs=>some ⟨np,fn.ntmps,m,rs⟩)
theorem div16(a i:Nat)(h:i<16):(a*16+i)/16=a∧(a*16+i)%16=i:=by omega
theorem Ybn{P:Program}{GL:Globs}{np:Nat}{f:FuncId}{F:MFn}(h:ZbN P GL np f=some F):FnOk P GL f F:=by
 unfold ZbN at h;obtain⟨fn,h1,h⟩:=Xa h;obtain⟨c,h2,h⟩:=Xa h;obtain⟨h3,h⟩:=Yg h;obtain⟨m,h4,h⟩:=Xa h;obtain⟨rs,h5,h⟩:=Xa h;cases h;simp only[Bool.and_eq_true] at h3;have hn:=YNL h3.2;refine⟨⟨fn,c,h1,h2,rfl,YaM (λi lr e=>?_) h4,QZ Yaz h5⟩,YNL h3.1⟩;have hi:i<16:=by
  have:=(YLG e).1;rw[XL] at this;omega
 obtain⟨e1,e2⟩:=div16 f i hi;simp only[lpsOf,e1,e2,h1,h2,Option.bind_some];exact e
theorem Bor.ptr{h0:Hp}{rd:List Nat}{b i j sz:Nat}{rs:List (List AVal)}{row row':List AVal}(hb:h0 b=some (.rows sz rs))(hin:b∈rd)(hi:rs[i]?=some row)(hr:BorL h0 rd row row'):Bor h0 rd (.ptr b i j) (.rptr row' j):=by
 intro GL w0 L g h w M2 r hM hrd v d;have hb':h b=some (.rows sz rs):=by rw[hrd b hin]; exact hb
 cases d with
 |ptr _ _ _ _ cb ec=>
 cases hvirt:cb.virt with
 |true=>
  have:=(r.virtRows hb' ec hvirt).2;subst this; simp at hi
 |false=>
 obtain⟨e1,arr,T,ho',hs,hle,hrow,hden⟩:=r.rowsBlk hb' ec hvirt;have hw:M2 cb.blk=some (.cells arr T (0,0)):=hM.2 b _ cb _ hb' rfl ec hvirt ho';have hlt:i<rs.length:=(YLG hi).1;have hrl:=hrow _ _ hi;have hin2:∀k,k<sz→cb.base+i*sz+k<arr.size:=by
  intro k hk;have:(i+1)*sz≤rs.length*sz:=Nat.mul_le_mul_right sz hlt;rw[Nat.succ_mul] at this; omega
 obtain⟨k1,k2⟩:=hr.get r hM hrd (vs:=(arr.extract (cb.base + i * sz) (cb.base + i * sz + sz)).toList) (by
  simp[hrl];by_cases h0:sz=0
  ·subst h0; simp
  ·have:=hin2 (sz-1) (by omega); omega) (λk x v q3 q4=>by
  have hk:k<sz:=by rw[←hrl]; exact(YLG q3).1
  have hl2:=hin2 k hk;rw[Array.getElem?_toList] at q4;obtain⟨_,q4⟩:=Array.getElem?_eq_some_iff.1 q4;rw[Array.getElem_extract] at q4;exact hden _ row k x v hi q3 (by rw[Array.getElem?_eq_getElem hl2,q4]))
 have hlen:row'.length=sz:=by
  rw[k1]; simp;by_cases h0:sz=0
  ·subst h0; simp
  ·have:=hin2 (sz-1) (by omega); omega
 rw[e1];refine .rptr _ _ _ _ _ (λk=>(arr[cb.base+i*sz+k]?).getD undef) (λk hk=>?_) (λk x e=>?_)
 ·have hk':=hin2 k (by omega);simp[mcell,hw,hk']
 ·have hk:k<sz:=by rw[←hlen]; exact(YLG e).1
  have hl2:=hin2 k hk;simp only[Array.getElem?_eq_getElem hl2,Option.getD_some];refine k2 k x _ e ?_;rw[Array.getElem?_toList,Array.getElem?_eq_getElem (by simp; omega),Array.getElem_extract]
def ZaQ(f:List AVal→Option (List AVal×List Nat)):List (List AVal)→Option (List (List AVal)×List Nat)
 |[]=>some ([],[])
 |r::rs=>match f r,ZaQ f rs with
  |some (r',rd),some (rs',rd')=>some (r'::rs',rd++rd')
  |_,_=>none
def roES:List (AVal×AVal)→Bool
 |[]=>true
 |(k,v)::r=>k.ro&&(v.ro&&roES r)
def YA(σ:List ABlk):Nat→List AVal→Option (List AVal×List Nat)
 |_,[]=>some ([],[])
 |0,_::_=>none
 |fuel+1,x::xs=>match YA σ fuel xs with
  |none=>none
  |some (ys,rd)=>match x with
   |.bptr b j=>match hget σ b with
    |.box row=>match YA σ fuel row with
     |some (row',rd')=>some (.rptr row' j::ys,b::rd'++rd)
     |none=>none
    |_=>none
   |.ptr b i j=>match hget σ b with
    |.rows _ rs=>match nth rs i with
     |some row=>match YA σ fuel row with
      |some (row',rd')=>some (.rptr row' j::ys,b::rd'++rd)
      |none=>none
     |none=>none
    |_=>none
   |.sl b off len ex=>match hget σ b with
    | .rows sz rs=>bif Nat.ble (off + len) rs.length then (match ZaQ (YA σ fuel) (cut off (off + len) rs) with
     |some (rs',rd')=>some (.rsl ex false sz rs'::ys,b::rd'++rd)
     | none=>none) else none
    |_=>none
   |.map b=>match hget σ b with
    |.map es=>bif roES es then some (.rmap es::ys,b::rd) else none
    |_=>none
   |.iface t v=>match YA σ fuel [v] with
    |some ([v'],rd')=>some (.iface t v'::ys,rd'++rd)
    |_=>none
   |.agg cs=>match YA σ fuel cs with
    |some (cs',rd')=>some (.agg cs'::ys,rd'++rd)
    |_=>none
   |.func fn a b=>match YA σ fuel a,YA σ fuel b with
    |some (a',rd'),some (b',rd'')=>some (.func fn a' b'::ys,rd'++rd''++rd)
    |_,_=>none
   |x=>bif x.ro then some (x::ys,rd) else none
theorem Qcw:∀ {es:List (AVal×AVal)},roES es=true→∀p∈es,p.1.ro=true∧p.2.ro=true
 |[],_,_,h=>by cases h
 |(k,v)::r,h,p,hp=>by
  simp only[roES,Bool.and_eq_true] at h;rcases List.mem_cons.1 hp with rfl|hp
  ·exact⟨h.1,h.2.1⟩
  ·exact Qcw h.2.2 p hp
theorem Za4{f:List AVal→Option (List AVal×List Nat)}:∀ {rs rs':List (List AVal)} {rd:List Nat},ZaQ f rs=some (rs',rd)→rs'.length=rs.length∧∀(i:Nat) (r r':List AVal),rs[i]?=some r→rs'[i]?=some r'→∃rd',f r=some (r',rd')∧∀b∈rd',b∈rd
 |[],rs',rd,h=>by simp only[ZaQ] at h; cases h; simp
 |r::rs,rs',rd,h=>by
  simp only[ZaQ] at h;split at h
  ·rename_i r1 rd1 rs1 rd2 e1 e2;cases h;obtain⟨h1,h2⟩:=Za4 e2;refine⟨by simp[h1],λi x x' q1 q2=>?_⟩;cases i with
   |zero=>simp at q1 q2; subst q1 q2; exact⟨rd1,e1,λb hb=>List.mem_append.2 (.inl hb)⟩
   |succ i=>
    simp at q1 q2;obtain⟨rd',k1,k2⟩:=h2 i x x' q1 q2;exact⟨rd',k1,λb hb=>List.mem_append.2 (.inr (k2 b hb))⟩
  ·cases h
theorem ZY{σ:List ABlk}:∀(fuel:Nat) (xs ys:List AVal) (rd:List Nat),YA σ fuel xs=some (ys,rd)→∀rd',(∀b∈rd,b∈rd')→BorL (hp σ) rd' xs ys:=by
 intro fuel
 induction fuel with
 |zero=>
  intro xs ys rd h rd' hs;cases xs<;>simp_all [YA,BorL.nil]
 |succ fuel ih=>
  intro xs ys rd h rd' hs;cases xs with
  |nil=>simp_all [YA]
  |cons x xs=>
   simp only[YA] at h;cases h0:YA σ fuel xs with
   |none=>simp[h0] at h
   |some p=>
    obtain⟨ys0,rd0⟩:=p;simp only[h0] at h;split at h
    ·rename_i b j;split at h<;>grind [BorL.cons,Bor.box,Xat]
    ·rename_i b i j;split at h
     ·rename_i sz rs hg;split at h<;>grind [YU,BorL.cons,Bor.ptr,Xt]
     ·cases h
    ·rename_i b off len ex;split at h
     ·rename_i sz rs hg
      replace h:=Ql h
      obtain⟨hle,h⟩:=h;split at h
      ·rename_i rs' rd1 hr;cases h;obtain⟨m1,m2⟩:=Za4 hr;have hle':=YNL hle;refine BorL.cons (Bor.sl (Xt hg) (hs _ (by simp)) hle' (by rw[m1,XY hle']; omega) (λi r r' q1 q2=>?_)) (ih _ _ _ h0 rd' (λq hq=>hs q (by simp[hq])));have hi:i<len:=by
        grind [XY]
       have hc:(cut off (off+len) rs)[i]?=some r:=by
        grind [cut]
       grind
      ·cases h
     ·cases h
    ·rename_i b;split at h
     ·rename_i es hg
      replace h:=Ql h
      obtain⟨hro,h⟩:=h;cases h;exact BorL.cons (Bor.map (Qat hg) (hs _ (by simp)) (Qcw hro)) (ih _ _ _ h0 rd' (λq hq=>hs q (by simp[hq])))
     ·cases h
    ·split at h
     ·rename_i v' rd1 hr;cases h;have:=ih _ _ _ hr rd' (λq hq=>hs q (by simp[hq]));refine BorL.cons (Bor.iface (λGL w0 L g h w M2 r hM hrd v d=>?_)) (ih _ _ _ h0 rd' (λq hq=>hs q (by simp[hq])));exact(this GL w0 L g h w M2 r hM hrd [v] ⟨d,trivial⟩).1
     ·cases h
    ·grind [BorL.cons,Bor.agg]
    ·grind [BorL.cons,Bor.func]
    ·replace h:=Ql h
     grind [BorL.cons,Bor.ro]
end Go.Ah
end
section
namespace Go.Ah
mutual
def AVal.ren (m:Nat→Option Nat):AVal→AVal
 |.bptr b j=>match m b with
  |some b'=>.bptr b' j
  |none=>.junk
 |.ptr b i j=>match m b with
  |some b'=>.ptr b' i j
  |none=>.junk
 |.sl b off len ex=>match m b with
  |some b'=>.sl b' off len ex
  |none=>.junk
 |.map b=>match m b with
  |some b'=>.map b'
  |none=>.junk
 |.iter b=>match m b with
  |some b'=>.iter b'
  |none=>.junk
 |.bsl b j l c=>match m b with
  |some b'=>.bsl b' j l c
  |none=>.junk
 |.func fn xs ys=>.func fn (renL m xs) (renL m ys)
 |.iface t v=>.iface t (v.ren m)
 |.agg cs=>.agg (renL m cs)
 |.tup cs=>.tup (renL m cs)
 |.when cs x=>.when cs (x.ren m)
 |.junk=>.junk
 |.bool b=>.bool b
 |.int k n=>.int k n
 |.str s=>.str s
 |.nilp=>.nilp
 |.rptr row j=>.rptr row j
 |.nils=>.nils
 |.cap0=>.cap0
 |.rsl a b c d=>.rsl a b c d
 |.rmap es=>.rmap es
 |.nilmap=>.nilmap
 |.nilf=>.nilf
 |.nili=>.nili
def renL (m:Nat→Option Nat):List AVal→List AVal
 |[]=>[]
 |x::xs=>x.ren m::renL m xs
end
theorem Zbh(m:Nat→Option Nat):∀xs:List AVal,renL m xs=xs.map (AVal.ren m)
 |[]=>rfl
 |x::xs=>by simp[renL,Zbh m xs]
theorem Qaf{m:Nat→Option Nat}{xs:List AVal}{i:Nat}{y:AVal}(h:(renL m xs)[i]?=some y):∃x,xs[i]?=some x∧y=x.ren m:=by
 rw[Zbh,List.getElem?_map] at h
 grind
theorem Qr(m:Nat→Option Nat)(xs:List AVal):(renL m xs).length=xs.length:=by rw[Zbh]; simp
theorem Den.ren{M:Nat→Option Obj}{m:Nat→Option Nat}{c':Own}{c:Own}{x:AVal}{v:Value}(h:Den M c x v):(∀b b' cb,m b=some b'→c b=some cb→c' b'=some cb)→Den M c' (x.ren m) v:=by
 induction h with
 |junk=>intro _; exact .junk _ _
 |bool=>intro _; exact .bool _ _
 |int=>intro _; exact .int _ _ _
 |str=>intro _; exact .str _ _
 |nilp=>intro _; exact .nilp _
 |bptr c b j cb e=>
  intro hm; simp only[AVal.ren];cases hb:m b with
  |none=>exact .junk _ _
  |some b'=>exact .bptr _ _ _ _ (hm _ _ _ hb e)
 |ptr c b i j cb e=>
  intro hm; simp only[AVal.ren];cases hb:m b with
  |none=>exact .junk _ _
  |some b'=>exact .ptr _ _ _ _ _ (hm _ _ _ hb e)
 |rptr c row j blk off f h1 h2 ih=>intro _; exact .rptr _ _ _ _ _ f h1 h2
 |nils=>intro _; exact .nils _
 |cap0=>intro _; exact .cap0 _ _
 |sl c b off len ex cb cap e h1 h2 h3 h4=>
  intro hm; simp only[AVal.ren];cases hb:m b with
  |none=>exact .junk _ _
  |some b'=>exact .sl _ _ _ _ _ _ _ (hm _ _ _ hb e) h1 h2 h3 h4
 |slv c b ex cb a e h1=>
  intro hm; simp only[AVal.ren];cases hb:m b with
  |none=>exact .junk _ _
  |some b'=>exact .slv _ _ _ _ _ (hm _ _ _ hb e) h1
 |sle c b off ex cb a e h1 h2 h3=>
  intro hm; simp only[AVal.ren];cases hb:m b with
  |none=>exact .junk _ _
  |some b'=>exact .sle _ _ _ _ _ _ (hm _ _ _ hb e) h1 h2 h3
 |rsl c ex nn sz rows a cap blk off f h1 h2 h3 h3' h4 h5 h6 h7 ih=>intro _; exact .rsl _ _ _ _ _ _ _ blk off f h1 h2 h3 h3' h4 h5 h6 h7
 |map c b cb e=>
  intro hm; simp only[AVal.ren];cases hb:m b with
  |none=>exact .junk _ _
  |some b'=>exact .map _ _ _ (hm _ _ _ hb e)
 |rmap c es blk arr clock e h1 h2 h3 ih1 ih2=>intro _; exact .rmap _ _ _ _ _ e h1 h2 h3
 |nilmap=>intro _; exact .nilmap _
 |func c fn first captured vs ws h1 h2 h3 h4 ih1 ih2=>
  intro hm; simp only[AVal.ren];exact .func _ _ _ _ _ _ (by rw[Qr]; exact h1) (by rw[Qr]; exact h2)
   (λi y u e1 e2=>by obtain⟨x,q1,rfl⟩:=Qaf e1; exact ih1 i x u q1 e2 hm) (λi y u e1 e2=>by obtain⟨x,q1,rfl⟩:=Qaf e1; exact ih2 i x u q1 e2 hm)
 |nilf=>intro _; exact .nilf _
 |iface c t x v h ih=>intro hm; exact .iface _ _ _ _ (ih hm)
 |nili=>intro _; exact .nili _
 |agg c cs vs h1 h2 ih=>intro hm; simp only[AVal.ren]; exact .agg _ _ _ (by rw[Qr]; exact h1) (λi y u e1 e2=>by obtain⟨x,q1,rfl⟩:=Qaf e1; exact ih i x u q1 e2 hm)
 |tup c cs vs h1 h2 ih=>intro hm; simp only[AVal.ren]; exact .tup _ _ _ (by rw[Qr]; exact h1) (λi y u e1 e2=>by obtain⟨x,q1,rfl⟩:=Qaf e1; exact ih i x u q1 e2 hm)
 |when c cs x v h h2 ih=>intro hm; exact .when _ _ _ _ (λhp=>ih hp hm) h2
 |iter c b cb e h1=>
  intro hm; simp only[AVal.ren];cases hb:m b with
  |none=>exact .junk _ _
  |some b'=>exact .iter _ _ _ (hm _ _ _ hb e) h1
 |yld c b cb e h1=>
  intro hm; simp only[AVal.ren];cases hb:m b with
  |none=>exact .junk _ _
  |some b'=>exact .yld _ _ _ (hm _ _ _ hb e) h1
 |bsl c b j l cp cb e h1=>
  intro hm; simp only[AVal.ren];cases hb:m b with
  |none=>exact .junk _ _
  |some b'=>exact .bsl _ _ _ _ _ _ (hm _ _ _ hb e) h1
mutual
def AVal.nosh:AVal→Bool
 |.rptr _ _=>false
 |.rsl _ _ _ (_::_)=>false
 |.rmap _=>false
 |.func _ xs ys=>noshL xs&&noshL ys
 |.iface _ v=>v.nosh
 |.agg cs=>noshL cs
 |.tup cs=>noshL cs
 |.when _ x=>x.nosh
 |_=>true
def noshL:List AVal→Bool
 |[]=>true
 |x::xs=>x.nosh&&noshL xs
end
theorem Z9:∀ {xs:List AVal} {i:Nat} {x:AVal},noshL xs=true→xs[i]?=some x→x.nosh=true
 |[],i,x,_,e=>by simp at e
 |y::xs,0,x,h,e=>by simp_all [noshL]
 |y::xs,i+1,x,h,e=>by simp[noshL] at h; simp at e; exact Z9 h.2 e
mutual
theorem AVal.nosh_ren (m:Nat→Option Nat):∀(x:AVal),x.nosh=true→(x.ren m).nosh=true
 |.bptr b j,_=>by simp only[AVal.ren]; split<;>rfl
 |.ptr b i j,_=>by simp only[AVal.ren]; split<;>rfl
 |.sl b off len ex,_=>by simp only[AVal.ren]; split<;>rfl
 |.map b,_=>by simp only[AVal.ren]; split<;>rfl
 |.iter b,_=>by simp only[AVal.ren]; split<;>rfl
 |.bsl b _ _ _,_=>by simp only[AVal.ren]; split<;>rfl
 |.func fn xs ys,h=>by
  simp only[AVal.nosh,Bool.and_eq_true] at h
  simp only[AVal.ren,AVal.nosh,Bool.and_eq_true]
  exact⟨Y9 m xs h.1,Y9 m ys h.2⟩
 |.iface t v,h=>by simp only[AVal.nosh] at h; simp only[AVal.ren,AVal.nosh]; exact AVal.nosh_ren m v h
 |.agg cs,h=>by simp only[AVal.nosh] at h; simp only[AVal.ren,AVal.nosh]; exact Y9 m cs h
 |.tup cs,h=>by simp only[AVal.nosh] at h; simp only[AVal.ren,AVal.nosh]; exact Y9 m cs h
 |.when cs x,h=>by simp only[AVal.nosh] at h; simp only[AVal.ren,AVal.nosh]; exact AVal.nosh_ren m x h
 |.junk,_=>rfl
 |.bool b,_=>rfl
 |.int k n,_=>rfl
 |.str s,_=>rfl
 |.nilp,_=>rfl
 |.rptr row j,h=>h
 |.nils,_=>rfl
 |.cap0,_=>rfl
 |.rsl a b c d,h=>h
 |.rmap es,h=>h
 |.nilmap,_=>rfl
 |.nilf,_=>rfl
 |.nili,_=>rfl
theorem Y9 (m:Nat→Option Nat):∀(xs:List AVal),noshL xs=true→noshL (renL m xs)=true
 |[],_=>rfl
 |x::xs,h=>by
  simp only[noshL,Bool.and_eq_true] at h
  simp only[renL,noshL,Bool.and_eq_true]
  exact⟨AVal.nosh_ren m x h.1,Y9 m xs h.2⟩
end
def ABlk.mapV(f:AVal→AVal):ABlk→ABlk
 |.dead=>.dead
 |.box row=>.box (row.map f)
 |.rows sz rs=>.rows sz (rs.map λr=>r.map f)
 |.map es=>.map (es.map λp=>(f p.1,f p.2))
 |.siter s p=>.siter s p
 |.full sz rs=>.full sz (rs.map λr=>r.map f)
 |.lp id row st=>.lp id (row.map f) st
def ABlk.AllV(p:AVal→Prop):ABlk→Prop
 |.dead=>True
 |.box row=>∀x∈row,p x
 |.rows _ rs=>∀r∈rs,∀x∈r,p x
 |.map es=>∀e∈es,p e.1∧p e.2
 |.siter _ _=>True
 |.full _ rs=>∀r∈rs,∀x∈r,p x
 |.lp _ row _=>∀x∈row,p x
def Yav:List (List AVal)→Bool
 |[]=>true
 |r::rs=>noshL r&&Yav rs
def XbS:List (AVal×AVal)→Bool
 |[]=>true
 |(k,v)::r=>k.nosh&&(v.nosh&&XbS r)
def ABlk.nosh:ABlk→Bool
 |.dead=>true
 |.box row=>noshL row
 |.rows _ rs=>Yav rs
 |.map es=>XbS es
 |.siter _ _=>true
 |.full _ rs=>Yav rs
 |.lp _ row _=>noshL row
def XaF:List ABlk→Bool
 |[]=>true
 |b::bs=>b.nosh&&XaF bs
theorem Zav:∀ {xs:List AVal},noshL xs=true→∀x∈xs,x.nosh=true
 |y::xs,h,x,hx=>by
  simp only[noshL,Bool.and_eq_true] at h;rcases List.mem_cons.1 hx with rfl|hx
  ·exact h.1
  ·exact Zav h.2 x hx
theorem X9:∀ {rs:List (List AVal)},Yav rs=true→∀r∈rs,∀x∈r,x.nosh=true
 |y::rs,h,r,hr=>by
  simp only[Yav,Bool.and_eq_true] at h;rcases List.mem_cons.1 hr with rfl|hr
  ·exact Zav h.1
  ·exact X9 h.2 r hr
theorem Ya6:∀ {es:List (AVal×AVal)},XbS es=true→∀e∈es,e.1.nosh=true∧e.2.nosh=true
 |(k,v)::r,h,e,he=>by
  simp only[XbS,Bool.and_eq_true] at h;rcases List.mem_cons.1 he with rfl|he
  ·exact⟨h.1,h.2.1⟩
  ·exact Ya6 h.2.2 e he
theorem ABlk.nosh_all{b:ABlk}(h:b.nosh=true):b.AllV (λx=>x.nosh=true):=by
 cases b with
 |dead=>trivial
 |box row=>exact Zav h
 |rows sz rs=>exact X9 h
 |map es=>exact Ya6 h
 |siter s q=>trivial
 |full sz rs=>exact X9 h
 |lp id row st=>exact Zav h
theorem Za6:∀ {bs:List ABlk},XaF bs=true→∀b∈bs,b.AllV (λx=>x.nosh=true)
 |y::bs,h,b,hb=>by
  simp only[XaF,Bool.and_eq_true] at h;rcases List.mem_cons.1 hb with rfl|hb
  ·exact ABlk.nosh_all h.1
  ·exact Za6 h.2 b hb
theorem ABlk.all_true(b:ABlk):b.AllV (λ_=>True):=by
 cases b<;>simp[ABlk.AllV]
theorem Den.nosh{M:Nat→Option Obj}{c:Own}{x:AVal}{v:Value}(h:Den M c x v):x.nosh=true→∀M',Den M' c x v:=by
 induction h with
 |junk=>intro _ _; exact .junk _ _
 |bool=>intro _ _; exact .bool _ _
 |int=>intro _ _; exact .int _ _ _
 |str=>intro _ _; exact .str _ _
 |nilp=>intro _ _; exact .nilp _
 |bptr c b j cb e=>intro _ _; exact .bptr _ _ _ _ e
 |ptr c b i j cb e=>intro _ _; exact .ptr _ _ _ _ _ e
 |rptr=>intro h; simp[AVal.nosh] at h
 |nils=>intro _ _; exact .nils _
 |cap0=>intro _ _; exact .cap0 _ _
 |sl c b off len ex cb cap e h1 h2 h3 h4=>intro _ _; exact .sl _ _ _ _ _ _ _ e h1 h2 h3 h4
 |slv c b ex cb a e h1=>intro _ _; exact .slv _ _ _ _ _ e h1
 |sle c b off ex cb a e h1 h2 h3=>intro _ _; exact .sle _ _ _ _ _ _ e h1 h2 h3
 |rsl c ex nn sz rows a cap blk off f h1 h2 h3 h3' h4 h5 h6 h7 ih=>
  intro h M';cases rows with
  |nil=>exact .rsl _ _ _ _ [] _ _ blk off f h1 h2 h3 h3' h4 h5 (by simp) (by simp)
  |cons r rs=>simp[AVal.nosh] at h
 |map c b cb e=>intro _ _; exact .map _ _ _ e
 |rmap=>intro h; simp[AVal.nosh] at h
 |nilmap=>intro _ _; exact .nilmap _
 |func c fn first captured vs ws h1 h2 h3 h4 ih1 ih2=>
  intro h M';simp[AVal.nosh] at h;exact .func _ _ _ _ _ _ h1 h2 (λi x v e1 e2=>ih1 i x v e1 e2 (Z9 h.1 e1) M') (λi x v e1 e2=>ih2 i x v e1 e2 (Z9 h.2 e1) M')
 |nilf=>intro _ _; exact .nilf _
 |iface c t x v h ih=>intro hr M'; exact .iface _ _ _ _ (ih (by simpa[AVal.nosh] using hr) M')
 |nili=>intro _ _; exact .nili _
 |agg c cs vs h1 h2 ih=>intro h M'; exact .agg _ _ _ h1 (λi x v e1 e2=>ih i x v e1 e2 (Z9 (by simpa[AVal.nosh] using h) e1) M')
 |tup c cs vs h1 h2 ih=>intro h M'; exact .tup _ _ _ h1 (λi x v e1 e2=>ih i x v e1 e2 (Z9 (by simpa[AVal.nosh] using h) e1) M')
 |when c cs x v h h2 ih=>intro hr M'; exact .when _ _ _ _ (λhp=>ih hp (by simpa[AVal.nosh] using hr) M') h2
 |iter c b cb e h1=>intro _ _; exact .iter _ _ _ e h1
 |yld c b cb e h1=>intro _ _; exact .yld _ _ _ e h1
 |bsl c b j l cp cb e h1=>intro _ _; exact .bsl _ _ _ _ _ _ e h1
theorem ABlk.mapV_live(f:AVal→AVal)(b:ABlk):(b.mapV f).live=b.live:=by cases b<;>rfl
theorem BlkOk.mapV{M M':Nat→Option Obj}{c c':Own}{f:AVal→AVal}{p:AVal→Prop}(hf:∀x v,p x→Den M c x v→Den M' c' (f x) v){cb:CB}{o:Obj}{b:ABlk}(h:BlkOk M c cb o b)(hp:b.AllV p):BlkOk M' c' cb o (b.mapV f):=by
 cases b with
 |dead=>trivial
 |box row=>
  obtain⟨arr,T,h1,h2,h3⟩:=h;refine⟨arr,T,h1,by simpa using h2,λj x v e1 e2=>?_⟩;rw[List.getElem?_map] at e1;cases hx:row[j]? with
  |none=>simp[hx] at e1
  |some y=>simp[hx] at e1; subst e1; exact hf y v (hp y (List.mem_of_getElem? hx)) (h3 j y v hx e2)
 |rows sz rows=>
  obtain⟨h0,arr,T,h1,h2,h3,h4,h5⟩:=h;refine⟨h0,arr,T,h1,h2,by simpa using h3,λi row e=>?_,λi row j x v e1 e2 e3=>?_⟩
  ·grind
  ·rw[List.getElem?_map] at e1;cases hx:rows[i]? with
   |none=>simp[hx] at e1
   |some y=>
    simp[hx] at e1; subst e1;rw[List.getElem?_map] at e2;cases hy:y[j]? with
    |none=>simp[hy] at e2
    |some z=>simp[hy] at e2; subst e2; exact hf z v (hp y (List.mem_of_getElem? hx) z (List.mem_of_getElem? hy)) (h5 i y j z v hx hy e3)
 |map es=>
  obtain⟨arr,clock,h1,h2,h3⟩:=h;refine⟨arr,clock,h1,by simpa using h2,λi k x e e1 e2=>?_⟩;rw[List.getElem?_map] at e1;cases hx:es[i]? with
  |none=>simp[hx] at e1
  |some y=>
   simp[hx] at e1; obtain⟨rfl,rfl⟩:=e1;have:=h3 i y.1 y.2 e hx e2;have hpy:=hp y (List.mem_of_getElem? hx);simp_all
 |siter s q=>exact h
 |lp id row st=>
  obtain⟨h0,r,lr,h1,h2,h3,h4,h5,h6,h7,h8⟩:=h;refine⟨h0,r,lr,h1,h2,h3,h4,h5,h6,h7,λj x v e1 e2=>?_⟩;rw[List.getElem?_map] at e1;cases hx:row[j]? with
  |none=>simp[hx] at e1
  |some y=>simp[hx] at e1; subst e1; exact hf y v (hp y (List.mem_of_getElem? hx)) (h8 j y v hx e2)
 |full sz rows=>
  obtain⟨hq,h0,arr,T,h1,h2,h3,h4,h5⟩:=h;refine⟨by simpa using hq,h0,arr,T,h1,h2,by simpa using h3,λi row e=>?_,λi row j x v e1 e2 e3=>?_⟩
  ·grind
  ·rw[List.getElem?_map] at e1;cases hx:rows[i]? with
   |none=>simp[hx] at e1
   |some y=>
    simp[hx] at e1; subst e1;rw[List.getElem?_map] at e2;cases hy:y[j]? with
    |none=>simp[hy] at e2
    |some z=>simp[hy] at e2; subst e2; exact hf z v (hp y (List.mem_of_getElem? hx) z (List.mem_of_getElem? hy)) (h5 i y j z v hx hy e3)
def QR(N:Nat):Nat→Option Nat:=λb=>some (b+N)
def Yp(N:Nat):List ABlk→List (Nat×ABlk)
 |[]=>[]
 |b::bs=>(N,b)::Yp (N+1) bs
theorem XaE:∀(bs:List ABlk) (N:Nat) (h:Hp) (b:Nat),hups h (Yp N bs) b=if N≤b∧b<N+bs.length then bs[b-N]? else h b
 |[],N,h,b=>by simp[Yp,hups]; intro h1 h2; omega
 |x::bs,N,h,b=>by
  simp only[Yp,hups];rw[XaE bs (N+1)];by_cases h1:b=N
  ·subst h1; rw[YIN (by omega),YIP (by simp),Zl]; simp
  ·by_cases h2:N+1≤b∧b<N+1+bs.length
   ·grind
   ·rw[YIN h2,YIN (by simp; omega),Yk _ _ h1]
section
variable {P:Program} {GL:Globs} {Z:PZ}
def NCall(P:Program)(GL:Globs)(f:FuncId)(xs:List AVal)(v:AVal)(bs:List ABlk):Prop:=
 ∀(w:World) (M:Nat→Option Obj) (vs:List Value),(∀b o,M b=some o→w.heap[b]?=some o)→(∀p∈GL,Den M noOwn (.rptr p.2 0) (.pointer (some ⟨p.1,0,none⟩)))→DenL ⟨M,noOwn,[]⟩ xs vs →
  Calls P f vs.toArray w λe w'=>∃u,e=.returned u∧∃g',MLe M g'.M∧Rep GL w ⟨[],M⟩ g' (hp bs) w'∧g'.den v u
theorem YaF{f:FuncId}{F:MFn}(ok:FnOk P GL f F){xs:List AVal}(hn:xs.length=F.np){v:AVal}{bs:List ABlk}
 (h:Awp P GL noZ F.n F.body (frame0 xs) [] (λe ρ σ=>(e=.normal∨e=.ret)∧retV F.rets ρ σ=some v∧σ=bs)):NCall P GL f xs v bs:=by
 intro w M vs hM hg hx;have r0:=Rep.start (GL:=GL) w M hM hg;have hh:hp []=noHp:=by funext b; simp[hp,noHp]
 rw[←hh] at r0;refine Yar ok hn hx r0 rfl h  (λ_ _ _ q=>q.1) (λfn h5 a' w'=>?_);have fin:∀g' ρ σ,(⟨M,noOwn,[]⟩:Gm).Le g'→Rep GL w ⟨[],M⟩ g' (hp σ) w'→DenF F.n g' ρ a'→(retV F.rets ρ σ=some v∧σ=bs)→∃u,(results fn a'.tmps).run P w'=.ok u w'∧(∃u',Ending.returned u=.returned u'∧∃g',MLe M g'.M∧Rep GL w ⟨[],M⟩ g' (hp bs) w'∧g'.den v u'):=by
  rintro g' ρ σ hle hr hd ⟨hret,rfl⟩;obtain⟨u,k1,k2⟩:=XU hr hd h5 hret;exact⟨u,k1,u,rfl,g',hle.m,hr,k2⟩
 exact λe g' ρ σ k1 k2 k3 k4=>fin g' ρ σ k1 k2 k3 k4.2
theorem Rep.joinG{w0:World}{L:Ln}{g:Gm}{h:Hp}{w w':World}(r:Rep GL w0 L g h w){M:Nat→Option Obj}{g':Gm}{h':Hp}{bs:List ABlk}(r':Rep GL w ⟨[],M⟩ g' h' w')(s:Nat)(hs:∀i,i<bs.length→h' (s+i)=bs[i]?)(m:Nat→Option Nat)(M2:Nat→Option Obj)(p:AVal→Prop)
 (hM:MLe g.M M2)(hst:∀b o,M2 b=some o→w'.heap[b]?=some o)(hsrc:∀b o,M2 b=some o→g.M b=some o∨w.heap.size≤b)(hfresh:∀b,w.heap.size≤b→g'.M b=none→M2 b=none)
 (hden:∀c x v,p x→Den g'.M c x v→Den M2 c x v)(hp':∀b∈bs,b.AllV p)(hren:∀x m,p x→p (AVal.ren m x)){N:Nat}(hN:∀i,i<bs.length→h (N+i)=none)
 (hm:∀b b' cb,m b=some b'→g'.c b=some cb→(∃i,i<bs.length∧b=s+i∧b'=N+i)∨(g.c b'=some cb)) :
  ∃c2,CLe g.c c2∧(∀b b' cb,m b=some b'→g'.c b=some cb→c2 b'=some cb)∧Rep GL w0 L ⟨M2,c2,g.dk⟩ (hups h (Yp N (bs.map (ABlk.mapV (AVal.ren m))))) w':=by
 let c2:Own:=λb=>if N≤b∧b<N+bs.length then g'.c (b-N+s) else g.c b
 have hc:CLe g.c c2:=by
  intro b cb e;by_cases hb:N≤b∧b<N+bs.length
  ·have:=r.empt b (by have:=hN (b-N) (by omega); simp_all);rw[this] at e; cases e
  ·simp only[c2,YIN hb]; exact e
 have hc2:∀b b' cb,m b=some b'→g'.c b=some cb→c2 b'=some cb:=by
  intro b b' cb e1 e2;rcases hm b b' cb e1 e2 with ⟨i,q1,q2,q3⟩|q
  ·grind
  ·exact hc _ _ q
 have hH:∀b,hups h (Yp N (bs.map (ABlk.mapV (AVal.ren m)))) b=if N≤b∧b<N+bs.length then (bs[b-N]?).map (ABlk.mapV (AVal.ren m)) else h b:=by
  intro b; rw[XaE]; simp
 have hcase:∀b blk,hups h (Yp N (bs.map (ABlk.mapV (AVal.ren m)))) b=some blk→(h b=some blk∧c2 b=g.c b)∨∃i blk0,i<bs.length∧b=i+N∧h' (s+i)=some blk0∧blk=blk0.mapV (AVal.ren m)∧c2 b=g'.c (s+i)∧blk0∈bs:=by
  grind
 have hsize:=r.keeps.size;refine⟨c2,hc,hc2,?_⟩;refine { mks:=r.mks,keeps:=r.keeps.trans' r'.keeps.os r'.keeps.tape r'.keeps.output r'.keeps.size (λb hb _=>r'.keeps.block b (by omega) (by simp)),stable:=hst,src:=λb o e=>?_,globs:=λq hq=>(r.globs q hq).mono hM (CLe.refl _),empt:=λb e=>?_,dom:=λb blk e=>?_,own:=λb blk cb e hl ec hv=>?_,hollow:=λb blk cb e hl ec hv=>?_,inj:=λb b' blk blk' cb cb' e e' hl hl' ec ec' hv hv' hq=>?_ }
 ·rcases hsrc b o e with q|q
  ·exact r.src b o q
  ·exact .inr (.inl (by omega))
 ·rw[hH] at e;show c2 b=none;by_cases hb:N≤b∧b<N+bs.length
  ·grind
  ·rw[YIN hb] at e; simp only[c2]; rw[YIN hb]; exact r.empt b e
 ·rcases hcase b blk e with ⟨q1,q2⟩|⟨i,blk0,q1,q2,q3,q4,q5,q6⟩
  ·obtain⟨cb,k⟩:=r.dom b blk q1; simp_all
  ·obtain⟨cb,k⟩:=r'.dom (s+i) blk0 q3; simp_all
 ·replace ec:c2 b=some cb:=ec
  rcases hcase b blk e with ⟨q1,q2⟩|⟨i,blk0,q1,q2,q3,q4,q5,q6⟩
  ·rw[q2] at ec;obtain⟨k1,k2,o,ho,hok⟩:=r.own b blk cb q1 hl ec hv;have hlt:=r.lt_of_own q1 hl ec hv;refine⟨?_,k2,o,by rw[r'.keeps.block _ hlt (by simp)]; exact ho,hok.mono hM hc⟩;show M2 cb.blk=none;cases hm2:M2 cb.blk<;>grind
  ·rw[q5] at ec;obtain⟨k1,k2,o,ho,hok⟩:=r'.own (s+i) blk0 cb q3 (by rw[q4,ABlk.mapV_live] at hl; exact hl) ec hv;have hge:w.heap.size≤cb.blk:=by simp_all
   refine⟨hfresh _ hge k1,.inr (by omega),o,ho,?_⟩;rw[q4];refine hok.mapV (p:=p) (λx v hx hd=>?_) (hp' _ q6);exact hden _ _ _ (hren _ _ hx) (hd.ren hc2)
 ·replace ec:c2 b=some cb:=ec
  rcases hcase b blk e with ⟨q1,q2⟩|⟨i,blk0,q1,q2,q3,q4,q5,q6⟩
  ·rw[q2] at ec; exact r.hollow b blk cb q1 hl ec hv
  ·rw[q5] at ec;have:=r'.hollow (s+i) blk0 cb q3 (by rw[q4,ABlk.mapV_live] at hl; exact hl) ec hv;rw[q4,this]; rfl
 ·replace ec:c2 b=some cb:=ec
  replace ec':c2 b'=some cb':=ec'
  rcases hcase b blk e with ⟨q1,q2⟩|⟨i,blk0,q1,q2,q3,q4,q5,q6⟩<;>rcases hcase b' blk' e' with ⟨p1,p2⟩|⟨i',blk0',p1,p2,p3,p4,p5,p6⟩
  ·rw[q2] at ec; rw[p2] at ec'; exact r.inj b b' blk blk' cb cb' q1 p1 hl hl' ec ec' hv hv' hq
  ·rw[q2] at ec; rw[p5] at ec';have h1:=r.lt_of_own q1 hl ec hv;obtain⟨_,k2,_⟩:=r'.own (s+i') blk0' cb' p3 (by simp_all [ABlk.mapV_live]) ec' hv'
   grind
  ·rw[q5] at ec; rw[p2] at ec';have h1:=r.lt_of_own p1 hl' ec' hv';obtain⟨_,k2,_⟩:=r'.own (s+i) blk0 cb q3 (by rw[q4,ABlk.mapV_live] at hl; exact hl) ec hv
   grind
  ·rw[q5] at ec; rw[p5] at ec';have:=r'.inj (s+i) (s+i') blk0 blk0' cb cb' q3 p3 (by rw[q4,ABlk.mapV_live] at hl; exact hl) (by simp_all [ABlk.mapV_live]) ec ec' hv hv' hq;omega
theorem Rep.join{w0:World}{L:Ln}{g:Gm}{h:Hp}{w w':World}(r:Rep GL w0 L g h w){M:Nat→Option Obj}{g':Gm}{bs:List ABlk}(r':Rep GL w ⟨[],M⟩ g' (hp bs) w')(M2:Nat→Option Obj)(p:AVal→Prop)
 (hM:MLe g.M M2)(hst:∀b o,M2 b=some o→w'.heap[b]?=some o)(hsrc:∀b o,M2 b=some o→g.M b=some o∨w.heap.size≤b)(hfresh:∀b,w.heap.size≤b→g'.M b=none→M2 b=none)
 (hden:∀c x v,p x→Den g'.M c x v→Den M2 c x v)(hp':∀b∈bs,b.AllV p)(hren:∀x m,p x→p (AVal.ren m x)){N:Nat}(hN:∀i,i<bs.length→h (N+i)=none) :
  ∃c2,CLe g.c c2∧(∀b cb,b<bs.length→g'.c b=some cb→c2 (b+N)=some cb)∧Rep GL w0 L ⟨M2,c2,g.dk⟩ (hups h (Yp N (bs.map (ABlk.mapV (AVal.ren (QR N)))))) w':=by
 obtain⟨c2,k1,k2,k3⟩:=r.joinG r' 0 (λi hi=>by simp[hp]) (QR N) M2 p hM hst hsrc hfresh hden hp' hren hN (λb b' cb e1 e2=>by
  simp only[QR,Option.some.injEq] at e1;subst e1;by_cases hb:b<bs.length
  ·exact .inl ⟨b,hb,by omega,by omega⟩
  ·have:=r'.empt b (by simp[hp]; omega);rw[this] at e2; cases e2)
 exact⟨c2,k1,λb cb _ e=>k2 b (b+N) cb rfl e,k3⟩
def QI(N:Nat)(bs:List ABlk):List ABlk:=bs.map (ABlk.mapV (AVal.ren (QR N)))
theorem X3:∀(bs:List ABlk) (N:Nat) (i:Nat),i<bs.length→∃b,(N+i,b)∈Yp N bs
 |b::bs,N,0,_=>⟨b,by simp[Yp]⟩
 |b::bs,N,i+1,h=>by
  obtain⟨x,hx⟩:=X3 bs (N+1) i (by simpa using h);exact⟨x,by rw[show N+(i+1)=N+1+i by omega]; exact List.mem_cons_of_mem _ hx⟩
theorem NCall.here{f:FuncId}{xs:List AVal}{v:AVal}{bs:List ABlk}(hc:NCall P GL f xs v bs)(hxs:roL xs=true){h0:Hp}{N:Nat}(hN:∀i,i<bs.length→h0 (N+i)=none):ACall P GL f xs h0 (v.ren (QR N)) [] (Yp N (QI N bs)):=by
 intro w0 L g h w vs r hx _ hup;refine(hc w g.M vs r.stable r.globs (Ybh hxs hx noOwn [])).mono ?_;rintro e w' ⟨u,he,g',hle,r',hd⟩;obtain⟨c2,k1,k2,k3⟩:=r.join r' g'.M (λ_=>True) hle r'.stable (λb o e=>by
  rcases r'.src b o e with q|q|q<;>simp_all) (λ_ _ e=>e) (λ_ _ _ _ d=>d) (λb _=>ABlk.all_true b) (λ_ _ _=>trivial) (N:=N) (λi hi=>by
   obtain⟨b,hb⟩:=X3 (QI N bs) N i (by simpa[QI] using hi);rw[hup _ hb]; exact hN i hi)
 refine⟨u,he,⟨g'.M,c2,g.dk⟩,⟨hle,k1,rfl⟩,k3,hd.ren (λb b' cb e1 e2=>?_)⟩;simp only[QR,Option.some.injEq] at e1;subst e1;refine k2 b cb ?_ e2;by_cases hb:b<bs.length
 ·exact hb
 ·have:=r'.empt b (by simp[hp]; omega);rw[this] at e2; cases e2
theorem NCall.lend{f:FuncId}{xs ys:List AVal}{v:AVal}{bs:List ABlk}{rd:List Nat}{h0:Hp}(hc:NCall P GL f ys v bs)(hb:BorL h0 rd xs ys)(hv:v.nosh=true)(hbs:XaF bs=true){N:Nat}(hN:∀i,i<bs.length→h0 (N+i)=none):ACall P GL f xs h0 (v.ren (QR N)) rd (Yp N (QI N bs)):=by
 intro w0 L g h w vs r hx hrd hup;refine(hc w (World.all w) vs (λ_ _ e=>e) (λp hp=>(r.globs p hp).mono r.le_all (CLe.refl _)) (hb GL w0 L g h w _ r r.cov_all hrd vs hx)).mono ?_;rintro e w' ⟨u,he,g',hle,r',hd⟩;obtain⟨c2,k1,k2,k3⟩:=r.join r' g.M (λx=>x.nosh=true) (MLe.refl _) (λb o e=>by rw[r'.keeps.block b (r.stable_lt e) (by simp)]; exact r.stable b o e) (λb o e=>.inl e) (λb hge e=>by
   cases hm:g.M b with
   |none=>rfl
   |some z=>have:=r.stable_lt hm; omega) (λ_ _ _ hn d=>d.nosh hn _) (Za6 hbs) (λx m hn=>AVal.nosh_ren m x hn) (N:=N) (λi hi=>by
   obtain⟨b,hb⟩:=X3 (QI N bs) N i (by simpa[QI] using hi);rw[hup _ hb]; exact hN i hi)
 refine⟨u,he,⟨g.M,c2,g.dk⟩,⟨MLe.refl _,k1,rfl⟩,k3,?_⟩;refine(hd.ren (c':=c2) (m:=QR N) (λb b' cb e1 e2=>?_)).nosh (AVal.nosh_ren _ _ hv) _;simp only[QR,Option.some.injEq] at e1;subst e1;refine k2 b cb ?_ e2;by_cases hb:b<bs.length
 ·exact hb
 ·have:=r'.empt b (by simp[hp]; omega);rw[this] at e2; cases e2
def YD:List ABlk→List ABlk
 |[]=>[]
 |_::l=>.dead::YD l
theorem XH:∀(l:List ABlk) (i:Nat),(YD l)[i]?=if i<l.length then some .dead else none
 |[],i=>by simp[YD]
 |x::l,0=>by simp[YD]
 |x::l,i+1=>by simp[YD,XH l i]
theorem QaW(l:List ABlk):(YD l).length=l.length:=by induction l<;>simp_all [YD]
def ltM(n:Nat):Nat→Option Nat:=λb=>bif Nat.blt b n then some b else none
def keepM(ids:List Nat)(n k:Nat):Nat→Option Nat:=λb=>bif ids.contains b||(Nat.ble n b&&Nat.blt b (n+k)) then some b else none
theorem Zao{f:FuncId}{F:MFn}(ok:FnOk P GL f F){xs:List AVal}(hn:xs.length=F.np)(σ:List ABlk)(ids:List Nat)(hids:∀i∈ids,i<σ.length){v:AVal}{news bs:List ABlk}(hbs:bs=news∨bs=[])
 (h:Awp P GL noZ F.n F.body (frame0 (renL (ltM σ.length) xs)) (YD σ) (λe ρ σ'=>(e=.normal∨e=.ret)∧retV F.rets ρ σ'=some v∧σ'=YD σ++news)) :
  ACall P GL f xs (hp σ) (v.ren (keepM ids σ.length bs.length)) ids (Yp σ.length (bs.map (ABlk.mapV (AVal.ren (keepM ids σ.length bs.length))))):=by
 intro w0 L g hq w vs r hx hrd hup
 let dm:CB:=⟨0,0,0,true,0⟩
 let c':Own:=λb=>if b<σ.length then some ((g.c b).getD dm) else none
 have r0:Rep GL w ⟨[],g.M⟩ ⟨g.M,c',[]⟩ (hp (YD σ)) w:={
  mks:=λ_ q=>by cases q
  keeps:=Keeps.refl _ _,stable:=r.stable,src:=λb o e=>.inl e,globs:=r.globs
  empt:=λb e=>by
   show c' b=none;simp only[hp,XH] at e
   grind
  dom:=λb blk e=>by
   simp only[hp,XH] at e;split at e
   ·rename_i hb; exact⟨_,by show c' b=_; simp only[c']; rw[YIP hb]⟩
   ·cases e
  own:=λb blk cb e hl _ _=>by
   simp only[hp,XH] at e;split at e
   ·cases e; cases hl
   ·cases e
  hollow:=λb blk cb e hl _ _=>by
   simp only[hp,XH] at e;split at e
   ·cases e; cases hl
   ·cases e
  inj:=λb b' blk blk' cb cb' e _ hl _ _ _ _ _ _=>by
   simp only[hp,XH] at e;split at e
   ·cases e; cases hl
   ·cases e }
 have hx':DenL ⟨g.M,c',[]⟩ (renL (ltM σ.length) xs) vs:=by
  refine DenL.of_get (by rw[Qr]; exact hx.length) (λi y u e1 e2=>?_);obtain⟨x,q1,rfl⟩:=Qaf e1;refine(hx.get i x u q1 e2).ren (λb b' cb k1 k2=>?_);unfold ltM at k1;obtain⟨k0,k1⟩:=Ql k1;cases k1;have hlt:b<σ.length:=YNL k0
  grind
 refine Yar ok (by rw[Qr,hn]) hx' r0 rfl h  (λ_ _ _ q=>q.1) (λfn h5 a' w'=>?_);have fin:∀g' ρ σ',(⟨g.M,c',[]⟩:Gm).Le g'→Rep GL w ⟨[],g.M⟩ g' (hp σ') w'→DenF F.n g' ρ a'→(retV F.rets ρ σ'=some v∧σ'=YD σ++news)→∃u,(results fn a'.tmps).run P w'=.ok u w'∧(∃u',Ending.returned u=.returned u'∧∃g2,g.Le g2∧Rep GL w0 L g2 (hups hq (Yp σ.length (bs.map (ABlk.mapV (AVal.ren (keepM ids σ.length bs.length)))))) w'∧g2.den (v.ren (keepM ids σ.length bs.length)) u'):=by
  rintro g' ρ σ' hle hr hd ⟨hret,rfl⟩;obtain⟨u,k1,k2⟩:=XU hr hd h5 hret;obtain⟨c2,j1,j2,j3⟩:=r.joinG hr σ.length (bs:=bs) (λi hi=>by
    rcases hbs with rfl|rfl<;>simp_all [hp,QaW]) (keepM ids σ.length bs.length) g'.M (λ_=>True) hle.m hr.stable (λb o e=>by
    rcases hr.src b o e with q|q|q<;>simp_all) (λ_ _ e=>e) (λ_ _ _ _ d=>d) (λb _=>ABlk.all_true b) (λ_ _ _=>trivial) (N:=σ.length) (λi hi=>by
    obtain⟨b,hb⟩:=X3 (bs.map (ABlk.mapV (AVal.ren (keepM ids σ.length bs.length)))) σ.length i (by simpa using hi);rw[hup _ hb]; simp[hp]) (λb b' cb e1 e2=>by
    unfold keepM at e1;obtain⟨e0,e1⟩:=Ql e1;cases e1;by_cases hin:b∈ids∧b<σ.length
    ·right;obtain⟨hin,hb⟩:=hin;have hb':hq b=some (σ[b]):=by rw[hrd b hin]; simp[hp,hb]
     obtain⟨cb0,hcb⟩:=r.dom b _ hb';have:c' b=some cb0:=by grind
     have:=hle.c b cb0 this;rw[e2] at this; cases this; exact hcb
    ·left;simp only[Bool.or_eq_true,Bool.and_eq_true] at e0;rcases e0 with q|⟨q1,q2⟩
     ·simp_all
     ·have:=YNL q1;have:b < σ.length + bs.length:=YNL q2;exact⟨b - σ.length,by omega,by omega,by omega⟩)
  exact⟨u,k1,u,rfl,⟨g'.M,c2,g.dk⟩,⟨hle.m,j1,rfl⟩,j3,k2.ren j2⟩
 exact λe g' ρ σ k1 k2 k3 k4=>fin g' ρ σ k1 k2 k3 k4.2
end
end Go.Ah
end
section
namespace Go.Ah
mutual
def AVal.ids:AVal→List Nat
 |.bptr b _=>[b]
 |.ptr b _ _=>[b]
 |.sl b _ _ _=>[b]
 |.map b=>[b]
 |.iter b=>[b]
 |.bsl b _ _ _=>[b]
 |.func _ xs ys=>idsL xs++idsL ys
 |.iface _ v=>v.ids
 |.agg cs=>idsL cs
 |.tup cs=>idsL cs
 |.when _ x=>x.ids
 |_=>[]
def idsL:List AVal→List Nat
 |[]=>[]
 |x::xs=>x.ids++idsL xs
end
def ZS:Nat→List ABlk→Option (List ABlk)
 |0,l=>some l
 |n+1,.dead::l=>ZS n l
 |_+1,_=>none
theorem ZaH:∀(σ l news:List ABlk),ZS σ.length l=some news→l=YD σ++news
 |[],l,news,h=>by simp_all [ZS,YD]
 |x::σ,l,news,h=>by
  cases l with
  |nil=>simp[ZS] at h
  |cons y l=>
   cases y with
   |dead=>simp only[List.length_cons,ZS] at h; rw[ZaH σ l news h]; rfl
   |_=>simp[ZS] at h
def Zo(n:Nat):List Nat→Bool
 |[]=>true
 |x::xs=>Nat.blt x n&&Zo n xs
theorem Y1{n:Nat}:∀ {l:List Nat},Zo n l=true→∀i∈l,i<n
 |x::xs,h,i,hi=>by
  simp only[Zo,Bool.and_eq_true] at h;rcases List.mem_cons.1 hi with rfl|hi
  ·exact YNL h.1
  ·exact Y1 h.2 i hi
end Go.Ah
end
section
namespace Go.Ah
def bndQ(n:Nat)(hd:List (List Nat))(c:Nat):Bool:=allN (λj=>Nat.blt j c||Zac (nthQ hd j) λh=>allN (λi=>memN h i) c) n
theorem Ycj{n:Nat}{hd:List (List Nat)}{c:Nat}(h:bndQ n hd c=true):∀j,j<n→c≤j→∀i,i<c→i∈Yj hd j:=by
 intro j hj hc i hi;have:=Yap h j hj;simp only[Yac,Bool.or_eq_true] at this;rcases this with q|q
 ·have:j<c:=YNL q;omega
 ·have:=Xau.1 (Yap q i hi)
  rwa [XaB] at this
def hdSeg(hd:List (List Nat))(lo n:Nat):List (List Nat):=(List.range n).map λj=>(Yj hd (lo+j)).filterMap λi=>match Nat.ble lo i with
 |true=>some (i-lo)
 |false=>none
theorem QcL{hd:List (List Nat)}{lo n j i:Nat}(h:i∈Yj (hdSeg hd lo n) j):lo+i∈Yj hd (lo+j):=by
 unfold hdSeg Yj at h;rw[List.getElem?_map] at h;cases e:(List.range n)[j]? with
 |none=>rw[e] at h; simp at h
 |some k=>
  rw[e] at h;have hk:k=j:=by
   grind
  subst hk;simp only[Option.map_some,Option.getD_some,List.mem_filterMap] at h;obtain⟨x,hx,h⟩:=h;split at h
  ·rename_i hb;have:=YNL hb;cases h
   rwa [show lo+(x-lo)=x by omega]
  ·cases h
section
variable {P:Program} {GL:Globs} {Z:PZ}
theorem QcK{n:Nat}{ops:Array Oper}{ms:List MOper}{hd:List (List Nat)}(hsz:ops.size=ms.length)(hok:∀(j:Nat) (m:MOper),ms[j]?=some m→∃o,ops[j]?=some o∧OperOk P GL n ops o m)(hdr:Qas ops.toList ms hd=true)
 {lo hi:Nat}{seg:List MOper}(hlh:lo+seg.length=hi)(hhi:hi≤ms.length)(hseg:∀j m,seg[j]?=some m→ms[lo+j]?=some m)(bhi:∀j,j<ms.length→hi≤j→∀i,i<hi→i∈Yj hd j)
 {ρ:Frame}{σ:List ABlk}{ts:List TS}{K:Frame→List ABlk→Log→Prop}(htr:Tr P GL seg ts ρ σ [] K)(hap:Xf (hdSeg hd lo seg.length) (ts.map λx=>(x.rd,x.up.map (·.1)))=true)
 {w0:World}{L:Ln}{g:Gm}{rnd:Option Nat}(Q:Exit→Act→World→Prop)
 (hQ:∀ g' ρ' σ' a w fuel (listed:Array Bool),g.Le g'→Rep GL w0 L g' (hp σ') w→DenF n g' ρ' a→K ρ' σ' (ts.map λx=>(x.rd,x.up.map (·.1)))→listed.size=ms.length→(∀ k,k < hi→listed.getD k false=true)→(∀ k,hi≤k→listed.getD k false=false) →
   cnt (λk=>listed.getD k false) ms.length≤fuel→wpAnyIn (wz rnd) 0 P .any ops Q fuel listed a w) :
  ∀(fuel:Nat) (listed:Array Bool) (a:Act) (w:World),listed.size=ms.length→(∀j,listed.getD j false=true→j<ms.length∧∀i∈waits (ops.toList.getD j default),listed.getD i false=true) →
   (∀k,k<lo→listed.getD k false=true)→(∀k,hi≤k→listed.getD k false=false) →
   cnt (λk=>listed.getD k false) ms.length≤fuel→(∃g' ρ',g.Le g'∧Rep GL w0 L g' (hpS (λk=>listed.getD k false) lo ts (hp σ)) w∧DenF n g' ρ' a∧∀t,fget ρ' t=fget (frS (λk=>listed.getD k false) lo seg ts ρ) t) →
   wpAnyIn (wz rnd) 0 P .any ops Q fuel listed a w:=by
 have D:=ZU hdr;obtain⟨hlen,hat,ρf,σf,hf1,hf2,hf3⟩:=Ycd seg ts lo ρ σ [] K htr;rw[List.nil_append] at hf3;have hA:∀j,j<seg.length→∀i,i<j→lo+i∈Yj hd (lo+j)∨apart2 (Qp (ts.map λx=>(x.rd,x.up.map (·.1))) i) (Qp (ts.map λx=>(x.rd,x.up.map (·.1))) j)=true:=by
  intro j hj i hi;unfold Xf at hap;simp only[List.all_eq_true,List.mem_range,List.length_map] at hap;have:=YV (hap j (by omega)) i (Qp (ts.map λx=>(x.rd,x.up.map (·.1))) i) (by
   grind [Qp])
  rw[Nat.zero_add] at this;exact this.imp QcL id
 have hlog:∀j x,ts[j]?=some x→Qp (ts.map λx=>(x.rd,x.up.map (·.1))) j=(x.rd,x.up.map (·.1)):=by
  simp_all [Qp]
 have fin:∀(fuel:Nat) (listed:Array Bool) (a:Act) (w:World),listed.size=ms.length→(∀k,k<hi→listed.getD k false=true)→(∀k,hi≤k→listed.getD k false=false)→cnt (λk=>listed.getD k false) ms.length≤fuel →
   (∃g' ρ',g.Le g'∧Rep GL w0 L g' (hpS (λk=>listed.getD k false) lo ts (hp σ)) w∧DenF n g' ρ' a∧∀t,fget ρ' t=fget (frS (λk=>listed.getD k false) lo seg ts ρ) t)→wpAnyIn (wz rnd) 0 P .any ops Q fuel listed a w:=by
  rintro fuel listed a w hs hall hno hc ⟨g',ρ',h1,h2,h3,h4⟩;refine hQ g' ρf σf a w fuel listed h1 ?_ ?_ hf3 hs hall hno hc
  ·rw[hf2];have:hpS (λk=>listed.getD k false) lo ts (hp σ)=hpS (λ_=>true) lo ts (hp σ):=by
    funext b
    refine YL _ _ _ _ (λk t e _=>?_) rfl
    grind
   rw[←this]; exact h2
  ·refine h3.weak (λt=>.inl ?_);rw[hf1 t,h4 t];refine ZL _ _ _ _ _ (λk m e _=>?_) rfl
   grind
 intro fuel
 induction fuel with
 |zero=>
  intro listed a w hs hS hlo hno hc hst;exact fin 0 listed a w hs (λk hk=>YaJ (Nat.le_zero.1 hc) k (by omega)) hno hc hst
 |succ fuel ih=>
  intro listed a w hs hS hlo hno hc hst;by_cases hall:∀k,k<hi→listed.getD k false=true
  ·grind
  refine⟨λhr=>?_,λj hj=>?_⟩
  ·exfalso;refine hall λk=>?_
   induction k using Nat.strongRecOn with
   |_ k ihk=>
    intro hk;cases hl:listed.getD k false with
    |true=>rfl
    |false=>
     exfalso;have hko:ops[k]?=some (ops[k]'(by omega)):=by simp[show k<ops.size by omega]
     have:k∈Region.ready .any ops listed:=by
      rw[mem_ready];refine⟨?_,_,hko,λe he hb=>?_⟩
      ·grind
      ·have hw:e.on∈waits (ops.toList.getD k default):=by rw[ZI ops k hko,Z0]; exact⟨e,he,hb,rfl⟩
       have hlt:=D.back k (by omega) _ hw;exact ihk e.on hlt (by omega)
     rw[hr] at this; cases this
  obtain⟨h1,o,ho,hedge⟩:=mem_ready.1 hj;have hjn:j<ms.length:=by grind
  have hSj:listed.getD j false=false:=by
   grind
  have hwj:∀i∈waits (ops.toList.getD j default),listed.getD i false=true:=by
   intro i hi;rw[ZI ops j ho,Z0] at hi;obtain⟨e,he,hb,rfl⟩:=hi;exact hedge e he hb
  have hhd:=Zap D (S:=λk=>listed.getD k false) hS j hjn hwj;have hjlo:lo≤j:=by
   grind
  have hjhi:j<hi:=by
   grind
  obtain⟨j,rfl⟩:∃q,j=lo+q:=⟨j-lo,by omega⟩;have hjs:j<seg.length:=by omega
  have hmj:seg[j]?=some seg[j]:=by simp
  have htj:ts[j]?=some (ts[j]'(by omega)):=by simp[show j<ts.length by omega]
  generalize hmd:seg[j]=m at hmj;generalize hxd:(ts[j]'(by omega))=x at htj;have hmJ:=hseg j m hmj;have hmD:ms.getD (lo+j) default=m:=by grind
  obtain⟨o',ho',oko⟩:=hok (lo+j) m hmJ;rw[ho] at ho'; cases ho';obtain⟨ρj,q1,q2⟩:=hat j m x hmj htj;obtain⟨g',ρ',s1,s2,s3,s4⟩:=hst;have key:∀k,k<seg.length→(k<j→lo+k∈Yj hd (lo+j))→(j<k→lo+j∈Yj hd (lo+k))→(k≠j)→(listed.getD (lo+k) false=decide (lo+k<lo+j)):=by
   intro k hk ha hb hne;by_cases hlt:k<j
   ·grind
   ·rw[YDF (by omega)];have hgt:j<k:=by omega
    cases hl:listed.getD (lo+k) false with
    |false=>rfl
    |true=>
     have:listed.getD (lo+j) false=true:=Zap D (S:=λk=>listed.getD k false) hS (lo+k) (by omega) (hS (lo+k) hl).2 (lo+j) (hb hgt);rw[hSj] at this; cases this
  have hslot:∀t,(t∈usesT m)→∀k mk,seg[k]?=some mk→mk.dst=some t→k≠j→listed.getD (lo+k) false=decide (lo+k<lo+j):=by
   intro t ht k mk hk hdst hne;have hkn:k<seg.length:=(YLG hk).1;have hkD:ms.getD (lo+k) default=mk:=by rw[List.getD_eq_getElem?_getD,hseg k mk hk]; rfl
   have hdef:t∈defsT mk:=by unfold defsT; rw[hdst]; simp
   refine key k hkn (λhlt=>?_) (λhgt=>?_) hne
   ·rcases D.slots (lo+j) hjn (lo+k) (by omega) with q|⟨q,_,_⟩
    ·exact q
    grind
   ·rcases D.slots (lo+k) (by omega) (lo+j) (by omega) with q|⟨_,_,q⟩
    ·exact q
    grind
  have hblk:∀b,(b∈x.rd∨b∈x.up.map (·.1))→∀k xk,ts[k]?=some xk→b∈xk.up.map (·.1)→k≠j→listed.getD (lo+k) false=decide (lo+k<lo+j):=by
   intro b hb k xk hk hin hne;have hkn:k<seg.length:=by grind
   refine key k hkn (λhlt=>?_) (λhgt=>?_) hne
   ·rcases hA j hjs k hlt with q|q
    ·exact q
    ·rw[hlog k xk hk,hlog j x htj] at q;simp only[apart2,Bool.and_eq_true] at q
     grind [QY]
   ·rcases hA k hkn j hgt with q|q
    ·exact q
    ·rw[hlog k xk hk,hlog j x htj] at q;simp only[apart2,Bool.and_eq_true] at q
     grind [QY]
  have hjself:∀k,k=j→listed.getD (lo+k) false=decide (lo+k<lo+j):=by rintro k rfl; rw[hSj]; simp
  have heq:∀b,(b∈x.rd∨b∈x.up.map (·.1))→hpS (λk=>listed.getD k false) lo ts (hp σ) b=hpS (λk=>decide (k<lo+j)) lo ts (hp σ) b:=by
   intro b hb;refine YL _ _ _ _ (λk xk e1 e2=>?_) rfl;by_cases hkj:k=j
   ·exact hjself k hkj
   ·exact hblk b hb k xk e1 e2 hkj
  unfold wpOpIn;simp only[ho];refine q2 n ops o oko ρ' _ w0 L g' w a (λt ht=>?_) (λb hb=>heq b (.inl hb)) (λp hp'=>heq p.1 (.inr (List.mem_map.2 ⟨p,hp',rfl⟩))) s2 s3 rnd _ _ (λg2 w2 u hle hr hd2=>?_)
  ·rw[s4 t,q1 t];refine ZL _ _ _ _ _ (λk mk e1 e2=>?_) rfl;by_cases hkj:k=j
   ·exact hjself k hkj
   ·exact hslot t ht k mk e1 e2 hkj
  ·have hset':∀k,(listed.setIfInBounds (lo+j) true).getD k false=if k=lo+j then true else listed.getD k false:=by
    intro k;by_cases hk:k<ms.length
    ·by_cases hkj:k=lo+j
     ·subst hkj; simp[show lo+j<listed.size by omega]
     ·rw[YIN hkj]; simp[Array.getElem?_setIfInBounds_ne (Ne.symm hkj)]
    ·rw[YIN (by omega)]
     grind
   refine ih _ _ _ (by simpa using hs) (λk hk=>?_) (λk hk=>?_) (λk hk=>?_) ?_ ⟨g2,putF m.dst x.v ρ',s1.trans hle,?_,hd2,λt=>?_⟩
   ·rw[hset'] at hk;by_cases hkj:k=lo+j
    ·subst hkj;refine⟨hjn,λi hi=>?_⟩;rw[hset']; split
     ·rfl
     ·exact hwj i hi
    ·rw[YIN hkj] at hk;refine⟨(hS k hk).1,λi hi=>?_⟩;rw[hset']; split
     ·rfl
     ·exact(hS k hk).2 i hi
   ·rw[hset']; split
    ·rfl
    ·exact hlo k hk
   ·rw[hset',YIN (by omega)]; exact hno k hk
   ·have:=Yba (S:=λk=>listed.getD k false) (S':=λk=>(listed.setIfInBounds (lo+j) true).getD k false) (j:=lo+j) (n:=ms.length) hjn hSj (by simp only[hset']; simp) (λk hk hne=>by simp only[hset']; rw[YIN hne]);omega
   ·have:hpS (λk=>(listed.setIfInBounds (lo+j) true).getD k false) lo ts (hp σ)=hups (hpS (λk=>listed.getD k false) lo ts (hp σ)) x.up:=by
     funext b
     by_cases hb:b∈x.up.map (·.1)
     ·refine Zbf ts lo (hp σ) j x htj hb (by rw[hset',YIP rfl]) (λk xk e1 e2 e3=>?_) _;rw[hset'] at e3;by_cases hkj:k=j
      ·omega
      ·rw[YIN (by omega)] at e3;rw[hblk b (.inr hb) k xk e1 e2 hkj] at e3;have:=of_decide_eq_true e3; omega
     ·rw[ZaK _ _ _ hb];refine YL _ _ _ _ (λk xk e1 e2=>?_) rfl;simp only[hset'];have hkj:k≠j:=by grind
      rw[YIN (by omega)]
    rw[this]; exact hr
   ·rw[ZQ];by_cases hdt:m.dst=some t
    ·rw[YIP hdt];refine(Zbe seg ts lo ρ j m x hmj htj hdt (by rw[hset',YIP rfl]) (λk mk e1 e2 e3=>?_)).symm;rw[hset'] at e3;by_cases hkj:k=j
     ·omega
     ·rw[YIN (by omega)] at e3;have hkn:k<seg.length:=(YLG e1).1;have hkD:ms.getD (lo+k) default=mk:=by rw[List.getD_eq_getElem?_getD,hseg k mk e1]; rfl
      have hdefm:t∈defsT m:=by unfold defsT; rw[hdt]; simp
      have hdefk:t∈defsT mk:=by unfold defsT; rw[e2]; simp
      have:=key k hkn (λhlt=>by
       rcases D.slots (lo+j) hjn (lo+k) (by omega) with q|⟨_,q,_⟩
       ·exact q
       ·rw[hkD,hmD] at q; exact(q t hdefk hdefm).elim) (λhgt=>by
       rcases D.slots (lo+k) (by omega) (lo+j) (by omega) with q|⟨_,q,_⟩
       ·exact q
       ·rw[hkD,hmD] at q; exact(q t hdefm hdefk).elim) hkj
      grind
    ·rw[YIN hdt,s4 t];refine ZL _ _ _ _ _ (λk mk e1 e2=>?_) rfl;simp only[hset'];have hkj:k≠j:=by grind
     rw[YIN (by omega)]
theorem XcK{n:Nat}{ops:Array Oper}{ms:List MOper}{hd:List (List Nat)}(hsz:ops.size=ms.length)(hok:∀(j:Nat) (m:MOper),ms[j]?=some m→∃o,ops[j]?=some o∧OperOk P GL n ops o m)(hdr:Qas ops.toList ms hd=true)
 {lo:Nat}{m:MOper}(hm:ms[lo]?=some m)(bhi:∀j,j<ms.length→lo+1≤j→∀i,i<lo+1→i∈Yj hd j)
 {ρ:Frame}{σ:List ABlk}{K:Frame→List ABlk→Log→Prop}(hst:StepR false P GL Z m ρ σ [] K)
 {w0:World}{L:Ln}{g:Gm}{rnd:Option Nat}(Q:Exit→Act→World→Prop)
 (hQ:∀ g' ρ' σ' lg a w fuel (listed:Array Bool),g.Le g'→Rep GL w0 L g' (hp σ') w→DenF n g' ρ' a→K ρ' σ' lg→listed.size=ms.length→(∀ k,k < lo + 1→listed.getD k false=true)→(∀ k,lo + 1≤k→listed.getD k false=false) →
   cnt (λk=>listed.getD k false) ms.length≤fuel→wpAnyIn (wz rnd) 0 P .any ops Q fuel listed a w)
 (hz:∀g' x σ' u w' a',Z x σ'→g.Le g'→Rep GL w0 L g' (hp σ') w'→DenF n g' [] a'→g'.den x u→Q (.panic [{ v:=u,recovered:=false }]) a' w')
 (fuel:Nat)(listed:Array Bool)(a:Act)(w:World)(hs:listed.size=ms.length)(hlo:∀k,k<lo→listed.getD k false=true)(hno:∀k,lo≤k→listed.getD k false=false)
 (hc:cnt (λk=>listed.getD k false) ms.length≤fuel)(r:Rep GL w0 L g (hp σ) w)(d:DenF n g ρ a):wpAnyIn (wz rnd) 0 P .any ops Q fuel listed a w:=by
 have D:=ZU hdr;have hln:lo<ms.length:=(YLG hm).1;have hS:∀j,listed.getD j false=true→j<ms.length∧∀i∈waits (ops.toList.getD j default),listed.getD i false=true:=by
  intro j hj;have hjl:j<lo:=by
   grind
  exact⟨by omega,λi hi=>hlo i (by have:=D.back j (by omega) i hi; omega)⟩
 obtain⟨o,ho,oko⟩:=hok lo m hm;cases fuel with
 |zero=>have:=YaJ (Nat.le_zero.1 hc) lo hln; grind
 |succ fuel=>
  refine⟨λhr=>?_,λj hj=>?_⟩
  ·exfalso;have:lo∈Region.ready .any ops listed:=by
    rw[mem_ready];refine⟨?_,o,ho,λe he hb=>?_⟩
    ·grind
    ·have hw:e.on∈waits (ops.toList.getD lo default):=by rw[ZI ops lo ho,Z0]; exact⟨e,he,hb,rfl⟩
     exact hlo _ (D.back lo hln _ hw)
   rw[hr] at this; cases this
  ·obtain⟨h1,o',ho',hedge⟩:=mem_ready.1 hj;have hjn:j<ms.length:=by grind
   have hSj:listed.getD j false=false:=by
    grind
   have hwj:∀i∈waits (ops.toList.getD j default),listed.getD i false=true:=by
    intro i hi;rw[ZI ops j ho',Z0] at hi
    grind
   have hhd:=Zap D (S:=λk=>listed.getD k false) hS j hjn hwj;have hjl:j=lo:=by
    grind
   subst hjl;rw[ho] at ho'; cases ho';unfold wpOpIn;simp only[ho];refine Ya8 oko hst r d rnd _ Q (λa' w' ⟨g',ρ',σ',lg',hle,hr,hd',hk⟩=>?_) (λg' x σ' u w' q1 q2 q3 q4 q5=>hz g' x σ' u w' a q1 q2 q3 q4 q5);have hset':∀k,(listed.setIfInBounds j true).getD k false=if k=j then true else listed.getD k false:=by
    intro k;by_cases hk:k<ms.length
    ·by_cases hkj:k=j
     ·subst hkj; simp[show k<listed.size by omega]
     ·rw[YIN hkj]; simp[Array.getElem?_setIfInBounds_ne (Ne.symm hkj)]
    grind
   refine hQ g' ρ' σ' lg' a' w' fuel _ hle hr hd' hk (by simpa using hs) (λk hk=>?_) (λk hk=>?_) ?_
   ·grind
   ·grind
   ·have:=Yba (S:=λk=>listed.getD k false) (S':=λk=>(listed.setIfInBounds j true).getD k false) (j:=j) (n:=ms.length) hjn hSj (by simp only[hset']; simp) (λk hk hne=>by simp only[hset']; rw[YIN hne]);omega
abbrev Pcs:=List (List MOper×Bool)
def Qu:Pcs→List MOper
 |[]=>[]
 |p::r=>p.1++Qu r
def pcsOk(n:Nat)(hd:List (List Nat)):Nat→Pcs→Bool
 |_,[]=>true
 |lo,(seg,s)::r=>(!s||Nat.beq seg.length 1)&&(bndQ n hd (lo+seg.length)&&pcsOk n hd (lo+seg.length) r)
def AwpS(P:Program)(GL:Globs)(Z:PZ)(hd:List (List Nat)):Nat→Pcs→Frame→List ABlk→(Frame→List ABlk→Prop)→Prop
 |_,[],ρ,σ,K=>K ρ σ
 |lo,(seg,true)::r,ρ,σ,K=>AwpR false P GL Z seg ρ σ [] λρ σ _=>AwpS P GL Z hd (lo+seg.length) r ρ σ K
 |lo,(seg,false)::r,ρ,σ,K=>AwpR true P GL Z seg ρ σ [] λρ σ lg=>Xf (hdSeg hd lo seg.length) lg=true∧AwpS P GL Z hd (lo+seg.length) r ρ σ K
theorem QaQ{n:Nat}{ops:Array Oper}{ms:List MOper}{hd:List (List Nat)}(hsz:ops.size=ms.length)(hok:∀(j:Nat) (m:MOper),ms[j]?=some m→∃o,ops[j]?=some o∧OperOk P GL n ops o m)(hdr:Qas ops.toList ms hd=true)
 {w0:World}{L:Ln}{rnd:Option Nat}{Q:Exit→Act→World→Prop}{K:Frame→List ABlk→Prop}:∀(ps:Pcs) (lo:Nat) (ρ:Frame) (σ:List ABlk) (g:Gm),pcsOk ms.length hd lo ps=true→lo+(Qu ps).length=ms.length→(∀j m,(Qu ps)[j]?=some m→ms[lo+j]?=some m) →
  AwpS P GL Z hd lo ps ρ σ K→(∀g' ρ' σ' a w,g.Le g'→Rep GL w0 L g' (hp σ') w→DenF n g' ρ' a→K ρ' σ'→Q .normal a w)→(∀g' x σ' u w' a',Z x σ'→g.Le g'→Rep GL w0 L g' (hp σ') w'→DenF n g' [] a'→g'.den x u→Q (.panic [{ v:=u,recovered:=false }]) a' w') →
  ∀(fuel:Nat) (listed:Array Bool) (a:Act) (w:World),listed.size=ms.length→(∀k,k<lo→listed.getD k false=true)→(∀k,lo≤k→listed.getD k false=false)→cnt (λk=>listed.getD k false) ms.length≤fuel→Rep GL w0 L g (hp σ) w→DenF n g ρ a→wpAnyIn (wz rnd) 0 P .any ops Q fuel listed a w
 |[],lo,ρ,σ,g,_,hl,_,h,hQ,_,fuel,listed,a,w,hs,hlo,hno,hc,r,d=>by
  have hln:lo=ms.length:=by simpa[Qu] using hl
  have hq:Q .normal a w:=hQ g ρ σ a w (Gm.Le.refl g) r d h;have hr:Region.ready .any ops listed=[]:=by
   simp_all [Region.ready]
  cases fuel with
  |zero=>exact⟨hr,hq⟩
  |succ fuel=>exact⟨λ_=>hq,λi hi=>by rw[hr] at hi; cases hi⟩
 |(seg,true)::ps,lo,ρ,σ,g,hp',hl,hms,h,hQ,hz,fuel,listed,a,w,hs,hlo,hno,hc,r,d=>by
  simp only[pcsOk,Bool.and_eq_true,Bool.not_true,Bool.false_or] at hp';have h1:=YNB hp'.1;obtain⟨m,rfl⟩:=List.length_eq_one_iff.1 h1;simp only[Qu,List.length_append,List.length_singleton] at hl;have hm:ms[lo]?=some m:=by have:=hms 0 m (by simp[Qu]); simpa using this
  have hst:StepR false P GL Z m ρ σ [] (λρ' σ' _=>AwpS P GL Z hd (lo + 1) ps ρ' σ' K):=h;refine XcK hsz hok hdr hm (λj hj hc i hi=>Ycj hp'.2.1 j hj hc i hi) hst Q (λg' ρ' σ' lg a' w' fuel' listed' k1 k2 k3 k4 k5 k6 k7 k8=>?_) hz fuel listed a w hs hlo hno hc r d;exact QaQ hsz hok hdr ps (lo + 1) ρ' σ' g' hp'.2.2 (by omega) (λj m' e=>by
   have:=hms (j+1) m' (by simpa[Qu] using e)
   grind) k4 (λg2 ρ2 σ2 a2 w2 q=>hQ g2 ρ2 σ2 a2 w2 (k1.trans q)) (λg2 x σ2 u w2 a2 q1 q2=>hz g2 x σ2 u w2 a2 q1 (k1.trans q2)) fuel' listed' a' w' k5 k6 k7 k8 k2 k3
 |(seg,false)::ps,lo,ρ,σ,g,hp',hl,hms,h,hQ,hz,fuel,listed,a,w,hs,hlo,hno,hc,r,d=>by
  simp only[pcsOk,Bool.and_eq_true,Bool.not_false,Bool.true_or,true_and] at hp';simp only[Qu,List.length_append] at hl;have hseg:∀ j m,seg[j]?=some m→ms[lo + j]?=some m:=λj m e=>hms j m (by
   grind [Qu])
  have hw:AwpR true P GL Z seg ρ σ [] (λρ' σ' lg=>Xf (hdSeg hd lo seg.length) lg=true∧AwpS P GL Z hd (lo+seg.length) ps ρ' σ' K):=h;obtain⟨ts,htr⟩:=Zay seg ρ σ [] _ hw;obtain⟨hlen,_,ρf,σf,_,_,hf3⟩:=Ycd seg ts lo ρ σ [] _ htr;rw[List.nil_append] at hf3;have D:=ZU hdr;refine QcK (w0:=w0) (L:=L) (g:=g) hsz hok hdr rfl (by omega) hseg (λj hj hc i hi=>Ycj hp'.1 j hj hc i hi) htr hf3.1 Q (λg' ρ' σ' a' w' fuel' listed' k1 k2 k3 k4 k5 k6 k7 k8=>?_) fuel listed a w hs (λj hj=>?_) hlo (λk hk=>hno k (by omega)) hc ⟨g,ρ,Gm.Le.refl g,?_,d,λt=>?_⟩
  ·exact QaQ hsz hok hdr ps (lo + seg.length) ρ' σ' g' hp'.2 (by omega) (λj m' e=>by
    have:=hms (seg.length+j) m' (by simp_all [Qu,List.getElem?_append_right])
    grind) k4.2 (λg2 ρ2 σ2 a2 w2 q=>hQ g2 ρ2 σ2 a2 w2 (k1.trans q)) (λg2 x σ2 u w2 a2 q1 q2=>hz g2 x σ2 u w2 a2 q1 (k1.trans q2)) fuel' listed' a' w' k5 k6 k7 k8 k2 k3
  ·have hjl:j<lo:=by
    grind
   exact⟨by omega,λi hi=>hlo i (by have:=D.back j (by omega) i hi; omega)⟩
  ·have:hpS (λk=>listed.getD k false) lo ts (hp σ)=hpS (λ_=>false) lo ts (hp σ):=by
    funext b
    refine YL _ _ _ _ (λk t e _=>hno _ (by omega)) rfl
   rw[this];have hid:∀(ts:List TS) (i:Nat) (h:Hp),hpS (λ_=>false) i ts h=h:=by
    intro ts
    induction ts<;>simp_all [hpS]
   rw[hid]; exact r
  ·have hid:∀(ms:List MOper) (ts:List TS) (i:Nat) (ρ:Frame),frS (λ_=>false) i ms ts ρ=ρ:=by
    intro ms
    induction ms with
    |nil=>intros; simp[frS]
    |cons m ms ih=>intro ts i ρ; cases ts<;>simp_all [frS]
   have:fget (frS (λk=>listed.getD k false) lo seg ts ρ) t=fget (frS (λ_=>false) lo seg ts ρ) t:=ZL _ _ _ _ _ (λk m e _=>hno _ (by omega)) rfl;rw[this,hid]
theorem YcY(hP:POk P){n:Nat}{id:Nat}{ps:Pcs}{hd:List (List Nat)}{ρ:Frame}{σ:List ABlk}{Q:APost}(hps:pcsOk (Qu ps).length hd 0 ps=true)
 (h:AwpS P GL Z hd 0 ps ρ σ (λρ' σ'=>Q .normal ρ' σ')):Awp P GL Z n (.region id (Qu ps) (some hd)) ρ σ Q:=by
 intro c hc rnd hr w0 L g a w r d;cases hc with
 |draw _ ops _ _ hsz hok hdr=>
  refine wpIn_region_any hP.1 ?_;have hF:∀k,(Array.replicate ops.size false).getD k false=false:=by
   intro k; rw[Array.getD_eq_getD_getElem?,Array.getElem?_replicate]; split<;>rfl
  refine QaQ (w0:=w0) (L:=L) hsz hok hdr ps 0 ρ σ g hps (by simp) (λj m e=>by simpa using e) h (λg' ρ' σ' a' w' k1 k2 k3 k4=>⟨g',ρ',σ',k1.toK,k2,k3,k4⟩) (λg' x σ' u w' a' q1 q2 q3 q4 q5=>⟨g',x,σ',u,rfl,q2.toK,q3,q4,q5,q1⟩) ops.size _ a _ (by simp[hsz]) (λk hk=>by omega) (λk _=>hF k) ?_ r.drew d;rw[hsz];have:∀m,cnt (λk=>(Array.replicate (Qu ps).length false).getD k false) m≤m:=by
   intro m
   induction m<;>simp_all [cnt]
  exact this _
end
end Go.Ah
end
section
namespace Go.Ah
section
variable {P:Program} {GL:Globs} {Z:PZ}
theorem Y4{w:World}{l:Nat}{r:Loop}(h:w.heap[l]?=some (.loop r)):(Instr.getLoop l).run P w=.ok r w:=by
 simp[Instr.getLoop,getObj,Sem.run_bind,Sem.run,h,Result.andThen]
theorem YaC{w:World}{l:Nat}{r:Loop}{o':Obj}(h:w.heap[l]?=some (.loop r)):(setObj l o').run P w=.ok () { w with heap:=w.heap.setIfInBounds l o' }:=by
 simp[setObj,Sem.run,h]
def rowF(ρ:Frame):Nat→Nat→List AVal
 |_,0=>[]
 |i,n+1=>fget ρ i::rowF ρ (i+1) n
theorem QbV(ρ:Frame):∀(n i j:Nat) (x:AVal),(rowF ρ i n)[j]?=some x→x=fget ρ (i+j)∧j<n
 |0,i,j,x,h=>by simp[rowF] at h
 |n+1,i,0,x,h=>by simp[rowF] at h; exact⟨h.symm,by omega⟩
 |n+1,i,j+1,x,h=>by
  have:=QbV ρ n (i+1) j x (by simpa[rowF] using h);exact⟨by rw[this.1]; congr 1; omega,by omega⟩
def rndF:List Nat→List AVal→Frame→Frame
 |p::ps,x::xs,ρ=>rndF ps xs ((p,x)::ρ)
 |_,_,ρ=>ρ
theorem YbV{n:Nat}{g:Gm}(hmk:g.dk=[]):∀ {ps:List Nat} {xs:List AVal} {vs:List Value} {ρ:Frame} {t:Array Value},(∀p∈ps,p<n)→ps.length=xs.length→DenL g xs vs→DenF n g ρ { tmps:=t,defers:=[] } →
  DenF n g (rndF ps xs ρ) { tmps:=((ps.zip vs).foldl (λtmps (t,a)=>tmps.setIfInBounds t a) t),defers:=[] }
 |[],[],[],ρ,t,_,_,_,d=>d
 |p::ps,x::xs,v::vs,ρ,t,hp,hl,⟨dv,dl⟩,d=>by
  have:=d.put (d:=p) (hp p (by simp)) dv;exact YbV (ps:=ps) (xs:=xs) (vs:=vs) hmk (λq hq=>hp q (by simp[hq])) (by simpa using hl) dl this
 |[],_::_,_,_,_,_,hl,_,_=>by simp at hl
 |_::_,[],_,_,_,_,hl,_,_=>by simp at hl
theorem Ycq{σ:List ABlk}{b:Nat}{x y:ABlk}(h:hp σ b=some x):hup (hp σ) b y=hp (σ.set b y):=by
 funext n
 unfold hup hp at *;have hb:b<σ.length:=by
  rcases Nat.lt_or_ge b σ.length with q|q
  ·exact q
  ·rw[List.getElem?_eq_none q] at h; cases h
 by_cases e:n=b
 ·subst e; simp[hb]
 ·rw[YIN e,List.getElem?_set_ne (Ne.symm e)]
theorem Zc2(σ:List ABlk)(x:ABlk):hup (hp σ) σ.length x=hp (σ++[x]):=by
 funext n
 unfold hup hp;by_cases e:n=σ.length
 ·subst e; simp
 ·rw[YIN e];by_cases h:n<σ.length
  ·rw[List.getElem?_append_left h]
  ·rw[List.getElem?_eq_none (by omega),List.getElem?_eq_none (by simp; omega)]
theorem Qbe{σ:List ABlk}{b id st:Nat}{row:List AVal}(h:hget σ b=.lp id row st):hp σ b=some (.lp id row st):=XW h (by simp)
def exN:AExit→Nat
 |.normal=>0
 |.ret=>2
 |.exit id=>id+3
def isNrm:AExit→Bool
 |.normal=>true
 |_=>false
theorem Rep.loop{w0:World}{L:Ln}{g:Gm}{h:Hp}{w:World}(r:Rep GL w0 L g h w){b id st st':Nat}{row:List AVal}(hb:h b=some (.lp id row st)){cb:CB}(ec:g.c b=some cb) :
  ∃(rc:Loop) (lr:LRec),w.heap[cb.blk]?=some (.loop rc)∧lps id=some lr∧rc.params=lr.ps∧rc.assign=lr.a∧rc.body=lr.b∧rc.tmps.size=lr.n∧LSt st rc∧(∀(j:Nat) (x:AVal) (v:Value),row[j]?=some x→rc.tmps[j]?=some v→g.den x v) ∧
   ∀(s:LoopState) (p:Option Code),LSt st' { rc with state:=s,pending:=p }→Rep GL w0 L g (hup h b (.lp id row st')) { w with heap:=w.heap.setIfInBounds cb.blk (.loop { rc with state:=s,pending:=p }) }:=by
 cases hvirt:cb.virt with
 |true=>have:=r.hollow b _ cb hb rfl ec hvirt; cases this
 |false=>
  obtain⟨_,_,o,ho,h0,rc,lr,rfl,h2,h3,h4,h5,h6,h7,h8⟩:=r.own b _ cb hb rfl ec hvirt;exact⟨rc,lr,ho,h2,h3,h4,h5,h6,h7,h8,λs p hs=>r.write hb rfl ec hvirt rfl rfl rfl rfl rfl ⟨h0,_,lr,rfl,h2,h3,h4,h5,h6,hs,h8⟩⟩
theorem YbH{b id:Nat}{row xs:List AVal}{σ:List ABlk}{R:KT}{lr:LRec}{x y:MCode}(hb:hget σ b=.lp id row 0)(hl:lps id=some lr)(hx:CodeOk P GL lr.n lr.a x)(hy:CodeOk P GL lr.n lr.b y)
 (hnx:x.norf=true)(hny:y.norf=true)(hps:lr.ps.toList.length=xs.length)(hlt:∀t∈lr.ps.toList,t<lr.n)(hrow:row.length≤lr.n)
 (h:Awp P GL noZ lr.n x (rndF lr.ps.toList xs (frame0 row)) σ (λe ρ1 σ1=>e=.normal∧∃id1 row1,hget σ1 b=.lp id1 row1 0∧Awp P GL noZ lr.n y ρ1 (σ1.set b (.lp id1 row1 1)) (λe2 _ σ2=>∃id2 row2 st,hget σ2 b=.lp id2 row2 st∧R (.bool (isNrm e2)) (σ2.set b (.lp id2 row2 (exN e2)))))) :
  OpRel P GL .callv (.iter b::xs) σ R:=by
 intro o os hco w0 L g w a r hxs;generalize ho:o.op=op at hco;cases hco with
 |callv xo args ts=>
  obtain⟨d,dr⟩:=hxs;generalize hu:a.eval xo=u0 at d;have hb':=Qbe hb;have hcb:∃cb,g.c b=some cb∧cb.base=1∧u0=.func (.yield cb.blk) #[] #[]:=by
   cases d with
   |iter _ _ cb ec h0=>
    exfalso;cases hvirt:cb.virt with
    |true=>have:=r.hollow b _ cb hb' rfl ec hvirt; cases this
    |false=>
     obtain⟨_,_,o,_,h1,_⟩:=r.own b _ cb hb' rfl ec hvirt;omega
   |yld _ _ cb ec h1=>exact⟨cb,ec,h1,rfl⟩
  obtain⟨cb,ec,hbase,rfl⟩:=hcb;obtain⟨rc,lr',ho',hl',hp1,hp2,hp3,hsz,hst,hden,_⟩:=r.loop (st':=0) hb' ec;rw[hl] at hl'; cases hl';have hrun:(execOp a.eval o).run P w=.ok (.round cb.blk rc.fn ((rc.params.zip (args.map a.eval)).foldl (λtmps (t,a)=>tmps.setIfInBounds t a) rc.tmps) rc.assign rc.body) w:=by
   have hlen:=dr.length;simp at hlen;have hpsz:rc.params.size=args.size:=by rw[hp1]; simp at hps; omega
   simp[execOp,ho,resolve,Deferred.ofValue,invoke,Instr.yield,hu,Sem.run_bind,Y4 ho',Result.andThen,hpsz]
  rw[hrun];have r0:Rep GL w0 L ⟨g.M,g.c,[]⟩ (hp σ) w:={ r with mks:=by simp };have d0:DenF lr.n ⟨g.M,g.c,[]⟩ (frame0 row) { tmps:=rc.tmps,defers:=[] }:=by
   refine⟨hsz,λt=>?_,rfl⟩;unfold frame0;rw[YW,YIP (Nat.zero_le t),Nat.sub_zero];by_cases ht:t<row.length
   ·have hx':row[t]?=some row[t]:=by simp[ht]
    have hv:rc.tmps[t]?=some (rc.tmps[t]'(by omega)):=by simp[show t<rc.tmps.size by omega]
    rw[hx'];have:rc.tmps.getD t undef=rc.tmps[t]'(by omega):=by simp[show t<rc.tmps.size by omega]
    rw[this];exact hden t _ _ hx' hv
   ·rw[List.getElem?_eq_none (by omega)];exact .junk _ _
  have d1:=YbV (n:=lr.n) (g:=⟨g.M,g.c,[]⟩) rfl (ps:=lr.ps.toList) (xs:=xs) (vs:=args.toList.map a.eval) hlt hps (by simpa using dr.mk' (mk:=[])) d0;have hz:(rc.params.zip (args.map a.eval)).foldl (λtmps (t,a)=>tmps.setIfInBounds t a) rc.tmps=((lr.ps.toList.zip (args.toList.map a.eval)).foldl (λtmps (t,a)=>tmps.setIfInBounds t a) rc.tmps):=by
   rw[hp1,←Array.foldl_toList]; simp
  rw[hz,hp2,hp3];refine roundIn_of_wpIn (F:=Fence.wide) trivial ?_;refine wpIn_mono (h lr.a hx (some cb.blk) (.inr hnx) w0 L ⟨g.M,g.c,[]⟩ _ w r0 d1) (λe a1 w1 hl1=>?_);cases e with
  |normal=>
   obtain⟨g1,ρ1,σ1,k1,k2,k3,-,id1,row1,k4,k5⟩:=hl1;have hb1:=Qbe k4;have ec1:g1.c b=some cb:=k1.c b cb ec;obtain⟨rc1,lr1,q1,q2,q3,q4,q5,q6,q8,q9,q10⟩:=k2.loop (st':=1) hb1 ec1;have r1:=q10 .busy rc1.pending trivial;rw[Ycq hb1] at r1;refine⟨{ w1 with heap:=w1.heap.setIfInBounds cb.blk (.loop { rc1 with state:=.busy }) },?_,?_⟩
   ·obtain⟨hs1,_⟩:=q8;simp[Instr.beginRound,Sem.run_bind,Y4 q1,Result.andThen,YaC q1,hs1]
   ·refine wpIn_mono (k5 lr.b hy (some cb.blk) (.inr hny) w0 L g1 a1 _ r1 k3) (λe2 a2 w2 hl2=>?_);have fin:∀(e:AExit) (j:Option Code) (g2:Gm) (ρ2:Frame) (σ2:List ABlk),(exN e=0∧j=none∨∃q,exN e=q+2∧j=some (QcW q))→isNrm e=j.isNone→g1.LeK g2→Rep GL w0 L g2 (hp σ2) w2→(∃id2 row2 st,hget σ2 b=.lp id2 row2 st∧R (.bool (isNrm e)) (σ2.set b (.lp id2 row2 (exN e)))) →
      ∃v w',(Instr.endRound cb.blk j).run P w2=.ok v w'∧∃g' x σ',R x σ'∧g.Le g'∧Rep GL w0 L g' (hp σ') w'∧g'.den x v:=by
     rintro e j g2 ρ2 σ2 hj hn m1 m2 ⟨id2,row2,st,m3,m4⟩;have hb2:=Qbe m3;have ec2:g2.c b=some cb:=m1.c b cb ec1;obtain⟨rc2,lr2,q1,q2,q3,q4,q5,q6,q8,q9,q10⟩:=m2.loop (st':=exN e) hb2 ec2;have r2:=q10 (if j.isNone then .ready else .done) j (by
      rcases hj with ⟨j1,rfl⟩ | ⟨q,j1,rfl⟩ <;> rw[j1] <;> exact⟨rfl,rfl⟩)
     rw[Ycq hb2] at r2;refine⟨.bool j.isNone,_,?_,⟨g2.M,g2.c,g.dk⟩,_,_,m4,⟨(k1.m.trans m1.m),(k1.c.trans m1.c),rfl⟩,{ r2 with mks:=r.mks },?_⟩
     ·simp[Instr.endRound,Sem.run_bind,Y4 q1,Result.andThen,YaC q1]
     ·rw[hn]; exact .bool _ _
    cases e2 with
    |normal=>obtain⟨g2,ρ2,σ2,m1,m2,m3,m4⟩:=hl2; exact fin .normal none g2 ρ2 σ2 (.inl ⟨rfl,rfl⟩) rfl m1 m2 m4
    |ret=>obtain⟨g2,ρ2,σ2,m1,m2,m3,m4⟩:=hl2; exact fin .ret (some .ret) g2 ρ2 σ2 (.inr ⟨0,rfl,rfl⟩) rfl m1 m2 m4
    |exit i=>obtain⟨g2,ρ2,σ2,m1,m2,m3,m4⟩:=hl2; exact fin (.exit i) (some (.exit i)) g2 ρ2 σ2 (.inr ⟨i+1,rfl,rfl⟩) rfl m1 m2 m4
    |panic ch=>obtain⟨_,_,_,_,_,_,_,_,_,q⟩:=hl2; exact q.elim
    |_=>exact hl2.elim
  |exit i=>obtain⟨_,_,_,_,_,_,e,_⟩:=hl1; cases e
  |ret=>obtain⟨_,_,_,_,_,_,e,_⟩:=hl1; cases e
  |panic ch=>obtain⟨_,_,_,_,_,_,_,_,_,q⟩:=hl1; exact q.elim
  |_=>exact hl1.elim
theorem Qb4(hP:POk P){n id m:Nat}{d:Opd}{ps:List Nat}{x y:MCode}{ρ:Frame}{σ:List ABlk}{Q:APost}{f:FuncId}{ys:List AVal}{R:KT}
 (hc:Zk .callv [ev ρ d,.iter σ.length]=some (f,ys))(hpl:Qi P f=true)(h:OpRel P GL .callv [ev ρ d,.iter σ.length] (σ++[.lp id (rowF ρ 0 m) 0]) R)
 (hR:∀ v σ',R v σ'→∃ id' row' st,hget σ' σ.length=.lp id' row' st∧(match st with
   |0=>Q .normal ρ (σ'.set σ.length .dead)
   |1=>False
   |2=>Q .ret ρ (σ'.set σ.length .dead)
   | i + 3=>Q (.exit i) ρ (σ'.set σ.length .dead))):Awp P GL Z n (.rangeF d id ps x y) ρ σ Q:=by
 intro c hcode rnd hr w0 L g a w r df;cases hcode with
 |rangeF fo _ psA ca cb' _ _ _ hop hca hcb hlp hlt=>
  have hrn:rnd=none:=by
   rcases hr with q|q
   ·exact q
   ·simp[MCode.norf] at q
  subst hrn;refine wpIn_rangeFunc (λfn _=>?_);have hMn:g.M w.heap.size=none:=by
   cases hm:g.M w.heap.size with
   |none=>rfl
   |some o=>have:=r.stable_lt hm; omega
  let M1:=mup g.M w.heap.size (.deferred (some []))
  let g1:Gm:=⟨M1,g.c,w.heap.size::g.dk⟩
  have le1:g.LeK g1:=⟨Xct hMn,CLe.refl _,[w.heap.size],rfl,by simp,by
   intro q hq;simp only[List.mem_singleton] at hq;subst hq;exact⟨hMn,by simp[g1,M1,mup]⟩⟩
  have hmks:∀q∈w.heap.size::g.dk,w0.heap.size≤q:=by
   intro q hq;rcases List.mem_cons.1 hq with rfl|hq
   ·exact r.keeps.size
   ·exact r.mks q hq
  have r1:Rep GL w0 L g1 (hp σ) (w.alloc (.deferred (some []))):={ (r.allocM (.deferred (some []))).2 with mks:=hmks }
  let w1:World:=w.alloc (.deferred (some []))
  let rec0:Loop:={ state:=.ready,pending:=none,fn,tmps:=a.tmps,params:=psA,assign:=ca,body:=cb',defers:=w.heap.size }
  let cbn:CB:=⟨w1.heap.size,0,0,false,1⟩
  have hlp':lps id=some ⟨n,psA,ca,cb'⟩:=by rw[←hP.2]; exact hlp
  have r2:=r1.alloc (nb:=σ.length) (Z6 σ) (o:=.loop rec0) (blk:=.lp id (rowF ρ 0 m) 0) (cb:=cbn) rfl rfl rfl
   ⟨rfl,rec0,_,rfl,hlp',rfl,rfl,rfl,df.size,⟨rfl,rfl⟩,λj v u e1 e2=>by
    obtain⟨rfl,hj⟩:=QbV ρ m 0 j v e1;rw[Nat.zero_add];have hs:=df.slot j;have:a.tmps.getD j undef=u:=by
     have e2:a.tmps[j]?=some u:=e2;simp[e2]
    rw[this] at hs;exact Den.mono le1.m hs (CLe.cup (r1.empt _ (Z6 σ)))⟩
  have le2:=r1.le_alloc (Z6 σ) cbn;rw[Zc2] at r2
  let w2:World:=w1.alloc (.loop rec0)
  let g2:Gm:=⟨g1.M,cup g1.c σ.length cbn,g1.dk⟩
  have ec2:g2.c σ.length=some cbn:=Yq _ _ _;have dfv:g2.den (ev ρ d) (a.eval fo):=Den.mono (le1.m.trans le2.m) (DenF.opd r df hop) (le1.c.trans le2.c);have dL:DenL g2 [ev ρ d,.iter σ.length] ([fo,.const (.func (.yield w1.heap.size) #[] #[])].map a.eval):=⟨dfv,.yld _ _ cbn ec2 rfl,trivial⟩
  let op:Oper:={ (default:Oper) with op:=.call (rangeCall fo w1.heap.size),type:=0 }
  have hrel:=h op [fo,.const (.func (.yield w1.heap.size) #[] #[])] (.callv fo #[.const (.func (.yield w1.heap.size) #[] #[])] #[]) w0 L g2 w2 a r2 dL;have hv0:∃first captured,ev ρ d=.func (.func f) first captured:=by
   generalize ev ρ d=v0 at hc;unfold Zk at hc;split at hc<;>simp_all
  obtain⟨first,captured,hv0⟩:=hv0;rw[hv0] at dfv;generalize hu:a.eval fo=u0 at dfv;cases dfv with
  |func _ _ _ _ vs ws h1 h2 h3 h4=>
   let args:Array Value:=vs ++ #[.func (.yield w1.heap.size) #[] #[]]
   have hres:(resolve a.eval (rangeCall fo w1.heap.size) 0).run P w2=.ok { target:=.fn (.func f) ws,args:=args } w2:=by
    have hcv:a.eval (.const (.func (.yield w1.heap.size) #[] #[]))=.func (.yield w1.heap.size) #[] #[]:=rfl;simp[resolve,Deferred.ofValue,hu,hcv,args]
   have hinv:(invoke (.fn (.func f) ws) args).run P w2=.ok (.enter f (args++ws)) w2:=by
    simp[invoke,QB hpl]
   have hrun:(execOp a.eval op).run P w2=.ok (.enter f (args++ws)) w2:=by
    show (do let d ←resolve a.eval (rangeCall fo w1.heap.size) 0; invoke d.target d.args:Sem Next).run P w2=_;rw[Sem.run_bind,hres];exact hinv
   rw[hrun] at hrel;refine⟨w1.heap.size,[{ target:=.collected w.heap.size,args:=#[] }],w2,_,w2,f,_,w2,?_,hres,λ_ _=>trivial,hinv,Qah,YY.2 (Calls.mono hrel ?_)⟩
   ·simp[Instr.enterLoop,wz,Fence.wide,newObj,Sem.run_bind,Sem.run,Result.andThen,w2,w1,rec0];rfl
   ·intro e w3 he;cases e with
    |panicked ch=>obtain⟨_,_,_,_,_,q,_⟩:=he; exact q.elim
    |outgrown=>exact he.elim
    |returned u=>
    obtain⟨g3,x3,σ3,hr3,le3,r3,_⟩:=he;obtain⟨id',row',st,hst,hq⟩:=hR _ _ hr3;have hb3:=Qbe hst;have ec3:g3.c σ.length=some cbn:=le3.c _ _ ec2;obtain⟨rc3,lr3,q1,q2,q3,q4,q5,q6,q8,q9,q10⟩:=r3.loop (st':=1) hb3 ec3;have r4:=(q10 .exhausted rc3.pending trivial).kill (Zl _ _ _);have hh:hup (hup (hp σ3) σ.length (.lp id' row' 1)) σ.length .dead=hp (σ3.set σ.length .dead):=by
     rw[←Ycq hb3]
     funext b
     unfold hup;split<;>rfl
    rw[hh] at r4;have hle:g.LeK g3:=(le1.trans le2.toK).trans le3.toK;have hmk:g3.dk=w.heap.size::g.dk:=by rw[le3.k]
    have d4:DenF n g3 ρ { a with defers:=[{ target:=.collected w.heap.size,args:=#[] }] ++ a.defers }:=⟨df.size,λt=>(df.slot t).mono hle.m hle.c,by
     rw[hmk,df.defers]; rfl⟩
    have hend:∀j,rc3.state≠.busy→rc3.pending=j→(Instr.endLoop cbn.blk).run P w3=.ok j { w3 with heap:=w3.heap.setIfInBounds cbn.blk (.loop { rc3 with state:=.exhausted,pending:=rc3.pending }) }:=by
     intro j hs hj;have hsb:(rc3.state==.busy)=false:=by
      cases h5:rc3.state<;>simp_all
     simp[Instr.endLoop,Sem.run_bind,Y4 q1,Result.andThen,YaC q1,hj];exact λq=>(hs q).elim
    match st,q8,hq with
    |0,q8,hq=>exact⟨none,_,hend none (by rw[q8.1]; simp) q8.2,g3,ρ,_,hle,r4,d4,hq⟩
    |2,q8,hq=>exact⟨some .ret,_,hend _ (by rw[q8.1]; simp) q8.2,wpIn_ret ⟨g3,ρ,_,hle,r4,d4,hq⟩⟩
    |i+3,q8,hq=>exact⟨some (.exit i),_,hend _ (by rw[q8.1]; simp) q8.2,wpIn_exit ⟨g3,ρ,_,hle,r4,d4,hq⟩⟩
end
end Go.Ah
end
section
namespace Go.Ah
structure Ans (α:Type) where
 stop:α
 call:MK→List AVal→List ABlk→(AVal→List ABlk→α)→α
 dcall:MK→List AVal→List ABlk→(AVal→List Nat×List Nat→List ABlk→α)→α
 test:AVal→α→α→α
 loop:((List AVal→List ABlk→α)→List AVal→List ABlk→α)→List AVal→List ABlk→α
 rng:AVal→Nat→List AVal→List ABlk→(Nat→List ABlk→α)→α
section
variable {α:Type}
def Ans.rd(A:Ans α)(r:SRes)(K:AVal→α):α:=match r with
 |.ok v _ []=>K v
 |_=>A.stop
def Ans.pu(A:Ans α)(r:SRes)(K:AVal→α):α:=match r with
 |.ok v [] []=>K v
 |_=>A.stop
def Ans.wr(A:Ans α)(r:SRes)(σ:List ABlk)(K:AVal→List ABlk→α):α:=match r with
 |.ok v _ up=>match upL σ up with
  |some σ'=>K v σ'
  |none=>A.stop
 |.stop=>A.stop
def Ans.dr(A:Ans α)(r:SRes)(σ:List ABlk)(K:AVal→List Nat×List Nat→List ABlk→α):α:=match r with
 |.ok v rd up=>match upL σ up with
  |some σ'=>K v (rd,up.map (·.1)) σ'
  |none=>A.stop
 |.stop=>A.stop
def Ans.opt{β:Type}(A:Ans α)(o:Option β)(K:β→α):α:=match o with
 |some v=>K v
 |none=>A.stop
def Ans.gd(A:Ans α)(b:Bool)(k:α):α:=match b with
 |true=>k
 |false=>A.stop
@[reducible] def udf(cs:List (Bool×Bool)):AVal:=.when cs (.bool false)
def Ans.gx(A:Ans α)(c:AVal)(w:Bool)(r:α)(s:List (Bool×Bool)→α):α:=match c with
 |.when cs (.bool q)=>match Yaj.holdNot cs with
  |true=>s (cs++[(q,w)])
  |false=>A.stop
 |c=>A.test c (bif w then r else s [(true,w)]) (bif w then s [(false,w)] else r)
def Ans.gr(A:Ans α)(c:AVal)(w:Bool)(r:(AVal→α)→α)(K:AVal→α):α:=A.gx c w (r K) (λcs=>K (udf cs))
def Ans.gw(A:Ans α)(c:AVal)(w:Bool)(r:(AVal→List ABlk→α)→α)(σ:List ABlk)(K:AVal→List ABlk→α):α:=A.gx c w (r K) (λcs=>K (udf cs) σ)
def Ans.gl(A:Ans α)(c:AVal)(w:Bool)(r:(AVal→List Nat×List Nat→List ABlk→α)→α)(σ:List ABlk)(K:AVal→List Nat×List Nat→List ABlk→α):α:=
 A.gx c w (r K) (λcs=>K (udf cs) ([],[]) σ)
def joinK(f:(List AVal→List ABlk→α)→α)(k:List AVal→List ABlk→α):α:=f k
inductive Cls where
 |mv|pu|rd|wr|call
def clsOf:MK→Cls
 |.mv=>.mv
 |.call _ | .callv | .invoke _ _=>.call
 |.x .panic=>.call
 |.alloc _ | .box | .buildS _ _ _ _ | .store _ | .makeMap | .append _ _ _ | .mapUpd _ | .range | .next | .makeS _ _ _ | .clearS _ _=>.wr
 |.x (.copyS _) | .x .same | .x .upd=>.wr
 |.x .toStr | .x (.look _ _)=>.rd
 |.load _ _ | .lookup _ _ _ | .lenM | .sliceS _ _ _ _ | .idxAddrS _=>.rd
 |_=>.pu
def dnOp(A:Ans α)(o:MOper)(ρ:Frame)(σ:List ABlk)(K:Frame→List ABlk→α):α:=
 match o.guard with
 |none=>match clsOf o.k with
  |.mv=>match o.xs with
   |[x]=>K (putF o.dst (ev ρ x) ρ) σ
   |_=>A.stop
  |.pu | .rd=>A.rd (cstep o.k (o.xs.map (ev ρ)) σ) λv=>K (putF o.dst v ρ) σ
  |.wr=>A.wr (cstep o.k (o.xs.map (ev ρ)) σ) σ λv σ=>K (putF o.dst v ρ) σ
  |.call=>A.call o.k (o.xs.map (ev ρ)) σ λv σ=>K (putF o.dst v ρ) σ
 |some (s,w)=>match clsOf o.k with
  |.mv | .pu | .rd=>A.gr (fget ρ s) w (λk=>A.rd (cstep o.k (o.xs.map (ev ρ)) σ) k) λv=>K (putF o.dst v ρ) σ
  |.wr=>A.gw (fget ρ s) w (λk=>A.wr (cstep o.k (o.xs.map (ev ρ)) σ) σ k) σ λv σ=>K (putF o.dst v ρ) σ
  |.call=>A.gw (fget ρ s) w (λk=>A.call o.k (o.xs.map (ev ρ)) σ k) σ λv σ=>K (putF o.dst v ρ) σ
def dnOps(A:Ans α):List MOper→Frame→List ABlk→(Frame→List ABlk→α)→α
 |[],ρ,σ,K=>K ρ σ
 |o::r,ρ,σ,K=>dnOp A o ρ σ λρ σ=>dnOps A r ρ σ K
def dnOpD(A:Ans α)(o:MOper)(ρ:Frame)(σ:List ABlk)(lg:Log)(K:Frame→List ABlk→Log→α):α:=
 match o.guard with
 |none=>match clsOf o.k with
  |.mv=>match o.xs with
   |[x]=>K (putF o.dst (ev ρ x) ρ) σ (lg++[([],[])])
   |_=>A.stop
  |.pu=>A.pu (cstep o.k (o.xs.map (ev ρ)) σ) λv=>K (putF o.dst v ρ) σ (lg++[([],[])])
  |.rd | .wr=>A.dr (cstep o.k (o.xs.map (ev ρ)) σ) σ λv l σ=>K (putF o.dst v ρ) σ (lg++[l])
  |.call=>A.dcall o.k (o.xs.map (ev ρ)) σ λv l σ=>K (putF o.dst v ρ) σ (lg++[l])
 |some (s,w)=>match clsOf o.k with
  |.mv | .pu=>A.gr (fget ρ s) w (λk=>A.pu (cstep o.k (o.xs.map (ev ρ)) σ) k) λv=>K (putF o.dst v ρ) σ (lg++[([],[])])
  |.rd | .wr=>A.gl (fget ρ s) w (λk=>A.dr (cstep o.k (o.xs.map (ev ρ)) σ) σ k) σ λv l σ=>K (putF o.dst v ρ) σ (lg++[l])
  |.call=>A.gl (fget ρ s) w (λk=>A.dcall o.k (o.xs.map (ev ρ)) σ k) σ λv l σ=>K (putF o.dst v ρ) σ (lg++[l])
def XaN(A:Ans α):List MOper→Frame→List ABlk→Log→(Frame→List ABlk→Log→α)→α
 |[],ρ,σ,lg,K=>K ρ σ lg
 |o::r,ρ,σ,lg,K=>dnOpD A o ρ σ lg λρ σ lg=>XaN A r ρ σ lg K
def isWr:Cls→Bool
 |.wr=>true
 |.call=>true
 |_=>false
def noWr:List MOper→Bool
 |[]=>true
 |o::r=>!(isWr (clsOf o.k))&&noWr r
inductive DCode where
 |skip
 |region (id:Nat) (ms:List MOper) (draw:Option (List (List Nat)))
 |regionS (id:Nat) (ps:Pcs) (hd:List (List Nat))
 |seq (a b:DCode)
 |cond (c:Opd) (a b:DCode)
 |join (lv:List Nat) (a:DCode)
 |block (id:Nat) (a:DCode)
 |loop (lv:List Nat) (a:DCode)
 |exit (id:Nat)
 |scope (a:DCode)
 |label (l:Nat)
 |ret
 |rangeF (d:Opd) (id m:Nat) (ps:List Nat) (x y:DCode)
 deriving Inhabited
def DCode.er:DCode→MCode
 |.skip=>.skip
 |.region id ms hd=>.region id ms hd
 |.regionS id ps hd=>.region id (Qu ps) (some hd)
 |.seq a b=>.seq a.er b.er
 |.cond c a b=>.cond c a.er b.er
 |.join _ a=>a.er
 |.block id a=>.block id a.er
 |.loop _ a=>.loop a.er
 |.exit id=>.exit id
 |.scope a=>.scope a.er
 |.label l=>.label l
 |.ret=>.ret
 |.rangeF d id _ ps x y=>.rangeF d id ps x.er y.er
def Qs:List MOper→List Nat
 |[]=>[]
 |o::r=>match o.dst with
  |some d=>d::Qs r
  |none=>Qs r
def DCode.asg:DCode→List Nat
 |.region _ ms _=>Qs ms
 |.regionS _ ps _=>Qs (Qu ps)
 |.seq a b=>a.asg++b.asg
 |.cond _ a b=>a.asg++b.asg
 |.join _ a=>a.asg
 |.block _ a=>a.asg
 |.loop _ a=>a.asg
 |.scope a=>a.asg
 |_=>[]
def inL(x:Nat):List Nat→Bool
 |[]=>false
 |y::l=>Nat.beq x y||inL x l
def subL:List Nat→List Nat→Bool
 |[],_=>true
 |x::l,b=>inL x b&&subL l b
def DCode.ok:DCode→Bool
 |.regionS _ ps hd=>pcsOk (Qu ps).length hd 0 ps
 |.seq a b=>a.ok&&b.ok
 |.cond _ a b=>a.ok&&b.ok
 |.join lv a=>subL lv a.asg&&a.ok
 |.block _ a=>a.ok
 |.loop lv a=>subL lv a.asg&&a.ok
 |.scope a=>a.ok
 |_=>true
def hdV:List AVal→AVal
 |[]=>.junk
 |x::_=>x
def tlV:List AVal→List AVal
 |[]=>[]
 |_::l=>l
def zipF:List Nat→List AVal→Frame→Frame
 |[],_,ρ=>ρ
 |k::ks,vs,ρ=>(k,hdV vs)::zipF ks (tlV vs) ρ
def dropF(l:List Nat):Frame→Frame
 |[]=>[]
 |(k,v)::r=>match inL k l with
  |true=>dropF l r
  |false=>(k,v)::dropF l r
def getF(ρ:Frame):List Nat→List AVal
 |[]=>[]
 |s::r=>fget ρ s::getF ρ r
def dnPcs(A:Ans α)(hd:List (List Nat)):Nat→Pcs→Frame→List ABlk→(Frame→List ABlk→α)→α
 |_,[],ρ,σ,K=>K ρ σ
 |lo,(seg,true)::r,ρ,σ,K=>dnOps A seg ρ σ λρ σ=>dnPcs A hd (lo+seg.length) r ρ σ K
 |lo,(seg,false)::r,ρ,σ,K=>match noWr seg with
  |true=>dnOps A seg ρ σ λρ σ=>dnPcs A hd (lo+seg.length) r ρ σ K
  |false=>XaN A seg ρ σ [] λρ σ lg=>A.gd (Xf (hdSeg hd lo seg.length) lg) (dnPcs A hd (lo+seg.length) r ρ σ K)
def dn(A:Ans α):DCode→Frame→List ABlk→(Frame→List ABlk→α)→(Nat→Frame→List ABlk→α)→(Frame→List ABlk→α)→α
 |.skip,ρ,σ,K,_,_=>K ρ σ
 |.label _,ρ,σ,K,_,_=>K ρ σ
 |.region _ ms none,ρ,σ,K,_,_=>dnOps A ms ρ σ K
 |.region _ ms (some hd),ρ,σ,K,_,_=>match noWr ms with
  |true=>dnOps A ms ρ σ K
  |false=>XaN A ms ρ σ [] λρ σ lg=>A.gd (Xf hd lg) (K ρ σ)
 |.regionS _ ps hd,ρ,σ,K,_,_=>dnPcs A hd 0 ps ρ σ K
 |.seq a b,ρ,σ,K,E,R=>dn A a ρ σ (λρ σ=>dn A b ρ σ K E R) E R
 |.cond c a b,ρ,σ,K,E,R=>A.test (ev ρ c) (dn A a ρ σ K E R) (dn A b ρ σ K E R)
 |.join lv a,ρ,σ,K,E,R=>joinK (λk=>dn A a ρ σ (λρ' σ=>k (getF ρ' lv) σ) E R) (λvs σ=>K (zipF lv vs (dropF a.asg ρ)) σ)
 | .block id a,ρ,σ,K,E,R=>dn A a ρ σ K (λi ρ σ=>match Nat.beq i id with
  |true=>K ρ σ
  | false=>E i ρ σ) R
 |.loop lv a,ρ,σ,_,E,R=>A.loop (λagain vs σ=>dn A a (zipF lv vs (dropF a.asg ρ)) σ (λρ' σ=>again (getF ρ' lv) σ) E R) (getF ρ lv) σ
 |.exit id,ρ,σ,_,E,_=>E id ρ σ
 |.scope a,ρ,σ,K,E,R=>dn A a ρ σ K E R
 |.ret,ρ,σ,_,_,R=>R ρ σ
 |.rangeF d id m _ _ _,ρ,σ,K,E,R=>A.rng (ev ρ d) id (rowF ρ 0 m) σ λst σ'=>match st with
  |0=>K ρ σ'
  |1=>A.stop
  |2=>R ρ σ'
  |i+3=>E i ρ σ'
def cellV(agg:Bool)(n:Nat)(x:AVal)(σ:List ABlk):Option AVal:=match x with
 |.bptr b j=>match hget σ b with
  |.box row=>partA agg j n row
  |_=>none
 |_=>none
def Xas(A:Ans α):List RV→Frame→List ABlk→(List AVal→α)→α
 |[],_,_,K=>K []
 |.t n::r,ρ,σ,K=>Xas A r ρ σ λvs=>K (fget ρ n::vs)
 |.c s agg n::r,ρ,σ,K=>A.opt (cellV agg n (fget ρ s) σ) λv=>Xas A r ρ σ λvs=>K (v::vs)
structure DFn where
 np:Nat
 n:Nat
 body:DCode
 rets:List RV
 deriving Inhabited
def DFn.fn(D:DFn):MFn:=⟨D.np,D.n,D.body.er,D.rets⟩
def dnFn(A:Ans α)(D:DFn)(xs:List AVal)(σ:List ABlk)(ret:AVal→List ABlk→α):α:=
 dn A D.body (frame0 xs) σ (λρ σ=>Xas A D.rets ρ σ λvs=>ret (retOf vs) σ) (λ_ _ _=>A.stop) (λρ σ=>Xas A D.rets ρ σ λvs=>ret (retOf vs) σ)
def iterA(stop:α):Nat→((List AVal→List ABlk→α)→List AVal→List ABlk→α)→List AVal→List ABlk→α
 |0,_,_,_=>stop
 |n+1,F,vs,σ=>F (iterA stop n F) vs σ
structure AnsOk (P:Program) (GL:Globs) (Z:PZ) (A:Ans α) (hold:α→Prop):Prop where
 stop:¬hold A.stop
 call:∀ {k xs σ K},hold (A.call k xs σ K)→∃R,OpRelP P GL k xs σ R Z∧∀v σ',R v σ'→hold (K v σ')
 dcall:∀ {k xs σ K},hold (A.dcall k xs σ K)→∃v rd up σ',OpSem P GL k xs (hp σ) v rd up∧upL σ up=some σ'∧hold (K v (rd,up.map (·.1)) σ')
 test:∀ {v a b},hold (A.test v a b)→∃c,v=.bool c∧(c=true→hold a)∧(c=false→hold b)
 loop:∀ {F vs σ},hold (A.loop F vs σ)→∃n,hold (iterA A.stop n F vs σ)
 rng:∀ {v id row σ K},hold (A.rng v id row σ K)→∃f ys R,Zk .callv [v,.iter σ.length]=some (f,ys)∧Qi P f=true∧OpRel P GL .callv [v,.iter σ.length] (σ++[.lp id row 0]) R ∧
  ∀u σ',R u σ'→∃id' row' st,hget σ' σ.length=.lp id' row' st∧hold (K st (σ'.set σ.length .dead))
section
variable {P:Program} {GL:Globs} {Z:PZ} {A:Ans α} {hold:α→Prop}
theorem AnsOk.rd(ok:AnsOk P GL Z A hold){r:SRes}{K:AVal→α}(h:hold (A.rd r K)):∃v rd,r=.ok v rd []∧hold (K v):=by
 unfold Ans.rd at h;split at h
 ·exact⟨_,_,rfl,h⟩
 ·exact(ok.stop h).elim
theorem AnsOk.pu(ok:AnsOk P GL Z A hold){r:SRes}{K:AVal→α}(h:hold (A.pu r K)):∃v,r=.ok v [] []∧hold (K v):=by
 unfold Ans.pu at h;split at h
 ·exact⟨_,rfl,h⟩
 ·exact(ok.stop h).elim
theorem AnsOk.wr(ok:AnsOk P GL Z A hold){r:SRes}{σ:List ABlk}{K:AVal→List ABlk→α}(h:hold (A.wr r σ K)):∃v rd up σ',r=.ok v rd up∧upL σ up=some σ'∧hold (K v σ'):=by
 unfold Ans.wr at h;split at h
 ·split at h
  ·grind
  ·exact(ok.stop h).elim
 ·exact(ok.stop h).elim
theorem AnsOk.dr(ok:AnsOk P GL Z A hold){r:SRes}{σ:List ABlk}{K:AVal→List Nat×List Nat→List ABlk→α}(h:hold (A.dr r σ K)):∃v rd up σ',r=.ok v rd up∧upL σ up=some σ'∧hold (K v (rd,up.map (·.1)) σ'):=by
 unfold Ans.dr at h;split at h
 ·split at h
  ·grind
  ·exact(ok.stop h).elim
 ·exact(ok.stop h).elim
theorem AnsOk.gd(ok:AnsOk P GL Z A hold){b:Bool}{k:α}(h:hold (A.gd b k)):b=true∧hold k:=by
 unfold Ans.gd at h;split at h
 ·exact⟨rfl,h⟩
 ·exact(ok.stop h).elim
theorem AnsOk.opt(ok:AnsOk P GL Z A hold){β:Type}{o:Option β}{K:β→α}(h:hold (A.opt o K)):∃v,o=some v∧hold (K v):=by
 unfold Ans.opt at h;split at h
 ·exact⟨_,rfl,h⟩
 ·exact(ok.stop h).elim
theorem ZT(σ:List ABlk):upL σ []=some σ:=by simp[upL]
theorem Yb7{ρ:Frame}{s:Nat}{w c:Bool}(h:fget ρ s=.bool c):GuardIs ρ (some (s,w)) [(c,w)]:=.bool s w c h
theorem ZcM{c w:Bool}:Hold [(c,w)]↔c=w:=by simp[Hold]
theorem Zaf(ok:AnsOk P GL Z A hold){ρ:Frame}{s:Nat}{w:Bool}{r:α}{K:List (Bool×Bool)→α}(h:hold (A.gx (fget ρ s) w r K)):∃cs,GuardIs ρ (some (s,w)) cs∧((Hold cs∧hold r)∨(¬Hold cs∧hold (K cs))):=by
 unfold Ans.gx at h;split at h
 ·rename_i cs q hc;split at h
  ·rename_i hn;refine⟨_,.when s w q cs hc,.inr ⟨λq=>YaA hn (λp hp=>q p (by simp[hp])),h⟩⟩
  ·exact(ok.stop h).elim
 ·obtain⟨b,hb,h1,h2⟩:=ok.test h;refine⟨_,Yb7 hb,?_⟩
  grind [ZcM]
def Xe(l:List Nat)(ρ ρ':Frame):Prop:=∀s,s∉l→fget ρ' s=fget ρ s
theorem Xe.refl(l:List Nat)(ρ:Frame):Xe l ρ ρ:=λ_ _=>rfl
theorem Xe.trans{l l':List Nat}{a b c:Frame}(h:Xe l a b)(k:Xe l' b c):Xe (l++l') a c:=λs hs=>by
 simp only[List.mem_append,not_or] at hs;rw[k s hs.2,h s hs.1]
theorem Xe.mono{l l':List Nat}{a b:Frame}(h:Xe l a b)(hl:∀x∈l,x∈l'):Xe l' a b:=λs hs=>h s λe=>hs (hl s e)
theorem Xe.put{o:MOper}{v:AVal}{ρ:Frame}:Xe (Qs [o]) ρ (putF o.dst v ρ):=by
 intro s hs;rw[ZQ];cases hd:o.dst with
 |none=>simp
 |some d=>
  have:s≠d:=by rintro rfl; simp[Qs,hd] at hs
  grind
theorem Zam(o:MOper)(r:List MOper):Qs (o::r)=Qs [o]++Qs r:=by
 cases hd:o.dst<;>simp[Qs,hd]
theorem Zb7(ok:AnsOk P GL Z A hold){fl:Bool}{o:MOper}{ρ:Frame}{σ:List ABlk}{lg:Log}{K:Frame→List ABlk→α}(hfl:fl=true→isWr (clsOf o.k)=false)(h:hold (dnOp A o ρ σ K)) :
  StepR fl P GL Z o ρ σ lg (λρ' σ' lg'=>hold (K ρ' σ')∧Xe (Qs [o]) ρ ρ'∧((∃l,lg'=lg++[l]∧(isWr (clsOf o.k)=false→l.2=[])))):=by
 unfold dnOp at h;cases hg:o.guard with
 |none=>
  simp only[hg] at h;have gi:GuardIs ρ o.guard []:=by rw[hg]; exact .none
  have hh:Hold []:=by simp[Hold]
  have rdcase:hold (A.rd (cstep o.k (o.xs.map (ev ρ)) σ) λv=>K (putF o.dst v ρ) σ)→StepR fl P GL Z o ρ σ lg (λρ' σ' lg'=>hold (K ρ' σ')∧Xe (Qs [o]) ρ ρ'∧((∃l,lg'=lg++[l]∧(isWr (clsOf o.k)=false→l.2=[])))):=by
   intro h;obtain⟨v,rd,e,h⟩:=ok.rd h;exact .run [] _ v rd [] σ gi hh (Zi _) (ZB e) (ZT σ) ⟨h,Xe.put,_,rfl,λ_=>rfl⟩
  cases hc:clsOf o.k with
  |mv=>
   simp only[hc] at h;split at h
   ·rename_i x hx;have hk:o.k=.mv:=by
     revert hc; unfold clsOf; split<;>simp_all
    refine .run [] [ev ρ x] (ev ρ x) [] [] σ gi hh (by rw[hx]; exact Zi _) (by rw[hk]; exact XcA _ _) (ZT σ) ⟨h,Xe.put,_,rfl,λ_=>rfl⟩
   ·exact(ok.stop h).elim
  |pu=>simp_all
  |rd=>simp_all
  |wr=>
   simp only[hc] at h;obtain⟨v,rd,up,σ',e,e2,h⟩:=ok.wr h;exact .run [] _ v rd up σ' gi hh (Zi _) (ZB e) e2 ⟨h,Xe.put,_,rfl,λq=>by simp[isWr] at q⟩
  |call=>
   simp only[hc] at h;obtain⟨R,hR,hk⟩:=ok.call h;refine .rel [] _ R ?_ gi hh (Zi _) hR (λv σ' hv=>⟨hk v σ' hv,Xe.put,_,rfl,λq=>by simp[isWr] at q⟩);simp_all [isWr]
 |some p=>
  obtain⟨s,w⟩:=p;simp only[hg] at h;have skipcase:∀cs,GuardIs ρ (some (s,w)) cs→¬Hold cs→hold (K (putF o.dst (udf cs) ρ) σ)→StepR fl P GL Z o ρ σ lg (λρ' σ' lg'=>hold (K ρ' σ')∧Xe (Qs [o]) ρ ρ'∧((∃l,lg'=lg++[l]∧(isWr (clsOf o.k)=false→l.2=[])))):=by
   intro cs hb hne h;exact .lazy cs _ (.bool false) [] (by rw[hg]; exact hb) (Zi _) (λq=>(hne q).elim) ⟨h,Xe.put,_,rfl,λ_=>rfl⟩
  have rdcase:hold (A.gr (fget ρ s) w (λk=>A.rd (cstep o.k (o.xs.map (ev ρ)) σ) k) λv=>K (putF o.dst v ρ) σ)→StepR fl P GL Z o ρ σ lg (λρ' σ' lg'=>hold (K ρ' σ')∧Xe (Qs [o]) ρ ρ'∧((∃l,lg'=lg++[l]∧(isWr (clsOf o.k)=false→l.2=[])))):=by
   intro h;obtain⟨cs,hb,⟨h0,h1⟩|⟨h0,h1⟩⟩:=Zaf ok h
   ·obtain⟨v,rd,e,h⟩:=ok.rd h1;exact .run cs _ v rd [] σ (by rw[hg]; exact hb) h0 (Zi _) (ZB e) (ZT σ) ⟨h,Xe.put,_,rfl,λ_=>rfl⟩
   ·exact skipcase cs hb h0 h1
  cases hc:clsOf o.k with
  |mv=>simp_all
  |pu=>simp_all
  |rd=>simp_all
  |wr=>
   simp only[hc] at h skipcase;obtain⟨cs,hb,⟨h0,h1⟩|⟨h0,h1⟩⟩:=Zaf ok h
   ·obtain⟨v,rd,up,σ',e,e2,h⟩:=ok.wr h1;exact .run cs _ v rd up σ' (by rw[hg]; exact hb) h0 (Zi _) (ZB e) e2 ⟨h,Xe.put,_,rfl,λq=>by simp[isWr] at q⟩
   ·exact skipcase cs hb h0 h1
  |call=>
   simp only[hc] at h skipcase;obtain⟨cs,hb,⟨h0,h1⟩|⟨h0,h1⟩⟩:=Zaf ok h
   ·obtain⟨R,hR,hk⟩:=ok.call h1;refine .rel cs _ R ?_ (by rw[hg]; exact hb) h0 (Zi _) hR (λv σ' hv=>⟨hk v σ' hv,Xe.put,_,rfl,λq=>by simp[isWr] at q⟩);simp_all [isWr]
   ·exact skipcase cs hb h0 h1
theorem AwpR.mono{fl:Bool}:∀ {ms:List MOper} {ρ:Frame} {σ:List ABlk} {lg:Log} {K K':Frame→List ABlk→Log→Prop},(∀ρ σ lg,K ρ σ lg→K' ρ σ lg)→AwpR fl P GL Z ms ρ σ lg K→AwpR fl P GL Z ms ρ σ lg K'
 |[],_,_,_,_,_,h,k=>h _ _ _ k
 |_::_,_,_,_,_,_,h,k=>StepR.mono (λ_ _ _ q=>AwpR.mono h q) k
def allRd(lg:Log):Prop:=∀l∈lg,l.2=[]
theorem ZF(ok:AnsOk P GL Z A hold){fl:Bool}:∀ {ms:List MOper} {ρ:Frame} {σ:List ABlk} {lg:Log} {K:Frame→List ABlk→α},(fl=true→noWr ms=true)→hold (dnOps A ms ρ σ K) →
  AwpR fl P GL Z ms ρ σ lg (λρ' σ' lg'=>hold (K ρ' σ')∧Xe (Qs ms) ρ ρ'∧(noWr ms=true→allRd lg→allRd lg'))
 |[],ρ,σ,lg,K,_,h=>⟨h,Xe.refl _ _,λ_ q=>q⟩
 |o::r,ρ,σ,lg,K,hfl,h=>by
  unfold dnOps at h;have hfl1:fl=true→isWr (clsOf o.k)=false:=λe=>by simp_all [noWr]
  have hfl2:fl=true→noWr r=true:=λe=>by simp_all [noWr]
  refine StepR.mono (λρ' σ' lg'=>?_) (Zb7 ok (lg:=lg) hfl1 h);rintro⟨k1,k2,l,hl,k3⟩;refine AwpR.mono (λρ'' σ'' lg''=>?_) (ZF ok hfl2 k1);rintro⟨q1,q2,q3⟩;refine⟨q1,by rw[Zam]; exact k2.trans q2,λhn hlg=>?_⟩;simp only[noWr,Bool.and_eq_true,Bool.not_eq_true'] at hn;refine q3 hn.2 ?_;rw[hl];intro x hx;simp only[List.mem_append,List.mem_singleton] at hx;rcases hx with hx|hx
  ·exact hlg x hx
  ·rw[hx]; exact k3 hn.1
theorem ZbE(ok:AnsOk P GL Z A hold){o:MOper}{ρ:Frame}{σ:List ABlk}{lg:Log}{K:Frame→List ABlk→Log→α}(h:hold (dnOpD A o ρ σ lg K)) :
  StepR true P GL Z o ρ σ lg (λρ' σ' lg'=>hold (K ρ' σ' lg')∧Xe (Qs [o]) ρ ρ'):=by
 unfold dnOpD at h;cases hg:o.guard with
 |none=>
  simp only[hg] at h;have gi:GuardIs ρ o.guard []:=by rw[hg]; exact .none
  have hh:Hold []:=by simp[Hold]
  have drcase:hold (A.dr (cstep o.k (o.xs.map (ev ρ)) σ) σ λv l σ=>K (putF o.dst v ρ) σ (lg++[l]))→StepR true P GL Z o ρ σ lg (λρ' σ' lg'=>hold (K ρ' σ' lg')∧Xe (Qs [o]) ρ ρ'):=by
   intro h;obtain⟨v,rd,up,σ',e,e2,h⟩:=ok.dr h;exact .run [] _ v rd up σ' gi hh (Zi _) (ZB e) e2 ⟨h,Xe.put⟩
  cases hc:clsOf o.k with
  |mv=>
   simp only[hc] at h;split at h
   ·rename_i x hx;have hk:o.k=.mv:=by
     revert hc; unfold clsOf; split<;>simp_all
    refine .run [] [ev ρ x] (ev ρ x) [] [] σ gi hh (by rw[hx]; exact Zi _) (by rw[hk]; exact XcA _ _) (ZT σ) ⟨h,Xe.put⟩
   ·exact(ok.stop h).elim
  |pu=>
   simp only[hc] at h;obtain⟨v,e,h⟩:=ok.pu h;exact .run [] _ v [] [] σ gi hh (Zi _) (ZB e) (ZT σ) ⟨h,Xe.put⟩
  |rd=>simp only[hc] at h; exact drcase h
  |wr=>simp only[hc] at h; exact drcase h
  |call=>
   simp only[hc] at h;obtain⟨v,rd,up,σ',e,e2,h⟩:=ok.dcall h;exact .run [] _ v rd up σ' gi hh (Zi _) e e2 ⟨h,Xe.put⟩
 |some p=>
  obtain⟨s,w⟩:=p;simp only[hg] at h;have skipcase:∀cs,GuardIs ρ (some (s,w)) cs→¬Hold cs→hold (K (putF o.dst (udf cs) ρ) σ (lg++[([],[])]))→StepR true P GL Z o ρ σ lg (λρ' σ' lg'=>hold (K ρ' σ' lg')∧Xe (Qs [o]) ρ ρ'):=by
   intro cs hb hne h;exact .lazy cs _ (.bool false) [] (by rw[hg]; exact hb) (Zi _) (λq=>(hne q).elim) ⟨h,Xe.put⟩
  have pucase:hold (A.gr (fget ρ s) w (λk=>A.pu (cstep o.k (o.xs.map (ev ρ)) σ) k) λv=>K (putF o.dst v ρ) σ (lg++[([],[])]))→StepR true P GL Z o ρ σ lg (λρ' σ' lg'=>hold (K ρ' σ' lg')∧Xe (Qs [o]) ρ ρ'):=by
   intro h;obtain⟨cs,hb,⟨h0,h1⟩|⟨h0,h1⟩⟩:=Zaf ok h
   ·obtain⟨v,e,h⟩:=ok.pu h1;exact .run cs _ v [] [] σ (by rw[hg]; exact hb) h0 (Zi _) (ZB e) (ZT σ) ⟨h,Xe.put⟩
   ·exact skipcase cs hb h0 h1
  have drcase:hold (A.gl (fget ρ s) w (λk=>A.dr (cstep o.k (o.xs.map (ev ρ)) σ) σ k) σ λv l σ=>K (putF o.dst v ρ) σ (lg++[l]))→StepR true P GL Z o ρ σ lg (λρ' σ' lg'=>hold (K ρ' σ' lg')∧Xe (Qs [o]) ρ ρ'):=by
   intro h;obtain⟨cs,hb,⟨h0,h1⟩|⟨h0,h1⟩⟩:=Zaf ok h
   ·obtain⟨v,rd,up,σ',e,e2,h⟩:=ok.dr h1;exact .run cs _ v rd up σ' (by rw[hg]; exact hb) h0 (Zi _) (ZB e) e2 ⟨h,Xe.put⟩
   ·exact skipcase cs hb h0 h1
  cases hc:clsOf o.k with
  |mv=>simp only[hc] at h; exact pucase h
  |pu=>simp only[hc] at h; exact pucase h
  |rd=>simp only[hc] at h; exact drcase h
  |wr=>simp only[hc] at h; exact drcase h
  |call=>
   simp only[hc] at h;obtain⟨cs,hb,⟨h0,h1⟩|⟨h0,h1⟩⟩:=Zaf ok h
   ·obtain⟨v,rd,up,σ',e,e2,h⟩:=ok.dcall h1;exact .run cs _ v rd up σ' (by rw[hg]; exact hb) h0 (Zi _) e e2 ⟨h,Xe.put⟩
   ·exact skipcase cs hb h0 h1
theorem XT(ok:AnsOk P GL Z A hold):∀ {ms:List MOper} {ρ:Frame} {σ:List ABlk} {lg:Log} {K:Frame→List ABlk→Log→α},hold (XaN A ms ρ σ lg K) →
  AwpR true P GL Z ms ρ σ lg (λρ' σ' lg'=>hold (K ρ' σ' lg')∧Xe (Qs ms) ρ ρ')
 |[],ρ,σ,lg,K,h=>⟨h,Xe.refl _ _⟩
 |o::r,ρ,σ,lg,K,h=>by
  unfold XaN at h;refine StepR.mono (λρ' σ' lg'=>?_) (ZbE ok h);rintro⟨k1,k2⟩;refine AwpR.mono (λρ'' σ'' lg''=>?_) (XT ok k1);rintro⟨q1,q2⟩;exact⟨q1,by rw[Zam]; exact k2.trans q2⟩
theorem XbO:∀a:List Nat,disj a []=true
 |[]=>rfl
 |x::a=>by simp[disj,XbO a]
theorem Qal{hd:List (List Nat)}{lg:Log}(h:allRd lg):Xf hd lg=true:=by
 have one:∀(h':List Nat) (q:List Nat×List Nat),q.2=[]→∀(l:Log) (i:Nat),allRd l→Xj h' q i l=true:=by
  intro h' q hq l
  induction l with
  |nil=>intro i _; rfl
  |cons p r ih=>
   intro i hl;have hp:p.2=[]:=hl p (by simp);simp[Xj,apart2,hq,hp,disj,XbO,ih (i+1) (λx hx=>hl x (by simp[hx]))]
 unfold Xf;rw[List.all_eq_true];intro j _;refine one _ _ ?_ _ _ (λx hx=>h x (List.mem_of_mem_take hx));unfold Qp;cases hj:lg[j]? with
 |none=>rfl
 |some p=>exact h p (List.mem_of_getElem? hj)
theorem XaA{x:Nat}:∀ {l:List Nat},inL x l=true↔x∈l
 |[]=>by simp[inL]
 |y::l=>by simp[inL,XaA (l:=l)]
theorem Qbi:∀ {l b:List Nat},subL l b=true→∀x∈l,x∈b
 |[],_,_,x,h=>by simp at h
 |y::l,b,h,x,hx=>by
  simp only[subL,Bool.and_eq_true] at h;simp only[List.mem_cons] at hx;rcases hx with rfl|hx
  ·exact XaA.1 h.1
  ·exact Qbi h.2 x hx
theorem Yae(l:List Nat)(s:Nat):∀ρ:Frame,fget (dropF l ρ) s=if s∈l then .junk else fget ρ s
 |[]=>by simp[dropF,fget]
 |(k,v)::r=>by
  unfold dropF;cases hk:inL k l with
  |true=>
   have hm:=XaA.1 hk;simp only;rw[Yae l s r];by_cases hs:s∈l
   ·simp[hs]
   ·have:s≠k:=by rintro rfl; exact hs hm
    simp_all [ZA]
  |false=>
   have hm:k∉l:=λe=>by rw[XaA.2 e] at hk; cases hk
   simp only;rw[ZA,ZA,Yae l s r];by_cases hs:s=k
   ·subst hs; simp[hm]
   ·simp[hs]
theorem Yat{s:Nat}:∀ {lv:List Nat} {vs:List AVal} {ρ:Frame},s∉lv→fget (zipF lv vs ρ) s=fget ρ s
 |[],_,_,_=>rfl
 |k::ks,vs,ρ,h=>by
  simp only[List.mem_cons,not_or] at h;simp only[zipF];rw[ZA,YIN h.1,Yat h.2]
theorem YbL{lv:List Nat}{l:List Nat}{ρ ρ1:Frame}(hl:∀x∈lv,x∈l)(h:Xe l ρ ρ1):FLe (zipF lv (getF ρ1 lv) (dropF l ρ)) ρ1:=by
 have key:∀(ks:List Nat) (ρ0:Frame),FLe ρ0 ρ1→FLe (zipF ks (getF ρ1 ks) ρ0) ρ1:=by
  intro ks
  induction ks with
  |nil=>intro ρ0 h; exact h
  |cons k ks ih=>
   intro ρ0 h t;simp only[zipF,getF,hdV,tlV];rw[ZA];by_cases e:t=k
   ·simp_all
   ·rw[YIN e]; exact ih ρ0 h t
 refine key lv _ (λt=>?_);rw[Yae];by_cases ht:t∈l
 ·rw[YIP ht]; exact .inr rfl
 ·rw[YIN ht]; exact .inl (h t ht).symm
theorem XbA{lv l:List Nat}{vs:List AVal}{ρ:Frame}(hl:∀x∈lv,x∈l):Xe l ρ (zipF lv vs (dropF l ρ)):=by
 intro s hs;rw[Yat (λe=>hs (hl s e)),Yae,YIN hs]
theorem Qa9{n:Nat}{m:MCode}{ρ:Frame}{σ:List ABlk}{Q:APost}(h:Awp P GL Z n m ρ σ (λe ρ1 σ1=>∃ρ2,FLe ρ2 ρ1∧Q e ρ2 σ1)):Awp P GL Z n m ρ σ Q:=by
 intro c hc rnd hr w0 L g a w r d;refine wpIn_mono (h c hc rnd hr w0 L g a w r d) (λe a' w' hl=>?_);cases e with
 |normal=>obtain⟨g',ρ',σ',k1,k2,k3,ρ2,k4,k5⟩:=hl; exact⟨g',ρ2,σ',k1,k2,k3.weak k4,k5⟩
 |exit id=>obtain⟨g',ρ',σ',k1,k2,k3,ρ2,k4,k5⟩:=hl; exact⟨g',ρ2,σ',k1,k2,k3.weak k4,k5⟩
 |ret=>obtain⟨g',ρ',σ',k1,k2,k3,ρ2,k4,k5⟩:=hl; exact⟨g',ρ2,σ',k1,k2,k3.weak k4,k5⟩
 |panic ch=>exact hl
 |_=>exact hl.elim
theorem FLe.refl(ρ:Frame):FLe ρ ρ:=λ_=>.inl rfl
theorem Yaq(a b:List MOper):Qs (a++b)=Qs a++Qs b:=by
 induction a with
 |nil=>rfl
 |cons o r ih=>grind [Zam]
theorem Q2(ok:AnsOk P GL Z A hold){hd:List (List Nat)}:∀(ps:Pcs) (lo:Nat) {ρ:Frame} {σ:List ABlk} {K:Frame→List ABlk→α} {Q:Frame→List ABlk→Prop},(∀ρ' σ',Xe (Qs (Qu ps)) ρ ρ'→hold (K ρ' σ')→Q ρ' σ')→hold (dnPcs A hd lo ps ρ σ K)→AwpS P GL Z hd lo ps ρ σ Q
 |[],_,_,_,_,_,hQ,h=>hQ _ _ (Xe.refl _ _) h
 |(seg,true)::r,lo,ρ,σ,K,Q,hQ,h=>by
  unfold dnPcs at h;refine AwpR.mono (λρ' σ' lg'=>?_) (ZF ok (fl:=false) (λe=>by cases e) h);rintro⟨k1,k2,_⟩;exact Q2 ok r _ (λρ2 σ2 q=>hQ ρ2 σ2 (by rw[Qu,Yaq]; exact k2.trans q)) k1
 |(seg,false)::r,lo,ρ,σ,K,Q,hQ,h=>by
  unfold dnPcs at h;have hQ':∀ρ',Xe (Qs seg) ρ ρ'→∀ρ2 σ2,Xe (Qs (Qu r)) ρ' ρ2→hold (K ρ2 σ2)→Q ρ2 σ2:=λρ' k2 ρ2 σ2 q=>hQ ρ2 σ2 (by rw[Qu,Yaq]; exact k2.trans q);cases hn:noWr seg with
  |true=>
   simp only[hn] at h;refine AwpR.mono (λρ' σ' lg'=>?_) (ZF ok (fl:=true) (λ_=>hn) h);rintro⟨k1,k2,k3⟩;exact⟨Qal (k3 hn (λ_ q=>by simp at q)),Q2 ok r _ (hQ' _ k2) k1⟩
  |false=>
   simp only[hn] at h;refine AwpR.mono (λρ' σ' lg'=>?_) (XT ok h);rintro⟨k1,k2⟩;obtain⟨q1,q2⟩:=ok.gd k1;exact⟨q1,Q2 ok r _ (hQ' _ k2) q2⟩
theorem ZG(hP:POk P)(ok:AnsOk P GL Z A hold){n:Nat}:∀(m:DCode) {ρ:Frame} {σ:List ABlk} {K:Frame→List ABlk→α} {E:Nat→Frame→List ABlk→α} {R:Frame→List ABlk→α} {Q:APost},m.ok=true →
  (∀ρ' σ',Xe m.asg ρ ρ'→hold (K ρ' σ')→Q .normal ρ' σ')→(∀i ρ' σ',Xe m.asg ρ ρ'→hold (E i ρ' σ')→Q (.exit i) ρ' σ')→(∀ρ' σ',Xe m.asg ρ ρ'→hold (R ρ' σ')→Q .ret ρ' σ') →
  hold (dn A m ρ σ K E R)→Awp P GL Z n m.er ρ σ Q
 |.skip,_,_,_,_,_,_,_,hK,_,_,h=>YcH (hK _ _ (Xe.refl _ _) h)
 |.label _,_,_,_,_,_,_,_,hK,_,_,h=>Qci (hK _ _ (Xe.refl _ _) h)
 |.exit id,_,_,_,_,_,_,_,_,hE,_,h=>ZcH (hE _ _ _ (Xe.refl _ _) h)
 |.ret,_,_,_,_,_,_,_,_,_,hR,h=>XcY (hR _ _ (Xe.refl _ _) h)
 |.rangeF d id m ps x y,ρ,σ,K,E,R,Q,_,hK,hE,hR,h=>by
  unfold dn at h;obtain⟨f,ys,Rr,h1,h2,h3,h4⟩:=ok.rng h;refine Qb4 hP h1 h2 h3 (λv σ' hv=>?_);obtain⟨id',row',st,h5,h6⟩:=h4 v σ' hv;refine⟨id',row',st,h5,?_⟩
  match st,h6 with
  |0,h6=>exact hK _ _ (Xe.refl _ _) h6
  |1,h6=>exact ok.stop h6
  |2,h6=>exact hR _ _ (Xe.refl _ _) h6
  |i+3,h6=>exact hE _ _ _ (Xe.refl _ _) h6
 |.scope a,_,_,_,_,_,_,hm,hK,hE,hR,h=>Zcj (ZG hP ok a hm hK hE hR h)
 |.region id ms none,ρ,σ,K,E,R,Q,_,hK,_,_,h=>by
  refine Zb5 (AwpR.mono (λρ' σ' lg'=>?_) (ZF ok (fl:=false) (λe=>by cases e) h));rintro⟨k1,k2,_⟩;exact hK _ _ k2 k1
 |.region id ms (some hd),ρ,σ,K,E,R,Q,_,hK,_,_,h=>by
  unfold dn at h;cases hn:noWr ms with
  |true=>
   simp only[hn] at h;refine ZbM hP (AwpR.mono (λρ' σ' lg'=>?_) (ZF ok (fl:=true) (λ_=>hn) h));rintro⟨k1,k2,k3⟩;exact⟨Qal (k3 hn (λ_ q=>by simp at q)),hK _ _ k2 k1⟩
  |false=>
   simp only[hn] at h;refine ZbM hP (AwpR.mono (λρ' σ' lg'=>?_) (XT ok h));rintro⟨k1,k2⟩;obtain⟨q1,q2⟩:=ok.gd k1;exact⟨q1,hK _ _ k2 q2⟩
 |.regionS id ps hd,ρ,σ,K,E,R,Q,hm,hK,_,_,h=>YcY hP hm (Q2 ok ps 0 (λρ' σ' q k=>hK _ _ q k) h)
 |.seq a b,ρ,σ,K,E,R,Q,hm,hK,hE,hR,h=>by
  simp only[DCode.ok,Bool.and_eq_true] at hm;refine QcY (ZG hP ok a hm.1 (Q:=APost.andThen (λρ σ=>Awp P GL Z n b.er ρ σ Q) Q) (λρ' σ' hs hk=>?_) (λi ρ' σ' hs hk=>?_) (λρ' σ' hs hk=>?_) h)
  ·exact ZG hP ok b hm.2 (λρ2 σ2 hs2=>hK _ _ (hs.trans hs2)) (λi ρ2 σ2 hs2=>hE _ _ _ (hs.trans hs2)) (λρ2 σ2 hs2=>hR _ _ (hs.trans hs2)) hk
  ·exact hE i ρ' σ' (hs.mono (λx hx=>by simp[DCode.asg,hx])) hk
  ·exact hR ρ' σ' (hs.mono (λx hx=>by simp[DCode.asg,hx])) hk
 |.cond c a b,ρ,σ,K,E,R,Q,hm,hK,hE,hR,h=>by
  simp only[DCode.ok,Bool.and_eq_true] at hm;unfold dn at h;obtain⟨v,hv,h1,h2⟩:=ok.test h;have m1:∀ρ',Xe a.asg ρ ρ'→Xe (DCode.cond c a b).asg ρ ρ':=λρ' q=>q.mono (λx hx=>by simp[DCode.asg,hx]);have m2:∀ρ',Xe b.asg ρ ρ'→Xe (DCode.cond c a b).asg ρ ρ':=λρ' q=>q.mono (λx hx=>by simp[DCode.asg,hx]);refine QcG hv (λe=>?_) (λe=>?_)
  ·exact ZG hP ok a hm.1 (λρ2 σ2 q=>hK _ _ (m1 _ q)) (λi ρ2 σ2 q=>hE _ _ _ (m1 _ q)) (λρ2 σ2 q=>hR _ _ (m1 _ q)) (h1 e)
  ·exact ZG hP ok b hm.2 (λρ2 σ2 q=>hK _ _ (m2 _ q)) (λi ρ2 σ2 q=>hE _ _ _ (m2 _ q)) (λρ2 σ2 q=>hR _ _ (m2 _ q)) (h2 e)
 |.join lv a,ρ,σ,K,E,R,Q,hm,hK,hE,hR,h=>by
  simp only[DCode.ok,Bool.and_eq_true] at hm;have hlv:=Qbi hm.1;refine Qa9 (ZG hP ok a hm.2 (K:=λρ' σ=>K (zipF lv (getF ρ' lv) (dropF a.asg ρ)) σ) (E:=E) (R:=R) (λρ' σ' hs hk=>?_) (λi ρ' σ' hs hk=>⟨ρ',FLe.refl _,hE i ρ' σ' hs hk⟩) (λρ' σ' hs hk=>⟨ρ',FLe.refl _,hR ρ' σ' hs hk⟩) h);exact⟨_,YbL hlv hs,hK _ _ (XbA hlv) hk⟩
 |.block id a,ρ,σ,K,E,R,Q,hm,hK,hE,hR,h=>by
  refine Xci (ZG hP ok a hm (Q:=APost.inBlock id Q) hK (λi ρ' σ' hs hk=>?_) hR h);show (if i=id then Q .normal ρ' σ' else Q (.exit i) ρ' σ');by_cases hi:i=id
  ·subst hi;rw[YIP rfl];have hb:Nat.beq i i=true:=Nat.beq_refl i;simp only[hb] at hk;exact hK _ _ hs hk
  ·rw[YIN hi];have hb:Nat.beq i id=false:=by
    grind [YNB]
   simp only[hb] at hk;exact hE _ _ _ hs hk
 |.loop lv a,ρ,σ,K,E,R,Q,hm,hK,hE,hR,h=>by
  simp only[DCode.ok,Bool.and_eq_true] at hm;have hlv:=Qbi hm.1;unfold dn at h;obtain⟨k,hk⟩:=ok.loop h;have key:∀(k:Nat) (vs:List AVal) (σ:List ABlk) (ρ1:Frame),FLe (zipF lv vs (dropF a.asg ρ)) ρ1 →
    hold (iterA A.stop k (λagain vs σ=>dn A a (zipF lv vs (dropF a.asg ρ)) σ (λρ' σ=>again (getF ρ' lv) σ) E R) vs σ)→Awp P GL Z n (.loop a.er) ρ1 σ Q:=by
   intro k
   induction k with
   |zero=>intro vs σ ρ1 _ hk; exact(ok.stop hk).elim
   |succ k ih=>
    intro vs σ ρ1 hle hk;have hz:Xe a.asg ρ (zipF lv vs (dropF a.asg ρ)):=XbA hlv;have hz2:∀ρ',Xe a.asg (zipF lv vs (dropF a.asg ρ)) ρ'→Xe a.asg ρ ρ':=λρ' q=>(hz.trans q).mono (λx hx=>by simpa using hx);refine XcH hle (Yb5 (ZG hP ok a hm.2 (Q:=APost.andThen (λρ σ=>Awp P GL Z n (.loop a.er) ρ σ Q) Q) (λρ' σ' hs hk=>?_) (λi ρ' σ' hs hk=>?_) (λρ' σ' hs hk=>?_) hk))
    ·exact ih _ _ ρ' (YbL hlv (hz2 _ hs)) hk
    ·exact hE i ρ' σ' (hz2 _ hs) hk
    ·exact hR ρ' σ' (hz2 _ hs) hk
  exact key k _ σ ρ (YbL hlv (Xe.refl _ _)) hk
theorem QT(ok:AnsOk P GL Z A hold):∀ {rs:List RV} {ρ:Frame} {σ:List ABlk} {K:List AVal→α},hold (Xas A rs ρ σ K)→∃vs,retL ρ σ rs=some vs∧hold (K vs)
 |[],_,_,_,h=>⟨[],rfl,h⟩
 |.t n::r,ρ,σ,K,h=>by
  obtain⟨vs,h1,h2⟩:=QT ok (rs:=r) h;exact⟨fget ρ n::vs,by simp[retL,ret1,h1],h2⟩
 |.c s agg n::r,ρ,σ,K,h=>by
  unfold Xas at h;obtain⟨v,hv,h⟩:=ok.opt h;obtain⟨vs,h1,h2⟩:=QT ok (rs:=r) h;have hv':ret1 ρ σ (.c s agg n)=some v:=by
   unfold cellV at hv;unfold ret1;exact hv
  exact⟨v::vs,by simp[retL,hv',h1],h2⟩
theorem Qb6(hP:POk P)(ok:AnsOk P GL Z A hold){D:DFn}(hD:D.body.ok=true){xs:List AVal}{σ:List ABlk}{ret:AVal→List ABlk→α}(h:hold (dnFn A D xs σ ret)) :
  Awp P GL Z D.n D.body.er (frame0 xs) σ (λe ρ σ'=>(e=.normal∨e=.ret)∧∃v,retV D.rets ρ σ'=some v∧hold (ret v σ')):=by
 refine ZG hP ok D.body hD (λρ' σ' _ hk=>?_) (λi ρ' σ' _ hk=>(ok.stop hk).elim) (λρ' σ' _ hk=>?_) h
 ·obtain⟨vs,h1,h2⟩:=QT ok hk;simp_all [retV]
 ·obtain⟨vs,h1,h2⟩:=QT ok hk;simp_all [retV]
end
end
end Go.Ah
end
section
namespace Go.Ah
abbrev GFun:=∀ {α:Type},Ans α→List AVal→List ABlk→(AVal→List ABlk→α)→α
structure GOk (P:Program) (GL:Globs) (f:FuncId) (np:Nat) (g:GFun):Prop where
 plain:Qi P f=true
 ex:∃D:DFn,D.np=np∧FnOk P GL f D.fn∧D.body.ok=true∧∀(α:Type) (A:Ans α) (xs:List AVal) (σ:List ABlk) (ret:AVal→List ABlk→α),xs.length=np→g A xs σ ret=dnFn A D xs σ ret
def annot(n:Nat):MCode→List (Option (List Nat))→DCode×List (Option (List Nat))
 |.skip,l=>(.skip,l)
 |.region id ms hd,l=>(.region id ms hd,l)
 |.seq a b,l=>match annot n a l with
  |(a',l)=>match annot n b l with
   |(b',l)=>(.seq a' b',l)
 |.cond c a b,l=>match annot n a l.tail with
  |(a',l2)=>match annot n b l2 with
   |(b',l3)=>match l with
    |some lv::_=>(.join lv (.cond c a' b'),l3)
    |_=>(.cond c a' b',l3)
 |.block id a,l=>match annot n a l.tail with
  |(a',l2)=>match l with
   |some lv::_=>(.join lv (.block id a'),l2)
   |_=>(.block id a',l2)
 |.loop a,l=>match annot n a l.tail with
  |(a',l2)=>match l with
   |some lv::_=>(.loop lv a',l2)
   |_=>(.loop [] a',l2)
 |.exit id,l=>(.exit id,l)
 |.scope a,l=>match annot n a l with
  |(a',l)=>(.scope a',l)
 |.label q,l=>(.label q,l)
 |.ret,l=>(.ret,l)
 |.rangeF d id ps x y,l=>match annot n x [] with
  |(x',_)=>match annot n y [] with
   |(y',_)=>(.rangeF d id n ps x' y',l)
theorem Xw(n:Nat):∀(m:MCode) (l:List (Option (List Nat))),(annot n m l).1.er=m
 |.skip,_=>rfl
 |.region ..,_=>rfl
 |.seq a b,l=>by simp only[annot,DCode.er,Xw n a,Xw n b]
 |.cond c a b,l=>by
  simp only[annot];split<;>simp only[DCode.er,Xw n a,Xw n b]
 |.block id a,l=>by
  simp only[annot];split<;>simp only[DCode.er,Xw n a]
 |.loop a,l=>by
  simp only[annot];split<;>simp only[DCode.er,Xw n a]
 |.exit _,_=>rfl
 |.scope a,l=>by simp only[annot,DCode.er,Xw n a]
 |.label _,_=>rfl
 |.ret,_=>rfl
 |.rangeF d id ps x y,l=>by simp only[annot,DCode.er,Xw n x,Xw n y]
def Qar(n:Nat)(hd:List (List Nat)):Nat→List MOper→List MOper→Pcs
 |_,[],[]=>[]
 |_,[],o::c=>[(o::c,false)]
 |i,o::r,c=>match clsOf o.k,o.guard with
  |.call,none=>match bndQ n hd i&&bndQ n hd (i+1) with
   |true=>match c with
    |[]=>([o],true)::Qar n hd (i+1) r []
    |x::c=>(x::c,false)::([o],true)::Qar n hd (i+1) r []
   |false=>Qar n hd (i+1) r (c++[o])
  |_,_=>Qar n hd (i+1) r (c++[o])
theorem Zae(n:Nat)(hd:List (List Nat)):∀(i:Nat) (l c:List MOper),Qu (Qar n hd i l c)=c++l
 |_,[],[]=>rfl
 |_,[],o::c=>by simp[Qar,Qu]
 |i,o::r,c=>by
  have h1:Qu (Qar n hd (i+1) r (c++[o]))=c++o::r:=by rw[Zae]; simp
  unfold Qar;split
  ·split
   ·split
    ·simp[Qu,Zae]
    ·simp[Qu,Zae]
   ·exact h1
  ·exact h1
def ZH:DCode→DCode
 |.region id ms (some hd)=>.regionS id (Qar ms.length hd 0 ms []) hd
 |.seq a b=>.seq (ZH a) (ZH b)
 |.cond c a b=>.cond c (ZH a) (ZH b)
 |.join lv a=>.join lv (ZH a)
 |.block id a=>.block id (ZH a)
 |.loop lv a=>.loop lv (ZH a)
 |.scope a=>.scope (ZH a)
 |D=>D
theorem XG:∀D:DCode,(ZH D).er=D.er
 |.region id ms (some hd)=>by simp[ZH,DCode.er,Zae]
 |.region id ms none=>rfl
 |.regionS ..=>rfl
 |.seq a b=>by simp only[ZH,DCode.er,XG a,XG b]
 |.cond c a b=>by simp only[ZH,DCode.er,XG a,XG b]
 |.join lv a=>by simp only[ZH,DCode.er,XG a]
 |.block id a=>by simp only[ZH,DCode.er,XG a]
 |.loop lv a=>by simp only[ZH,DCode.er,XG a]
 |.scope a=>by simp only[ZH,DCode.er,XG a]
 |.skip=>rfl
 |.label _=>rfl
 |.exit _=>rfl
 |.ret=>rfl
 |.rangeF ..=>rfl
def joinD:DCode→DCode
 |.region id ms hd=>match Nat.ble 3 ms.length with
  |true=>.join (Qs ms) (.region id ms hd)
  |false=>.region id ms hd
 |.regionS id ps hd=>match Nat.ble 3 (Qu ps).length with
  |true=>.join (Qs (Qu ps)) (.regionS id ps hd)
  |false=>.regionS id ps hd
 |.seq a b=>.seq (joinD a) (joinD b)
 |.cond c a b=>.cond c (joinD a) (joinD b)
 |.join lv a=>.join lv (joinD a)
 |.block id a=>.block id (joinD a)
 |.loop lv a=>.loop lv (joinD a)
 |.scope a=>.scope (joinD a)
 |d=>d
theorem XO:∀(d:DCode),(joinD d).er=d.er
 |.region _ ms _=>by unfold joinD; split<;>rfl
 |.regionS _ ps _=>by unfold joinD; split<;>rfl
 |.seq a b=>by simp only[joinD,DCode.er,XO a,XO b]
 |.cond c a b=>by simp only[joinD,DCode.er,XO a,XO b]
 |.join lv a=>by simp only[joinD,DCode.er,XO a]
 |.block id a=>by simp only[joinD,DCode.er,XO a]
 |.loop lv a=>by simp only[joinD,DCode.er,XO a]
 |.scope a=>by simp only[joinD,DCode.er,XO a]
 |.skip=>rfl
 |.exit _=>rfl
 |.label _=>rfl
 |.ret=>rfl
 |.rangeF ..=>rfl
def Xap(n:Nat)(m:MCode)(l:List (Option (List Nat))):DCode:=match l with
 |some [k]::r=>match Nat.beq k 999 with
  |true=>ZH (annot n m r).1
  |false=>match Nat.beq k 998 with
   |true=>joinD (ZH (annot n m r).1)
   |false=>(annot n m l).1
 |_=>(annot n m l).1
theorem Z7(n:Nat)(m:MCode)(l:List (Option (List Nat))):(Xap n m l).er=m:=by
 unfold Xap
 grind [XG,Xw,XO]
def compD(P:Program)(GL:Globs)(np:Nat)(f:FuncId)(l:List (Option (List Nat))):Option DFn:=match ZbN P GL np f with
 |some F=>bif (Xap F.n F.body l).ok&&(Qi P f&&Nat.beq F.np np) then some ⟨np,F.n,Xap F.n F.body l,F.rets⟩ else none
 |none=>none
theorem Yde{P:Program}{GL:Globs}{np:Nat}{f:FuncId}{l:List (Option (List Nat))}{g:GFun}{D:DFn}(hD:compD P GL np f l=some D)(h:∀(α:Type) (A:Ans α) (xs:List AVal) (σ:List ABlk) (ret:AVal→List ABlk→α),xs.length=np→g A xs σ ret=dnFn A D xs σ ret):GOk P GL f np g:=by
 unfold compD at hD;split at hD
 ·rename_i F hF;obtain⟨hb,hD⟩:=Ql hD;simp only[Bool.and_eq_true] at hb;cases hD;have hnp:=YNB hb.2.2;refine⟨hb.2.1,_,rfl,?_,hb.1,h⟩;have hfn:DFn.fn ⟨np,F.n,Xap F.n F.body l,F.rets⟩=F:=by
   cases F<;>simp_all [DFn.fn,Z7]
  rw[hfn];exact Ybn hF
 ·cases hD
end Go.Ah
end
section
namespace Go.Ah
theorem Xq{σ:List ABlk}{b:Nat}{x:ABlk}(h:σ[b]?=some x):hget σ b=x:=by
 induction σ generalizing b with
 |nil=>simp at h
 |cons y σ ih=>cases b<;>simp_all [hget]
theorem Zcq{σ:List ABlk}{b:Nat}(h:b<σ.length):σ[b]?=some (hget σ b):=by
 simp_all [Xq]
def Ya4(fp:List Nat)(n:Nat):Nat→List ABlk→List ABlk
 |_,[]=>[]
 |i,x::l=>(bif inL i fp then x.mapV (AVal.ren (ltM n)) else .dead)::Ya4 fp n (i+1) l
def maskR(fp:List Nat)(σ:List ABlk):List ABlk:=Ya4 fp σ.length 0 σ
theorem Xa4(fp:List Nat)(n:Nat):∀(l:List ABlk) (i j:Nat),(Ya4 fp n i l)[j]?=(l[j]?).map λx=>bif inL (i+j) fp then x.mapV (AVal.ren (ltM n)) else .dead
 |[],i,j=>by simp[Ya4]
 |x::l,i,0=>by simp[Ya4]
 |x::l,i,j+1=>by
  simp only[Ya4,List.getElem?_cons_succ];rw[Xa4 fp n l (i+1) j,show i+1+j=i+(j+1) by omega]
theorem Q8(fp:List Nat)(σ:List ABlk)(j:Nat):(maskR fp σ)[j]?=(σ[j]?).map λx=>bif inL j fp then x.mapV (AVal.ren (ltM σ.length)) else .dead:=by
 rw[maskR,Xa4,Nat.zero_add]
theorem YbQ(F:Nat→ABlk):∀(keys:List Nat) (h:Hp) (b:Nat),hups h (keys.map λb=>(b,F b)) b=if b∈keys then some (F b) else h b
 |[],h,b=>by simp[hups]
 |x::keys,h,b=>by
  simp only[List.map_cons,hups];rw[YbQ F keys]
  grind [hup]
section
variable {P:Program} {GL:Globs} {Z:PZ}
theorem QaD{f:FuncId}{F:MFn}(ok:FnOk P GL f F){xs xs':List AVal}(hn:xs.length=F.np)(σ:List ABlk)(fp ids:List Nat)(hfp:∀b∈fp,b∈ids)(hids:∀b∈ids,b<σ.length){v:AVal}{k:Nat}{τ τ':List ABlk}
 (hxs:renL (ltM σ.length) xs=xs')(hτ:maskR fp σ=τ)(h:Awp P GL noZ F.n F.body (frame0 xs') τ (λe ρ s=>(e=.normal∨e=.ret)∧retV F.rets ρ s=some v∧s=τ'))(hk:τ'.length=σ.length+k) :
  ACall P GL f xs (hp σ) (v.ren (keepM ids σ.length k)) ids ((fp++List.range' σ.length k).map λb=>(b,(hget τ' b).mapV (AVal.ren (keepM ids σ.length k)))):=by
 intro w0 L g hq w vs r hx hrd hup;subst hxs; subst hτ
 let dm:CB:=⟨0,0,0,true,0⟩
 let c':Own:=λb=>if b<σ.length then some ((g.c b).getD dm) else none
 let lb:List Nat:=fp.filterMap λb=>match g.c b,σ[b]? with
  |some cb,some x=>bif x.live && !cb.virt then some cb.blk else none
  |_,_=>none
 have hknown:∀b∈ids,∃cb,g.c b=some cb∧c' b=some cb∧hq b=σ[b]?:=by
  intro b hb;have hl:=hids b hb;have e1:hq b=σ[b]?:=hrd b hb;obtain⟨cb,hcb⟩:=r.dom b σ[b] (by rw[e1]; simp[hl]);exact⟨cb,hcb,by simp only[c']; rw[YIP hl,hcb]; rfl,e1⟩
 have hlb:∀b∈fp,∀cb y,g.c b=some cb→σ[b]?=some y→y.live=true→cb.virt=false→cb.blk∈lb:=by
  intro b hb cb y hcb hy hl hv;simp only[lb,List.mem_filterMap];exact⟨b,hb,by rw[hcb,hy]; simp[hl,hv]⟩
 have hlt:∀b x,(maskR fp σ)[b]?=some x→b<σ.length:=by
  intro b x e;rw[Q8] at e;cases hs:σ[b]? with
  |none=>rw[hs] at e; cases e
  |some y=>exact(YLG hs).1
 have hlive:∀b x,(maskR fp σ)[b]?=some x→x.live=true→b∈fp∧∃y,σ[b]?=some y∧x=y.mapV (AVal.ren (ltM σ.length)):=by
  intro b x e hl;rw[Q8] at e;cases hs:σ[b]? with
  |none=>rw[hs] at e; cases e
  |some y=>
   rw[hs] at e;simp only[Option.map_some,Option.some.injEq] at e;cases hi:inL b fp with
   |false=>rw[hi] at e; subst e; cases hl
   |true=>rw[hi] at e; exact⟨XaA.1 hi,y,rfl,e.symm⟩
 have hren:∀x u,g.den x u→Den g.M c' (x.ren (ltM σ.length)) u:=by
  intro x u d;refine d.ren (λb b' cb k1 k2=>?_);unfold ltM at k1;obtain⟨k0,k1⟩:=Ql k1;cases k1;have hl:b<σ.length:=YNL k0;simp only[c'];rw[YIP hl,k2]; rfl
 have r0:Rep GL w ⟨lb,g.M⟩ ⟨g.M,c',[]⟩ (hp (maskR fp σ)) w:={
  mks:=λ_ q=>by cases q
  keeps:=Keeps.refl _ _,stable:=r.stable,src:=λb o e=>.inl e,globs:=r.globs
  empt:=λb e=>by
   have e':(maskR fp σ)[b]?=none:=e;rw[Q8] at e';show c' b=none;simp only[c'];rw[YIN];intro hb;simp[hb] at e'
  dom:=λb blk e=>by
   have:=hlt b blk e;exact⟨_,by show c' b=_; simp only[c']; rw[YIP this]⟩
  own:=λb blk cb e hl ec hv=>by
   obtain⟨hb,y,hy,rfl⟩:=hlive b blk e hl;obtain⟨cb0,q1,q2,q3⟩:=hknown b (hfp b hb);have ec':c' b=some cb:=ec;rw[q2] at ec'; cases ec';rw[ABlk.mapV_live] at hl;obtain⟨p1,p2,o,p3,p4⟩:=r.own b y _ (by rw[q3]; exact hy) hl q1 hv;exact⟨p1,.inl (hlb b hb _ y q1 hy hl hv),o,p3,p4.mapV (p:=λ_=>True) (λx u _ d=>hren x u d) (ABlk.all_true _)⟩
  hollow:=λb blk cb e hl ec hv=>by
   obtain⟨hb,y,hy,rfl⟩:=hlive b blk e hl;obtain⟨cb0,q1,q2,q3⟩:=hknown b (hfp b hb);have ec':c' b=some cb:=ec;rw[q2] at ec'; cases ec';rw[ABlk.mapV_live] at hl;have:=r.hollow b y _ (by rw[q3]; exact hy) hl q1 hv;subst this; rfl
  inj:=λb b' blk blk' cb cb' e1 e2 l1 l2 c1 c2 v1 v2 hblk=>by
   obtain⟨hb,y,hy,rfl⟩:=hlive b blk e1 l1;obtain⟨hb',y',hy',rfl⟩:=hlive b' blk' e2 l2;obtain⟨cb0,q1,q2,q3⟩:=hknown b (hfp b hb);obtain⟨cb0',q1',q2',q3'⟩:=hknown b' (hfp b' hb');have c1':c' b=some cb:=c1;have c2':c' b'=some cb':=c2;rw[q2] at c1'; cases c1';rw[q2'] at c2'; cases c2';rw[ABlk.mapV_live] at l1 l2;exact r.inj b b' y y' _ _ (by rw[q3]; exact hy) (by rw[q3']; exact hy') l1 l2 q1 q1' v1 v2 hblk }
 have hx':DenL ⟨g.M,c',[]⟩ (renL (ltM σ.length) xs) vs:=by
  refine DenL.of_get (by rw[Qr]; exact hx.length) (λi y u e1 e2=>?_);obtain⟨x,q1,rfl⟩:=Qaf e1;exact hren x u (hx.get i x u q1 e2)
 refine Yar ok (by rw[Qr,hn]) hx' r0 rfl h  (λ_ _ _ q=>q.1) (λfn h5 a' w'=>?_);have fin:∀ g' ρ σ',(⟨g.M,c',[]⟩:Gm).Le g'→Rep GL w ⟨lb,g.M⟩ g' (hp σ') w'→DenF F.n g' ρ a'→(retV F.rets ρ σ'=some v∧σ'=τ')→∃ u,(results fn a'.tmps).run P w'=.ok u w'∧(∃ u',Ending.returned u=.returned u'∧∃ g2,g.Le g2 ∧
   Rep GL w0 L g2 (hups hq ((fp ++ List.range' σ.length k).map λb=>(b,(hget τ' b).mapV (AVal.ren (keepM ids σ.length k))))) w'∧g2.den (v.ren (keepM ids σ.length k)) u'):=by
  rintro g' ρ σ' hle hr hd ⟨hret,rfl⟩;obtain⟨u,k1,k2⟩:=XU hr hd h5 hret
  let keys:=fp++List.range' σ.length k
  have hkeys:∀b,b∈keys↔b∈fp∨(σ.length≤b∧b<σ.length+k):=by
   intro b; simp only[keys,List.mem_append,List.mem_range'_1]
  let cF:Own:=λb=>if b∈keys then g'.c b else g.c b
  have hkl:∀b∈keys,b<σ'.length:=by
   intro b hb;rcases (hkeys b).1 hb with q|q
   ·have:=hids b (hfp b q); omega
   ·omega
  have hgc:∀b cb,g.c b=some cb→cF b=some cb:=by
   intro b cb e;simp only[cF];split
   ·rename_i hb;rcases (hkeys b).1 hb with q|q
    ·obtain⟨cb0,q1,q2,q3⟩:=hknown b (hfp b q);rw[q1] at e; cases e;exact hle.c b _ q2
    ·have hn:hq b=none:=by
      have:=hup (b,_) (List.mem_map.2 ⟨b,hb,rfl⟩);rw[this]; simp[hp]; omega
     rw[r.empt b hn] at e; cases e
   ·exact e
  have hren2:∀x u,g'.den x u→Den g'.M cF (x.ren (keepM ids σ.length k)) u:=by
   intro x u d;refine d.ren (λb b' cb e1 e2=>?_);unfold keepM at e1;obtain⟨e0,e1⟩:=Ql e1;cases e1;by_cases hb:b∈keys
   ·simp only[cF]; rw[YIP hb]; exact e2
   ·simp only[Bool.or_eq_true,Bool.and_eq_true] at e0;rcases e0 with q|⟨q1,q2⟩
    ·obtain⟨cb0,p1,p2,p3⟩:=hknown b (List.contains_iff_mem.1 q);have:=hle.c b cb0 p2;rw[e2] at this; cases this;exact hgc b _ p1
    ·have:=YNL q1;have:b<σ.length+k:=YNL q2;exact(hb ((hkeys b).2 (.inr (by omega)))).elim
  have hF:∀b,hups hq (keys.map λb=>(b,(hget σ' b).mapV (AVal.ren (keepM ids σ.length k)))) b=if b∈keys then some ((hget σ' b).mapV (AVal.ren (keepM ids σ.length k))) else hq b:=YbQ _ keys hq
  have hlbown:∀q∈lb,∃b∈fp,∃cb y,g.c b=some cb∧hq b=some y∧y.live=true∧cb.virt=false∧q=cb.blk:=by
   intro q hq';simp only[lb,List.mem_filterMap] at hq';obtain⟨b,hb,e⟩:=hq';obtain⟨cb0,q1,_,q3⟩:=hknown b (hfp b hb);rw[q1] at e;cases hs:σ[b]? with
   |none=>rw[hs] at e; cases e
   |some y=>
    rw[hs] at e;obtain⟨e1,e2⟩:=Ql e;simp only[Bool.and_eq_true,Bool.not_eq_true'] at e1;cases e2;exact⟨b,hb,cb0,y,q1,by rw[q3]; exact hs,e1.1,e1.2,rfl⟩
  have hlbM:∀q∈lb,g.M q=none∧(q∈L.l∨w0.heap.size≤q):=by
   intro q hq';obtain⟨b,hb,cb,y,q1,q2,q3,q4,rfl⟩:=hlbown q hq';obtain⟨p1,p2,_⟩:=r.own b y cb q2 q3 q1 q4;exact⟨p1,p2⟩
  have hout:∀b blk cb,b∉keys→hq b=some blk→blk.live=true→g.c b=some cb→cb.virt=false→cb.blk∉lb:=by
   intro b blk cb hb e hl ec hv hin;obtain⟨b2,hb2,cb2,y,q1,q2,q3,q4,q5⟩:=hlbown _ hin;have:=r.inj b b2 blk y cb cb2 e q2 hl q3 ec q1 hv q4 q5;subst this;exact hb ((hkeys b).2 (.inl hb2))
  have hsz:=r.keeps.size;have hcF1:∀b,b∈keys→cF b=g'.c b:=λb hb=>by simp only[cF]; rw[YIP hb]
  have hcF2:∀b,b∉keys→cF b=g.c b:=λb hb=>by simp only[cF]; rw[YIN hb]
  have hat:∀ b,b∈keys→hp σ' b=some (hget σ' b):=λb hb=>Zcq (hkl b hb);refine⟨u,k1,u,rfl,⟨g'.M,cF,g.dk⟩,⟨hle.m,λb cb e=>hgc b cb e,rfl⟩,?_,hren2 v u k2⟩;exact {
   keeps:=r.keeps.trans' hr.keeps.os hr.keeps.tape hr.keeps.output hr.keeps.size (λj hj hjl=>hr.keeps.block j (by omega) (λhin=>by
    rcases (hlbM j hin).2 with q|q
    ·exact hjl q
    ·omega))
   stable:=hr.stable
   mks:=r.mks
   src:=λb o e=>by
    rcases hr.src b o e with q|q|q
    ·exact r.src b o q
    ·exact .inr (.inl (by omega))
    ·rcases (hlbM b q).2 with q|q
     ·exact .inr (.inr q)
     ·exact .inr (.inl q)
   globs:=λp hp'=>(r.globs p hp').mono hle.m (CLe.refl _)
   empt:=λb e=>by
    rw[hF] at e;split at e
    ·cases e
    ·rename_i hb;show cF b=none;rw[hcF2 b hb]; exact r.empt b e
   dom:=λb blk e=>by
    rw[hF] at e;show ∃cb,cF b=some cb;split at e
    ·rename_i hb;rw[hcF1 b hb]; exact hr.dom b _ (hat b hb)
    ·rename_i hb;rw[hcF2 b hb]; exact r.dom b blk e
   own:=λb blk cb e hl ec hv=>by
    rw[hF] at e;have ec':cF b=some cb:=ec;split at e
    ·rename_i hb;cases e;rw[ABlk.mapV_live] at hl;rw[hcF1 b hb] at ec';obtain⟨p1,p2,o,p3,p4⟩:=hr.own b _ cb (hat b hb) hl ec' hv;refine⟨p1,?_,o,p3,p4.mapV (p:=λ_=>True) (λx u _ d=>hren2 x u d) (ABlk.all_true _)⟩;rcases p2 with q|q
     ·exact(hlbM _ q).2
     ·exact .inr (by omega)
    ·rename_i hb;rw[hcF2 b hb] at ec';obtain⟨p1,p2,o,p3,p4⟩:=r.own b blk cb e hl ec' hv;have hlt':=r.lt_of_own e hl ec' hv;have hnin:=hout b blk cb hb e hl ec' hv;refine⟨?_,p2,o,by rw[hr.keeps.block _ hlt' hnin]; exact p3,p4.mono hle.m (λb cb e=>hgc b cb e)⟩;show g'.M cb.blk=none;cases hm:g'.M cb.blk with
     |none=>rfl
     |some x=>
      rcases hr.src _ _ hm with q|q|q
      ·have q:g.M cb.blk=some x:=q;rw[p1] at q; cases q
      ·omega
      ·exact(hnin q).elim
   hollow:=λb blk cb e hl ec hv=>by
    rw[hF] at e;have ec':cF b=some cb:=ec;split at e
    ·rename_i hb;cases e;rw[ABlk.mapV_live] at hl;rw[hcF1 b hb] at ec';rw[hr.hollow b _ cb (hat b hb) hl ec' hv]; rfl
    ·rename_i hb;rw[hcF2 b hb] at ec';exact r.hollow b blk cb e hl ec' hv
   inj:=λb b' blk blk' cb cb' e1 e2 l1 l2 c1 c2 v1 v2 hblk=>by
    rw[hF] at e1 e2;have c1':cF b=some cb:=c1;have c2':cF b'=some cb':=c2;have cross:∀b b' blk' cb cb',b∈keys→b'∉keys→(hget σ' b).live=true→g'.c b=some cb→cb.virt=false→hq b'=some blk'→blk'.live=true→g.c b'=some cb'→cb'.virt=false→cb.blk=cb'.blk→False:=by
     intro b b' blk' cb cb' hb hb' hl hc hv e' hl' hc' hv' he;obtain⟨_,p2,_⟩:=hr.own b _ cb (hat b hb) hl hc hv;have hlt':=r.lt_of_own e' hl' hc' hv';have hnin:=hout b' blk' cb' hb' e' hl' hc' hv';rcases p2 with q|q
     ·rw[he] at q; exact hnin q
     ·omega
    split at e1
    ·rename_i hb;cases e1;rw[ABlk.mapV_live] at l1;rw[hcF1 b hb] at c1';split at e2
     ·rename_i hb';cases e2;rw[ABlk.mapV_live] at l2;rw[hcF1 b' hb'] at c2';exact hr.inj b b' _ _ cb cb' (hat b hb) (hat b' hb') l1 l2 c1' c2' v1 v2 hblk
     ·rename_i hb';rw[hcF2 b' hb'] at c2';exact(cross b b' blk' cb cb' hb hb' l1 c1' v1 e2 l2 c2' v2 hblk).elim
    ·rename_i hb;rw[hcF2 b hb] at c1';split at e2
     ·rename_i hb';cases e2;rw[ABlk.mapV_live] at l2;rw[hcF1 b' hb'] at c2';exact(cross b' b blk cb' cb hb' hb l2 c2' v2 e1 l1 c1' v1 hblk.symm).elim
     ·rename_i hb';rw[hcF2 b' hb'] at c2';exact r.inj b b' blk blk' cb cb' e1 e2 l1 l2 c1' c2' v1 v2 hblk }
 exact λe g' ρ σ k1 k2 k3 k4=>fin g' ρ σ k1 k2 k3 k4.2
end
end Go.Ah
end
