/- Part of the proof that GameShuffles holds of the program for arguments that together hold at most 1048576 values and letters; no other condition. -/
import Derived.Test.YtpgifcpblbmcbaaGreatDoorP1
import Derived.Orders
import Derived.DataReads
import Derived.ChangeShapes
import Derived.Test.YtpgifcpblbmcbaaGreatDoorProg
import Derived.KernelRfl
set_option linter.all false
section
namespace Go.Ah
section
variable {P:Program} {GL:Globs}
theorem X6(s:List UInt8)(k:IntKind)(i:Int)(h1:0≤i)(h2:i≤s.length)(h0:Hp) :
  OpSem P GL (.sliceStr true false) [.str s,.int k i] h0 (.str (s.drop i.toNat)) [] []:=by
 intro o os hc w0 L g hp w a r hx _ _;obtain⟨t,x,lo,hi,ho,hl1,hl2,rfl,hu⟩:=Qz hc;obtain⟨lo,rfl⟩:∃z,lo=some z:=Option.isSome_iff_exists.1 hl1.symm;obtain rfl:hi=none:=by cases hi<;>first|rfl|cases hl2
 obtain⟨d,d2,_⟩:=hx;obtain⟨s',e1,rfl⟩:=QB d;have hsz:s'.data.toList.length=s'.size:=by simp
 have hrun:(execOp a.eval o).run P w=.ok (.value (.string (s'.extract i.toNat s'.size))) w:=by
  simp only[execOp,ho,e1,Instr.sliceAt,Instr.slice,Sem.run_bind,run_underlying hu,Result.andThen_ok,Option.map_some,Zf d2,Option.map_none,Option.isSome_none,Bool.false_eq_true,if_false,Instr.sliceBounds,Sem.run_pure,Zd k i s'.size _ h1 (by omega)]
 rw[hrun];have:s'.data.toList.drop i.toNat=(s'.extract i.toNat s'.size).data.toList:=by
  rw[ByteArray.data_extract,Array.toList_extract]; simp only[List.extract_eq_take_drop];rw[List.take_of_length_le (by simp)]
 rw[this];exact Out.here r (.str _ _)
theorem Y6(s:List UInt8)(k:IntKind)(i:Int)(h1:0≤i)(h2:i≤s.length)(h0:Hp) :
  OpSem P GL (.sliceStr false true) [.str s,.int k i] h0 (.str (s.take i.toNat)) [] []:=by
 intro o os hc w0 L g hp w a r hx _ _;obtain⟨t,x,lo,hi,ho,hl1,hl2,rfl,hu⟩:=Qz hc;obtain rfl:lo=none:=by cases lo<;>first|rfl|cases hl1
 obtain⟨hi,rfl⟩:∃z,hi=some z:=Option.isSome_iff_exists.1 hl2.symm;obtain⟨d,d2,_⟩:=hx;obtain⟨s',e1,rfl⟩:=QB d;have hsz:s'.data.toList.length=s'.size:=by simp
 have hrun:(execOp a.eval o).run P w=.ok (.value (.string (s'.extract 0 i.toNat))) w:=by
  simp only[execOp,ho,e1,Instr.sliceAt,Instr.slice,Sem.run_bind,run_underlying hu,Result.andThen_ok,Option.map_some,Zf d2,Option.map_none,Option.isSome_none,Bool.false_eq_true,if_false,Instr.sliceBounds,Sem.run_pure,Zd k i s'.size _ h1 (by omega)]
 rw[hrun];have:s'.data.toList.take i.toNat=(s'.extract 0 i.toNat).data.toList:=by
  rw[ByteArray.data_extract,Array.toList_extract]; simp[List.extract]
 rw[this];exact Out.here r (.str _ _)
theorem YE(n by_:Nat)(z:List AVal)(x y:AVal)(rd:List Nat)(h0:Hp)(hx0:x=.nils∨x=.cap0∨(∃b o l e,x=.sl b o l e)∨∃e nn sz rows,x=.rsl e nn sz rows)(hy0:SrcIs h0 n y [] rd) :
  OpSem P GL (.append n by_ z) [x,y] h0 x rd []:=by
 intro o os hc w0 L g h w a r hx hrd _;generalize ho:o.op=op at hc;cases hc with
 |append t t' e ox oy _ _ v _ ht htd hsz hby hz hvs hcells hby0 hn0=>
  obtain⟨d,hd,hni⟩:=htd;obtain⟨d1,d2,_⟩:=hx;generalize hu1:a.eval ox=u1 at d1;generalize hu2:a.eval oy=u2 at d2;obtain⟨p1,len1,cap1,e1,hle⟩:∃p len cap,u1=.slice p len cap∧len≤cap:=by
   rcases hx0 with rfl|rfl|⟨b,o',l,e',rfl⟩|⟨e',nn,sz,rows,rfl⟩
   ·cases d1; exact⟨_,_,_,rfl,Nat.le_refl _⟩
   ·cases d1; exact⟨_,_,_,rfl,Nat.le_refl _⟩
   ·cases d1 with
    |slv=>exact⟨_,_,_,rfl,Nat.le_refl _⟩
    |sl _ _ _ _ _ cb cap ec hv h1=>exact⟨_,_,_,rfl,h1⟩
   ·obtain⟨p,cap,q1,q2,_⟩:=ZE d1; exact⟨p,_,cap,q1,q2⟩
  subst e1;obtain⟨p2,cap2,newv,e2,f2,ra2,_⟩:=ZF (P:=P) r hy0 hrd d2;have hlen2:(Builtin.lenOf u2).run P w=.ok 0 w:=by rw[e2]; rfl
  have hnv:newv.toList=[]:=by have:=ra2.1; simp at this; simp[this]
  have hrun:(Builtin.append_ #[t,t'] o.type #[.slice p1 len1 cap1,u2]).run P w=.ok (.slice p1 len1 cap1) w:=by
   obtain⟨k1,k2⟩:=(Xs ht hd hni hsz hby hz hby0 (base:=p1) (len:=len1) (cap:=cap1) (newv:=newv) hlen2 o.type).1 (by simpa using hle) f2;cases p1 with
   |none=>exact k1 rfl
   |some ad=>exact k2 ad w rfl (by rw[hnv]; rfl)
  rw[Ys ho hu1 hu2 hrun];exact Out.here r d1
theorem OpSem.weak{k:MK}{x x':AVal}{xs:List AVal}{h0:Hp}{v:AVal}{rd:List Nat}{up:List (Nat×ABlk)}(hw:∀(g:Gm) (u:Value),g.den x u→g.den x' u)(h:OpSem P GL k (x'::xs) h0 v rd up):OpSem P GL k (x::xs) h0 v rd up:=by
 intro o os hc w0 L g hp w a r hx hrd hup;refine h o os hc w0 L g hp w a r ?_ hrd hup;generalize os.map a.eval=vs at hx;cases vs with
 |nil=>exact hx
 |cons v vs=>exact⟨hw g v hx.1,hx.2⟩
theorem XaP(x y:AVal)(h0:Hp):OpSem P GL .pick [.bool true,x,y] h0 x [] []:=by
 intro o os hc w0 L g h w a r hx _ _;generalize ho:o.op=op at hc;cases hc with
 |pick oc oa ob=>
  obtain⟨d1,d2,d3,_⟩:=hx;have e1:=Yj d1;have hrun:(execOp a.eval o).run P w=.ok (.value (a.eval oa)) w:=by
   simp only[execOp,ho,e1,asBool];simp
  rw[hrun];exact Out.here r d2
theorem QaP(x y:AVal)(h0:Hp):OpSem P GL .pick [.bool false,x,y] h0 y [] []:=by
 intro o os hc w0 L g h w a r hx _ _;generalize ho:o.op=op at hc;cases hc with
 |pick oc oa ob=>
  obtain⟨d1,d2,d3,_⟩:=hx;have e1:=Yj d1;have hrun:(execOp a.eval o).run P w=.ok (.value (a.eval ob)) w:=by
   simp only[execOp,ho,e1,asBool];simp
  rw[hrun];exact Out.here r d3
theorem Qt{g:Gm}{b off len:Nat}{ex:Bool}{cb:CB}{p:Option Addr}{len' cap:Nat}(ec:g.c b=some cb)(d:g.den (.sl b off len ex) (.slice p len' cap)) :
  len'=len∧len≤cap∧(ex=true→cap=len)∧∀ {l h:Nat},l≤h→h≤cap→∀ex':Bool,(ex'=true→cap=h)→(l<h∨(l=0)) →
   g.den (.sl b (off+l) (h-l) ex') (.slice (if cap=l then p else p.map (·.add (l*cb.sz))) (h-l) (cap-l)):=by
 cases d with
 |slv _ _ _ cb' _ ec' hv=>
  rw[ec] at ec'; cases ec';refine⟨rfl,Nat.le_refl _,λ_=>rfl,λ{l h} hl hh ex' hex hs=>?_⟩;have:h=0:=by omega
  subst this;have:l=0:=by omega
  subst this;exact .slv _ _ _ cb _ ec hv
 |sl _ _ _ _ _ cb' _ ec' hv h1 h2 h3=>
  rw[ec] at ec'; cases ec';refine⟨rfl,h1,h3,λ{l h} hl hh ex' hex hs=>?_⟩;have hadd:(if cap=l then some (⟨cb.blk,off*cb.sz,none⟩:Addr) else (some (⟨cb.blk,off*cb.sz,none⟩:Addr)).map (·.add (l*cb.sz)))=some ⟨cb.blk,(off+l)*cb.sz,none⟩:=by
   split
   ·have:l=0:=by omega
    subst this; simp
   ·simp[Qq,Nat.add_mul]
  rw[hadd];refine .sl _ _ _ _ _ cb _ ec hv (by omega) ?_ (λe=>by rw[hex e]);rw[show off+l+(cap-l)=off+cap by omega]; exact h2
theorem Ya6{w0:World}{L:Ln}{g:Gm}{h:Hp}{w:World}(r:Rep GL w0 L g h w){b n off len cap:Nat}{ex:Bool}{rs:List (List AVal)}{p:Option Addr}(hb:h b=some (.rows n rs))(hn0:n≠0)(d:g.den (.sl b off len ex) (.slice p len cap)):rs.length≤off+cap:=by
 cases d with
 |slv _ _ _ cb p ec hv=>have:=(r.virtRows hb ec hv).2; subst this; simp
 |sl _ _ _ _ _ cb cap ec hv h1 h2 h3=>exact ZaI r hb hn0 ec hv h2
theorem XD{g:Gm}{b off len:Nat}{ex:Bool}{v:Value}(d:g.den (.sl b off len ex) v):∃cb p cap,g.c b=some cb∧v=.slice p len cap∧(p=none→cap=0):=by
 cases d with
 |slv _ _ _ cb p ec hv=>exact⟨cb,p,0,ec,rfl,λ_=>rfl⟩
 |sl _ _ _ _ _ cb cap ec=>exact⟨cb,_,cap,ec,rfl,λe=>by cases e⟩
theorem Xa6{w0:World}{L:Ln}{g:Gm}{h:Hp}{w:World}(r:Rep GL w0 L g h w){b sz:Nat}{rs:List (List AVal)}{cb:CB}(hb:h b=some (.rows sz rs))(ec:g.c b=some cb):cb.sz=sz:=by
 cases hv:cb.virt with
 |true=>have:=r.hollow b _ cb hb rfl ec hv; cases this; rfl
 |false=>exact(r.rowsBlk hb ec hv).1
theorem ZX(ex:Bool)(sz b off len:Nat)(rs:List (List AVal))(k:IntKind)(i:Int)(h1:0≤i)(h2:i<len)(h0:Hp)(hb:h0 b=some (.rows sz rs)) :
  OpSem P GL (.sliceS sz true false false) [.sl b off len ex,.int k i] h0 (.sl b (off+i.toNat) (len-i.toNat) ex) [b] []:=by
 intro o os hc w0 L g hp w a r hx hrd _;obtain⟨t,x,lo,hi,mx,e,ho,hl1,hl2,hl3,rfl,hu,hn⟩:=Zi hc;obtain⟨lo,rfl⟩:∃z,lo=some z:=Option.isSome_iff_exists.1 hl1.symm;obtain rfl:hi=none:=by cases hi<;>first|rfl|cases hl2
 obtain rfl:mx=none:=by cases mx<;>first|rfl|cases hl3
 obtain⟨d,d2,_⟩:=hx;obtain⟨cb,p,cap,ec,hv,_⟩:=XD d;have hsz:=Xa6 r ((hrd b (by simp)).trans hb) ec;rw[hv] at d;obtain⟨_,hc1,hc2,hcut⟩:=Qt ec d;have hb:(Instr.sliceBounds true len cap (some (.int k i)) none none).run P w=.ok (i.toNat,len,cap) w:=by
  simp only[Instr.sliceBounds,Sem.run_bind,Sem.run_pure,Result.andThen_ok,Zd k i len _ h1 (by omega)]
 rw[Qj ho hu hn hv (l:=i.toNat) (h:=len) (m:=cap) (by simpa[Zf d2] using hb)];rw[←hsz];exact Out.here r (hcut (by omega) hc1 ex hc2 (by omega))
theorem YS(ex:Bool)(sz b off len:Nat)(k:IntKind)(i:Int)(h1:i=len)(h0:Hp) :
  OpSem P GL (.sliceS sz true false false) [.sl b off len ex,.int k i] h0 (.rsl false (Nat.blt 0 len) sz []) [] []:=by
 intro o os hc w0 L g hp w a r hx hrd _;obtain⟨t,x,lo,hi,mx,e,ho,hl1,hl2,hl3,rfl,hu,hn⟩:=Zi hc;obtain⟨lo,rfl⟩:∃z,lo=some z:=Option.isSome_iff_exists.1 hl1.symm;obtain rfl:hi=none:=by cases hi<;>first|rfl|cases hl2
 obtain rfl:mx=none:=by cases mx<;>first|rfl|cases hl3
 obtain⟨d,d2,_⟩:=hx;obtain⟨cb,p,cap,ec,hv,hnone⟩:=XD d;rw[hv] at d;have hsome:Nat.blt 0 len=true→p.isSome=true:=by
  intro e;generalize hq:(Value.slice p len cap)=q at d;cases d with
  |sl=>cases hq; rfl
  |slv=>cases hq; cases e
 obtain⟨_,hc1,hc2,_⟩:=Qt ec d;have hb:(Instr.sliceBounds true len cap (some (.int k i)) none none).run P w=.ok (i.toNat,len,cap) w:=by
  simp only[Instr.sliceBounds,Sem.run_bind,Sem.run_pure,Result.andThen_ok,Zd k i len _ (by omega) (by omega)]
 rw[Qj ho hu hn hv (l:=i.toNat) (h:=len) (m:=cap) (by simpa[Zf d2] using hb)];refine Out.here r ?_;rw[show len-i.toNat=([]:List (List AVal)).length by simp; omega];refine .rsl _ _ _ _ [] _ _ 0 0 (λ_ _=>undef) (by simp) (λe=>by have:=hsome e; split<;>simp[this]) (by simp) (λe=>?_) (by simp) (by simp) (by simp) (by simp);split at e
 ·omega
 ·simp at e; have:=hnone e; omega
theorem ZS(sz:Nat)(k:IntKind)(h0:Hp):OpSem P GL (.sliceS sz true false false) [.nils,.int k 0] h0 .nils [] []:=by
 intro o os hc w0 L g hp w a r hx hrd _;obtain⟨t,x,lo,hi,mx,e,ho,hl1,hl2,hl3,rfl,hu,hn⟩:=Zi hc;obtain⟨lo,rfl⟩:∃z,lo=some z:=Option.isSome_iff_exists.1 hl1.symm;obtain rfl:hi=none:=by cases hi<;>first|rfl|cases hl2
 obtain rfl:mx=none:=by cases mx<;>first|rfl|cases hl3
 obtain⟨d,d2,_⟩:=hx;have hv:a.eval x=.slice none 0 0:=by
  generalize a.eval x=u at d;cases d; rfl
 have hb:(Instr.sliceBounds true 0 0 (some (.int k 0)) none none).run P w=.ok (0,0,0) w:=by
  simp only[Instr.sliceBounds,Sem.run_bind,Sem.run_pure,Result.andThen_ok,Zd k 0 0 _ (by omega) (by omega)];rfl
 rw[Qj ho hu hn hv (l:=0) (h:=0) (m:=0) (by simpa[Zf d2] using hb)];exact Out.here r (.nils _)
theorem QR(sz:Nat)(k:IntKind)(h0:Hp):OpSem P GL (.sliceS sz false true false) [.nils,.int k 0] h0 .nils [] []:=by
 intro o os hc w0 L g hp w a r hx hrd _;obtain⟨t,x,lo,hi,mx,e,ho,hl1,hl2,hl3,rfl,hu,hn⟩:=Zi hc;obtain rfl:lo=none:=by cases lo<;>first|rfl|cases hl1
 obtain⟨hi,rfl⟩:∃z,hi=some z:=Option.isSome_iff_exists.1 hl2.symm;obtain rfl:mx=none:=by cases mx<;>first|rfl|cases hl3
 obtain⟨d,d2,_⟩:=hx;have hv:a.eval x=.slice none 0 0:=by
  generalize a.eval x=u at d;cases d; rfl
 have hb:(Instr.sliceBounds true 0 0 none (some (.int k 0)) none).run P w=.ok (0,0,0) w:=by
  simp only[Instr.sliceBounds,Sem.run_bind,Sem.run_pure,Result.andThen_ok,Zd k 0 0 _ (by omega) (by omega)];rfl
 rw[Qj ho hu hn hv (l:=0) (h:=0) (m:=0) (by simpa[Zf d2] using hb)];exact Out.here r (.nils _)
theorem QW(ex:Bool)(sz b off len:Nat)(rs:List (List AVal))(k:IntKind)(i:Int)(h1:0≤i)(h2:i≤len)(h0:Hp)(hb:h0 b=some (.rows sz rs)) :
  OpSem P GL (.sliceS sz false true false) [.sl b off len ex,.int k i] h0 (.sl b off i.toNat false) [b] []:=by
 intro o os hc w0 L g hp w a r hx hrd _;obtain⟨t,x,lo,hi,mx,e,ho,hl1,hl2,hl3,rfl,hu,hn⟩:=Zi hc;obtain rfl:lo=none:=by cases lo<;>first|rfl|cases hl1
 obtain⟨hi,rfl⟩:∃z,hi=some z:=Option.isSome_iff_exists.1 hl2.symm;obtain rfl:mx=none:=by cases mx<;>first|rfl|cases hl3
 obtain⟨d,d2,_⟩:=hx;obtain⟨cb,p,cap,ec,hv,_⟩:=XD d;have hsz:=Xa6 r ((hrd b (by simp)).trans hb) ec;rw[hv] at d;obtain⟨_,hc1,hc2,hcut⟩:=Qt ec d;have hb:(Instr.sliceBounds true len cap none (some (.int k i)) none).run P w=.ok (0,i.toNat,cap) w:=by
  simp only[Instr.sliceBounds,Sem.run_bind,Sem.run_pure,Result.andThen_ok,Zd k i cap _ h1 (by omega)]
 rw[Qj ho hu hn hv (l:=0) (h:=i.toNat) (m:=cap) (by simpa[Zf d2] using hb)];rw[←hsz];have:=hcut (l:=0) (h:=i.toNat) (by omega) (by omega) false (by simp) (.inr rfl);exact Out.here r this
theorem QO(ex:Bool)(sz b off len:Nat)(rs:List (List AVal))(k k':IntKind)(i j:Int)(h1:0≤i)(h2:i<j∨(i=0∧0≤j))(h3:j≤len∨(sz≠0∧off+j.toNat≤rs.length))(h0:Hp)(hb:h0 b=some (.rows sz rs)) :
  OpSem P GL (.sliceS sz true true false) [.sl b off len ex,.int k i,.int k' j] h0 (.sl b (off+i.toNat) (j.toNat-i.toNat) false) [b] []:=by
 intro o os hc w0 L g hp w a r hx hrd _;obtain⟨t,x,lo,hi,mx,e,ho,hl1,hl2,hl3,rfl,hu,hn⟩:=Zi hc;obtain⟨lo,rfl⟩:∃z,lo=some z:=Option.isSome_iff_exists.1 hl1.symm;obtain⟨hi,rfl⟩:∃z,hi=some z:=Option.isSome_iff_exists.1 hl2.symm;obtain rfl:mx=none:=by cases mx<;>first|rfl|cases hl3
 obtain⟨d,d2,d3,_⟩:=hx;obtain⟨cb,p,cap,ec,hv,_⟩:=XD d;have hsz:=Xa6 r ((hrd b (by simp)).trans hb) ec;rw[hv] at d;obtain⟨_,hc1,hc2,hcut⟩:=Qt ec d;have hjc:j≤cap:=by
  rcases h3 with h3|⟨h3,h4⟩
  ·omega
  ·have:=Ya6 r ((hrd b (by simp)).trans hb) h3 d;omega
 have hb:(Instr.sliceBounds true len cap (some (.int k i)) (some (.int k' j)) none).run P w=.ok (i.toNat,j.toNat,cap) w:=by
  simp only[Instr.sliceBounds,Sem.run_bind,Sem.run_pure,Result.andThen_ok,Zd k' j cap _ (by omega) (by omega),Zd k i j.toNat _ h1 (by omega)]
 rw[Qj ho hu hn hv (l:=i.toNat) (h:=j.toNat) (m:=cap) (by simpa[Zf d2,Zf d3] using hb)];rw[←hsz];exact Out.here r (hcut (by omega) (by omega) false (by simp) (by omega))
theorem Q6(ex:Bool)(sz b off len:Nat)(k k' k'':IntKind)(i j m:Int)(h1:0≤i)(h2:i≤j)(h3:j≤m)(h4:m≤len)(h0:Hp) :
  OpSem P GL (.sliceS sz true true true) [.sl b off len ex,.int k i,.int k' j,.int k'' m] h0 .junk [] []:=by
 intro o os hc w0 L g hp w a r hx hrd _;obtain⟨t,x,lo,hi,mx,e,ho,hl1,hl2,hl3,rfl,hu,hn⟩:=Zi hc;obtain⟨lo,rfl⟩:∃z,lo=some z:=Option.isSome_iff_exists.1 hl1.symm;obtain⟨hi,rfl⟩:∃z,hi=some z:=Option.isSome_iff_exists.1 hl2.symm;obtain⟨mx,rfl⟩:∃z,mx=some z:=Option.isSome_iff_exists.1 hl3.symm;obtain⟨d,d2,d3,d4,_⟩:=hx;obtain⟨cb,p,cap,ec,hv,_⟩:=XD d;rw[hv] at d;obtain⟨_,hc1,hc2,hcut⟩:=Qt ec d;have hb:(Instr.sliceBounds true len cap (some (.int k i)) (some (.int k' j)) (some (.int k'' m))).run P w=.ok (i.toNat,j.toNat,m.toNat) w:=by
  simp only[Instr.sliceBounds,Sem.run_bind,Sem.run_pure,Result.andThen_ok,Zd k'' m cap _ (by omega) (by omega),Zd k' j m.toNat _ (by omega) (by omega),Zd k i j.toNat _ h1 (by omega)]
 rw[Qj ho hu hn hv (l:=i.toNat) (h:=j.toNat) (m:=m.toNat) (by simpa[Zf d2,Zf d3,Zf d4] using hb)];exact Out.here r (.junk _ _)
theorem Q8(sz:Nat)(x:AVal)(hx0:x=.nils∨x=.cap0∨(∃b o l e,x=.sl b o l e)∨∃e nn s rows,x=.rsl e nn s rows)(k k':IntKind)(h0:Hp) :
  OpSem P GL (.sliceS sz false true true) [x,.int k 0,.int k' 0] h0 .cap0 [] []:=by
 intro o os hc w0 L g hp w a r hx hrd _;obtain⟨t,y,lo,hi,mx,e,ho,hl1,hl2,hl3,rfl,hu,hn⟩:=Zi hc;obtain rfl:lo=none:=by cases lo<;>first|rfl|cases hl1
 obtain⟨hi,rfl⟩:∃z,hi=some z:=Option.isSome_iff_exists.1 hl2.symm;obtain⟨mx,rfl⟩:∃z,mx=some z:=Option.isSome_iff_exists.1 hl3.symm;obtain⟨d,d2,d3,_⟩:=hx;have hsh:∃p len cap,a.eval y=.slice p len cap:=by
  generalize hu1:a.eval y=u1 at d;rcases hx0 with rfl|rfl|⟨_,_,_,_,rfl⟩|⟨_,_,_,_,rfl⟩
  ·cases d; exact⟨_,_,_,rfl⟩
  ·cases d; exact⟨_,_,_,rfl⟩
  ·cases d<;>exact⟨_,_,_,rfl⟩
  ·cases d; exact⟨_,_,_,rfl⟩
 obtain⟨p,len,cap,hv⟩:=hsh;have hb:(Instr.sliceBounds true len cap none (some (.int k 0)) (some (.int k' 0))).run P w=.ok (0,0,0) w:=by
  simp only[Instr.sliceBounds,Sem.run_bind,Sem.run_pure,Result.andThen_ok,Zd k' 0 cap _ (by omega) (by omega),Zd k 0 _ _ (by omega) (by omega)];rfl
 rw[Qj ho hu hn hv (l:=0) (h:=0) (m:=0) (by simpa[Zf d2,Zf d3] using hb)];exact Out.here r (.cap0 _ _)
end
theorem Xi{α:Type}{b:Bool}{x:Option α}{v:α}(h:(bif b then x else none)=some v):b=true∧x=some v:=by
 cases b
 ·cases h
 ·exact⟨rfl,h⟩
theorem Yr{α:Type}{b:Bool}{x y v:α}(h:(bif b then x else y)=v):(b=true∧x=v)∨(b=false∧y=v):=by
 cases b
 ·exact .inr ⟨rfl,h⟩
 ·exact .inl ⟨rfl,h⟩
def Zah:Bool→AVal→Bool
 |true,.str _=>true
 |false,.int _ _=>true
 |_,_=>false
theorem Zab{s:Bool}{k:AVal}(h:Zah s k=true):KeyKind s k:=by
 cases s<;>cases k<;>simp_all [Zah,KeyKind]
def Qv:List (List AVal)→Bool
 |[]=>true
 |r::rs=>r.all AVal.cell&&Qv rs
theorem XA:∀ {rs:List (List AVal)},Qv rs=true→∀row∈rs,∀x∈row,AVal.cell x=true
 |[],_,_,hm,_,_=>by cases hm
 |r::rs,h,row,hm,x,hx=>by
  simp only[Qv,Bool.and_eq_true] at h;cases hm with
  |head=>exact List.all_eq_true.1 h.1 x hx
  |tail _ hm=>exact XA h.2 row hm x hx
def QE(sz:Nat)(σ:List ABlk):AVal→Option (List (List AVal)×List Nat)
 |.rsl _ _ s rows=>bif Nat.beq s sz then some (rows,[]) else none
 |.nils=>some ([],[])
 |.cap0=>some ([],[])
 |.sl b off len _=>match hget σ b with
  |.rows s rs=>bif Nat.beq s sz&&Nat.ble (off+len) rs.length then some (cut off (off+len) rs,[b]) else none
  |_=>none
 |_=>none
theorem Yy{sz:Nat}{σ:List ABlk}{y:AVal}{ys:List (List AVal)}{rd:List Nat}(h:QE sz σ y=some (ys,rd)):SrcIs (hp σ) sz y ys rd:=by
 unfold QE at h;split at h
 ·replace h:=Xi h; obtain⟨hb,h⟩:=h
  have:=YNB hb; subst this;cases h; exact .row _ _ _
 ·cases h; exact .nils
 ·cases h; exact .cap0
 ·split at h
  ·rename_i hg
   replace h:=Xi h; obtain⟨hb,h⟩:=h
   simp only[Bool.and_eq_true] at hb;have:=YNB hb.1;subst this;cases h;exact .own _ _ _ _ _ (ZK hg (by simp)) (YNL hb.2)
  ·cases h
 ·cases h
def QaB:AVal→AVal
 |.rsl true _ _ []=>.cap0
 |x=>x
theorem Qy(x:AVal)(g:Gm)(u:Value)(d:g.den x u):g.den (QaB x) u:=by
 unfold QaB;split
 ·obtain⟨p,cap,q1,_,q3⟩:=ZE d;have:=q3 rfl;rw[q1,this];exact .cap0 _ _
 ·exact d
def X3:AVal→Bool
 |.nils=>true
 |.cap0=>true
 |.sl ..=>true
 |.rsl ..=>true
 |_=>false
theorem ZR{x:AVal}(h:X3 x=true):x=.nils∨x=.cap0∨(∃b o l e,x=.sl b o l e)∨∃e nn sz rows,x=.rsl e nn sz rows:=by
 cases x<;>simp_all [X3]
def mapOf(σ:List ABlk):AVal→Option (List (AVal×AVal)×List Nat)
 |.map b=>match hget σ b with
  |.map es=>some (es,[b])
  |_=>none
 |.rmap es=>some (es,[])
 |.nilmap=>some ([],[])
 |_=>none
theorem Xbh{σ:List ABlk}{m:AVal}{es:List (AVal×AVal)}{rd:List Nat}(h:mapOf σ m=some (es,rd)):MapIs (hp σ) m es rd:=by
 unfold mapOf at h;split at h
 ·split at h
  ·rename_i hg; cases h; exact .own _ _ (ZZ hg)
  ·cases h
 ·cases h; exact .row _
 ·cases h; exact .nil
 ·cases h
def XB(xs:List AVal)(σ:List ABlk):SRes:=match xs with
  |[.bool true,x,_]=>.ok x [] []
  |[.bool false,_,y]=>.ok y [] []
  |_=>.stop
def Qa(sz:Nat)(xs:List AVal)(σ:List ABlk):SRes:=match xs with
  | [.rsl e n s rows,.int _ (.ofNat i)]=>bif Nat.beq s sz then (match nth rows i with
   |some row=>.ok (.rptr row 0) [] []
   | none=>.stop) else .stop
  | [.sl b o len _,.int _ (.ofNat i)]=>bif Nat.blt i len then (match hget σ b with
   |.rows s _=>bif Nat.beq s sz then .ok (.ptr b (o+i) 0) [b] [] else .stop
   | _=>.stop) else .stop
  |_=>.stop
def QF(xs:List AVal)(σ:List ABlk):SRes:=match xs with
  |[.str s,.int _ (.ofNat i)]=>match nth s i with
   |some c=>.ok (.int .u8 c.toNat) [] []
   |none=>.stop
  |_=>.stop
def Xb(agg:Bool)(n:Nat)(xs:List AVal)(σ:List ABlk):SRes:=match xs with
  |[.ptr b i j]=>match hget σ b with
   |.rows _ rs=>match nth rs i with
    |some row=>match partA agg j n row with
     |some v=>.ok v [b] []
     |none=>.stop
    |none=>.stop
   |_=>.stop
  |xs=>mstep (.load agg n) xs σ
def Xa(n:Nat)(xs:List AVal)(σ:List ABlk):SRes:=match xs with
  |[.ptr b i j,x]=>match hget σ b with
   |.rows sz rs=>match nth rs i with
    |some row=>match cellsOf x with
     | some cs=>bif Nat.beq cs.length n then (match splice j cs row with
      |some row'=>match Yn i row' rs with
       |some rs'=>.ok .junk [] [(b,.rows sz rs')]
       |none=>.stop
      | none=>.stop) else .stop
     |none=>.stop
    |none=>.stop
   |_=>.stop
  |xs=>mstep (.store n) xs σ
def Yz(sz:Nat)(xs:List AVal)(σ:List ABlk):SRes:=match xs with
  |[.rsl e n s rows,.int _ (.ofNat i)]=>bif Nat.beq s sz&&Nat.ble i rows.length then .ok (.rsl e n sz (cut i rows.length rows)) [] [] else .stop
  |[.sl b off len e,.int _ (.ofNat i)]=>match hget σ b with
   |.rows s _=>bif Nat.beq s sz then (bif Nat.blt i len then .ok (.sl b (off+i) (len-i) e) [b] [] else bif Nat.beq i len then .ok (.rsl false (Nat.blt 0 len) sz []) [] [] else .stop) else .stop
   |_=>.stop
  |[.nils,.int _ (.ofNat 0)]=>.ok .nils [] []
  |_=>.stop
def Yx(sz:Nat)(xs:List AVal)(σ:List ABlk):SRes:=match xs with
  |[.rsl e n s rows,.int _ (.ofNat i)]=>bif Nat.beq s sz&&Nat.ble i rows.length then .ok (.rsl false n sz (cut 0 i rows)) [] [] else .stop
  |[.sl b off len e,.int _ (.ofNat i)]=>match hget σ b with
   |.rows s _=>bif Nat.beq s sz&&Nat.ble i len then .ok (.sl b off i false) [b] [] else .stop
   |_=>.stop
  |[.nils,.int _ (.ofNat 0)]=>.ok .nils [] []
  |_=>.stop
def Z1(sz:Nat)(xs:List AVal)(σ:List ABlk):SRes:=match xs with
  |[.rsl e n s rows,.int _ (.ofNat i),.int _ (.ofNat j)]=>bif Nat.beq s sz&&(Nat.ble i j&&Nat.ble j rows.length) then .ok (.rsl false n sz (cut i j rows)) [] [] else .stop
  |[.sl b off len e,.int _ (.ofNat i),.int _ (.ofNat j)]=>match hget σ b with
   |.rows s rs=>bif Nat.beq s sz&&((Nat.blt i j||Nat.beq i 0)&&(Nat.ble j len||(!(Nat.beq sz 0)&&Nat.ble (off+j) rs.length))) then .ok (.sl b (off+i) (j-i) false) [b] [] else .stop
   |_=>.stop
  |_=>.stop
def YQ(xs:List AVal)(σ:List ABlk):SRes:=match xs with
  |[.str s,.int _ (.ofNat i),.int _ (.ofNat j)]=>bif Nat.ble i j&&Nat.ble j s.length then .ok (.str ((s.take j).drop i)) [] [] else .stop
  |_=>.stop
def XJ(xs:List AVal)(σ:List ABlk):SRes:=match xs with
  |[.str s,.int _ (.ofNat i)]=>bif Nat.ble i s.length then .ok (.str (s.drop i)) [] [] else .stop
  |_=>.stop
def X1(xs:List AVal)(σ:List ABlk):SRes:=match xs with
  |[.str s,.int _ (.ofNat i)]=>bif Nat.ble i s.length then .ok (.str (s.take i)) [] [] else .stop
  |_=>.stop
def Yav(n:Nat)(by_:Nat)(z:List AVal)(xs:List AVal)(σ:List ABlk):SRes:=match xs with
  |[.int _ (.ofNat len)]=>bif Nat.ble (by_*len) (2 ^ 48)&&Nat.blt len (2 ^ 62) then .ok (.sl σ.length 0 len true) [] [(σ.length,.rows n (List.replicate len z))] else .stop
  |_=>.stop
def Z0(n by_:Nat)(σ:List ABlk)(rs:List (List AVal))(kill:List (Nat×ABlk))(y:AVal):SRes:=match QE n σ y with
 |some (ys,rd)=>bif Qv ys&&Nat.ble ((2*(rs.length+ys.length)+192)*by_) (2 ^ 48) then
   .ok (.sl σ.length 0 (rs.length+ys.length) false) rd (kill++[(σ.length,.rows n (rs++ys))]) else .stop
 |none=>.stop
def YaS(n by_:Nat)(σ:List ABlk)(b off len:Nat)(rs:List (List AVal))(y:AVal):SRes:=match QE n σ y with
 | some (ys,rd)=>bif Qv ys then (bif Nat.ble (off + len + ys.length) rs.length then .ok (.sl b off (len + ys.length) false) rd [(b,.rows n (over (off + len) ys rs))]
   else bif Nat.beq off 0&&(Nat.ble len rs.length&&(!(rd.contains b)&&Nat.ble ((2*(len+ys.length)+192)*by_) (2 ^ 48))) then
    .ok (.sl σ.length 0 (len + ys.length) false) rd [(b,.dead),(σ.length,.rows n (rs.take len ++ ys))] else .stop) else .stop
 |none=>.stop
def Zg(n:Nat)(by_:Nat)(xs:List AVal)(σ:List ABlk):SRes:=match xs with
  |[x,y]=>match QaB x with
   |.nils=>Z0 n by_ σ [] [] y
   |.cap0=>match QE n σ y with
    |some ([],rd)=>bif X3 x then .ok x rd [] else .stop
    |_=>Z0 n by_ σ [] [] y
   |.sl b off len _=>match hget σ b with
    |.rows s rs=>bif Nat.beq s n then (bif Nat.beq off 0&&Nat.beq rs.length len then Z0 n by_ σ rs [(b,.dead)] y else YaS n by_ σ b off len rs y) else .stop
    |_=>.stop
   |x=>match QE n σ y with
    |some ([],rd)=>bif X3 x then .ok x rd [] else .stop
    |_=>.stop
  |_=>.stop
def Q0(n:Nat)(z:List AVal)(xs:List AVal)(σ:List ABlk):SRes:=match xs with
  |[.sl b off len _]=>match hget σ b with
   |.rows s rs=>bif Nat.beq s n&&Nat.ble (off+len) rs.length then .ok .junk [] [(b,.rows n (over off (List.replicate len z) rs))] else .stop
   |_=>.stop
  |[.nils]=>.ok .junk [] []
  |[.cap0]=>.ok .junk [] []
  |[.rsl _ _ _ []]=>.ok .junk [] []
  |_=>.stop
def ZN(xs:List AVal)(σ:List ABlk):SRes:=match xs with
  |[.sl _ _ len _,.int _ (.ofNat i),.int _ (.ofNat j),.int _ (.ofNat m)]=>bif Nat.ble i j&&(Nat.ble j m&&Nat.ble m len) then .ok .junk [] [] else .stop
  |_=>.stop
def Y1(xs:List AVal)(σ:List ABlk):SRes:=match xs with
  |[x,.int _ (.ofNat 0),.int _ (.ofNat 0)]=>bif X3 x then .ok .cap0 [] [] else .stop
  |_=>.stop
def Yk(str:Bool)(ok:Bool)(z:AVal)(xs:List AVal)(σ:List ABlk):SRes:=match xs with
  | [m,q]=>bif Zah str q then (match mapOf σ m with
   |some (es,rd)=>match alook q es with
    |some r=>.ok (lookV ok z r) rd []
    |none=>.stop
   | none=>.stop) else .stop
  |_=>.stop
def Xn(str:Bool)(xs:List AVal)(σ:List ABlk):SRes:=match xs with
  | [.map b,q,x]=>bif Zah str q then (match hget σ b with
   |.map es=>match aput q x es with
    |some es'=>.ok .junk [] [(b,.map es')]
    |none=>.stop
   | _=>.stop) else .stop
  |_=>.stop
def QaT(xs:List AVal)(σ:List ABlk):SRes:=match xs with
  |[.iter b]=>match hget σ b with
   |.siter s pos=>bif Nat.blt pos s.length then .ok (.tup [.bool true,.int .i64 pos,.int .i32 (Utf8.decode ⟨s.toArray⟩ pos).1]) [] [(b,.siter s (pos+(Utf8.decode ⟨s.toArray⟩ pos).2))]
    else .ok (.tup [.bool false]) [b] []
   |_=>.stop
  |_=>.stop
def cstep(k:MK)(xs:List AVal)(σ:List ABlk):SRes:=
 match k with
 |.pick=>XB xs σ
 |.idxAddrS sz=>Qa sz xs σ
 |.idxStr=>QF xs σ
 |.load agg n=>Xb agg n xs σ
 |.store n=>Xa n xs σ
 |.sliceS sz true false false=>Yz sz xs σ
 |.sliceS sz false true false=>Yx sz xs σ
 |.sliceS sz true true false=>Z1 sz xs σ
 |.sliceS _ true true true=>ZN xs σ
 |.sliceS _ false true true=>Y1 xs σ
 |.clearS n z=>Q0 n z xs σ
 |.sliceStr true true=>YQ xs σ
 |.sliceStr true false=>XJ xs σ
 |.sliceStr false true=>X1 xs σ
 |.makeS n by_ z=>Yav n by_ z xs σ
 |.append n by_ _=>Zg n by_ xs σ
 |.lookup str ok z=>Yk str ok z xs σ
 |.mapUpd str=>Xn str xs σ
 |.next=>QaT xs σ
 |k=>mstep k xs σ
theorem Xae{α:Type}:∀ {l l':List α} {i:Nat} {c:α},Yn i c l=some l'→l'=l.set i c
 |[],_,_,_,h=>by simp[Yn] at h
 |x::l,l',0,c,h=>by simp[Yn] at h; subst h; rfl
 |x::l,l',i+1,c,h=>by
  simp only[Yn] at h;cases e:Yn i c l with
  |none=>simp[e] at h
  |some r=>simp[e] at h; subst h; rw[Xae e]; rfl
theorem Ym{σ:List ABlk}{b sz:Nat}{rs:List (List AVal)}(h:hget σ b=.rows sz rs):hp σ b=some (.rows sz rs):=ZK h (by simp)
theorem ZQ{P:Program}{GL:Globs}{n by_:Nat}{z:List AVal}{σ:List ABlk}{x:AVal}{rs:List (List AVal)}{kill:List (Nat×ABlk)}{y v:AVal}{rd:List Nat}{up:List (Nat×ABlk)}(hx:VecIs (hp σ) n x rs kill)(h:Z0 n by_ σ rs kill y=.ok v rd up):OpSem P GL (.append n by_ z) [x,y] (hp σ) v rd up:=by
 unfold Z0 at h;split at h
 ·rename_i hy
  replace h:=Yd h; obtain⟨hs,h⟩:=h
  simp only[Bool.and_eq_true] at hs;cases h;exact Yae _ _ _ _ _ _ _ _ _ _ _ (XN σ) hx (Yy hy) (XA hs.1) (YNL hs.2)
 ·cases h
theorem XaS{P:Program}{GL:Globs}{n by_:Nat}{z:List AVal}{σ:List ABlk}{b off len:Nat}{ex:Bool}{rs:List (List AVal)}{y v:AVal}{rd:List Nat}{up:List (Nat×ABlk)}(hb:hp σ b=some (.rows n rs))(h:YaS n by_ σ b off len rs y=.ok v rd up):OpSem P GL (.append n by_ z) [.sl b off len ex,y] (hp σ) v rd up:=by
 unfold YaS at h;split at h
 ·rename_i hy
  replace h:=Yd h; obtain⟨hc,h⟩:=h
  replace h:=Yr h
  rcases h with ⟨hs,h⟩|⟨_,h⟩
  ·cases h;exact Zaj _ _ _ _ _ _ _ _ _ _ _ _ hb (Yy hy) (XA hc) (YNL hs)
  ·replace h:=Yd h; obtain⟨hs,h⟩:=h
   simp only[Bool.and_eq_true,Bool.not_eq_true'] at hs;have:=YNB hs.1; subst this;cases h;exact Y8 _ _ _ _ _ _ _ _ _ _ _ _ (XN σ) hb (YNL hs.2.1) (Yy hy) (by simpa using hs.2.2.1) (XA hc) (YNL hs.2.2.2)
 ·cases h
theorem Zav{P:Program}{GL:Globs}{n by_:Nat}{z:List AVal}{xs:List AVal}{σ:List ABlk}{v:AVal}{rd:List Nat}{up:List (Nat×ABlk)}(h:Zg n by_ xs σ=.ok v rd up):OpSem P GL (.append n by_ z) xs (hp σ) v rd up:=by
 unfold Zg at h;split at h
 ·rename_i x y;split at h
  ·rename_i hx; refine OpSem.weak (Qy x) ?_; rw[hx]; exact ZQ .nils h
  ·rename_i hx;split at h
   ·rename_i hy
    replace h:=Yd h; obtain⟨hs,h⟩:=h
    cases h;exact YE _ _ _ _ _ _ _ (ZR hs) (Yy hy)
   ·refine OpSem.weak (Qy x) ?_; rw[hx]; exact ZQ .cap0 h
  ·rename_i b off len ex hx;refine OpSem.weak (Qy x) ?_;rw[hx];split at h
   ·rename_i s rs hg
    replace h:=Yd h; obtain⟨hs,h⟩:=h
    have:=YNB hs; subst this
    replace h:=Yr h
    rcases h with ⟨hq,h⟩|⟨_,h⟩
    ·simp only[Bool.and_eq_true] at hq;have:=YNB hq.1; subst this;exact ZQ (.own _ _ _ _ (Ym hg) (YNB hq.2)) h
    ·exact XaS (Ym hg) h
   ·cases h
  ·refine OpSem.weak (Qy x) ?_;split at h
   ·rename_i hy
    replace h:=Yd h; obtain⟨hs,h⟩:=h
    cases h;exact YE _ _ _ _ _ _ _ (ZR hs) (Yy hy)
   ·cases h
 ·cases h
theorem YaK{P:Program}{GL:Globs}{n:Nat}{z:List AVal}{xs:List AVal}{σ:List ABlk}{v:AVal}{rd:List Nat}{up:List (Nat×ABlk)}(h:Q0 n z xs σ=.ok v rd up):OpSem P GL (.clearS n z) xs (hp σ) v rd up:=by
 unfold Q0 at h;split at h
 ·split at h
  ·rename_i hg
   replace h:=Yd h; obtain⟨hs,h⟩:=h
   simp only[Bool.and_eq_true] at hs;have:=YNB hs.1; subst this;cases h;exact Qa8 _ _ _ _ _ _ _ _ (Ym hg) (YNL hs.2)
  ·cases h
 ·cases h; exact Qw _ _ _ _ (.inl rfl)
 ·cases h; exact Qw _ _ _ _ (.inr (.inl rfl))
 ·cases h; exact Qw _ _ _ _ (.inr (.inr ⟨_,_,_,rfl⟩))
 ·cases h
theorem Yal{P:Program}{GL:Globs}{n:Nat}{xs:List AVal}{σ:List ABlk}{v:AVal}{rd:List Nat}{up:List (Nat×ABlk)}(h:ZN xs σ=.ok v rd up):OpSem P GL (.sliceS n true true true) xs (hp σ) v rd up:=by
 unfold ZN at h;split at h
 ·replace h:=Yd h; obtain⟨hs,h⟩:=h
  simp only[Bool.and_eq_true] at hs;cases h;exact Q6 _ _ _ _ _ _ _ _ _ _ _ (Int.natCast_nonneg _) (Int.ofNat_le.2 (YNL hs.1)) (Int.ofNat_le.2 (YNL hs.2.1)) (Int.ofNat_le.2 (YNL hs.2.2)) _
 ·cases h
theorem Xal{P:Program}{GL:Globs}{n:Nat}{xs:List AVal}{σ:List ABlk}{v:AVal}{rd:List Nat}{up:List (Nat×ABlk)}(h:Y1 xs σ=.ok v rd up):OpSem P GL (.sliceS n false true true) xs (hp σ) v rd up:=by
 unfold Y1 at h;split at h
 ·replace h:=Yd h; obtain⟨hs,h⟩:=h
  cases h;exact Q8 _ _ (ZR hs) _ _ _
 ·cases h
theorem Zm{P:Program}{GL:Globs}:StepOk P GL cstep:=by
 intro k xs σ v rd up h;unfold cstep at h;simp only[XB,Qa,QF,Xb,Xa,Yz,Yx,Z1,YQ,XJ,X1,Yav,Yk,Xn,QaT] at h;split at h
 ·split at h
  ·cases h; exact XaP _ _ _
  ·cases h; exact QaP _ _ _
  ·cases h
 ·split at h
  ·replace h:=Yd h; obtain⟨hs,h⟩:=h
   have:=YNB hs; subst this;split at h
   ·rename_i hn; cases h; rw[ZD] at hn; exact XW _ _ _ _ _ _ _ (Int.natCast_nonneg _) hn _
   ·cases h
  ·replace h:=Yd h; obtain⟨hlt,h⟩:=h
   split at h
   ·rename_i hg
    replace h:=Yd h; obtain⟨hs,h⟩:=h
    have:=YNB hs; subst this;cases h;exact YW _ _ _ _ _ _ _ _ (Int.natCast_nonneg _) (Int.ofNat_lt.2 (YNL hlt)) _ (Ym hg)
   ·cases h
  ·cases h
 ·split at h
  ·split at h
   ·rename_i hn; cases h; rw[ZD] at hn; exact ZaO _ _ _ _ (Int.natCast_nonneg _) hn _
   ·cases h
  ·cases h
 ·split at h
  ·split at h
   ·rename_i hg;split at h
    ·rename_i hn;split at h
     ·rename_i hv; cases h; rw[ZD] at hn; exact Yaj _ _ _ _ _ _ _ _ _ _ (Ym hg) hn hv
     ·cases h
    ·cases h
   ·cases h
  ·exact YK h
 ·split at h
  ·split at h
   ·rename_i hg;split at h
    ·rename_i hn;split at h
     ·rename_i hc
      replace h:=Yd h; obtain⟨hl,h⟩:=h
      split at h
      ·rename_i hs;split at h
       ·rename_i hst;cases h;rw[ZD] at hn;exact Z9 _ _ _ _ _ _ _ _ _ _ _ _ (Ym hg) hn hc (YNB hl) hs (Xae hst)
       ·cases h
      ·cases h
     ·cases h
    ·cases h
   ·cases h
  ·exact YK h
 ·split at h
  ·replace h:=Yd h; obtain⟨hs,h⟩:=h
   simp only[Bool.and_eq_true] at hs;have:=YNB hs.1; subst this;cases h;exact Xat _ _ _ _ _ _ (Int.natCast_nonneg _) (Int.ofNat_le.2 (YNL hs.2)) _
  ·split at h
   ·rename_i hg
    replace h:=Yd h; obtain⟨hs,h⟩:=h
    have:=YNB hs; subst this
    replace h:=Yr h; rcases h with ⟨hlt,h⟩|⟨_,h⟩
    ·cases h;exact ZX _ _ _ _ _ _ _ _ (Int.natCast_nonneg _) (Int.ofNat_lt.2 (YNL hlt)) _ (Ym hg)
    ·replace h:=Yd h; obtain⟨he,h⟩:=h
     have:=YNB he;subst this;cases h;exact YS _ _ _ _ _ _ _ rfl _
   ·cases h
  ·cases h; exact ZS _ _ _
  ·cases h
 ·split at h
  ·replace h:=Yd h; obtain⟨hs,h⟩:=h
   simp only[Bool.and_eq_true] at hs;have:=YNB hs.1; subst this;cases h;exact Yat _ _ _ _ _ _ (Int.natCast_nonneg _) (Int.ofNat_le.2 (YNL hs.2)) _
  ·split at h
   ·rename_i hg
    replace h:=Yd h; obtain⟨hs,h⟩:=h
    simp only[Bool.and_eq_true] at hs;have:=YNB hs.1; subst this;cases h;exact QW _ _ _ _ _ _ _ _ (Int.natCast_nonneg _) (Int.ofNat_le.2 (YNL hs.2)) _ (Ym hg)
   ·cases h
  ·cases h; exact QR _ _ _
  ·cases h
 ·split at h
  ·replace h:=Yd h; obtain⟨hs,h⟩:=h
   simp only[Bool.and_eq_true] at hs;have:=YNB hs.1; subst this;cases h;exact X8 _ _ _ _ _ _ _ _ (Int.natCast_nonneg _) (Int.ofNat_le.2 (YNL hs.2.1)) (Int.ofNat_le.2 (YNL hs.2.2)) _
  ·split at h
   ·rename_i hg
    replace h:=Yd h; obtain⟨hs,h⟩:=h
    simp only[Bool.and_eq_true,Bool.or_eq_true] at hs;have:=YNB hs.1; subst this;cases h;refine QO _ _ _ _ _ _ _ _ _ _ (Int.natCast_nonneg _) ?_ ?_ _ (Ym hg)
    ·rcases hs.2.1 with q|q
     ·exact .inl (Int.ofNat_lt.2 (YNL q))
     ·have:=YNB q; subst this; exact .inr ⟨rfl,Int.natCast_nonneg _⟩
    ·rcases hs.2.2 with q|q
     ·exact .inl (Int.ofNat_le.2 (YNL q))
     ·simp only[Bool.and_eq_true,Bool.not_eq_true'] at q;exact .inr ⟨(λe0=>by rw[e0] at q; cases q.1),YNL q.2⟩
   ·cases h
  ·cases h
 ·exact Yal h
 ·exact Xal h
 ·exact YaK h
 ·split at h
  ·replace h:=Yd h; obtain⟨hs,h⟩:=h
   simp only[Bool.and_eq_true] at hs;cases h;exact Zat _ _ _ _ _ (Int.natCast_nonneg _) (Int.ofNat_le.2 (YNL hs.1)) (Int.ofNat_le.2 (YNL hs.2)) _
  ·cases h
 ·split at h
  ·replace h:=Yd h; obtain⟨hs,h⟩:=h
   cases h;exact X6 _ _ _ (Int.natCast_nonneg _) (Int.ofNat_le.2 (YNL hs)) _
  ·cases h
 ·split at h
  ·replace h:=Yd h; obtain⟨hs,h⟩:=h
   cases h;exact Y6 _ _ _ (Int.natCast_nonneg _) (Int.ofNat_le.2 (YNL hs)) _
  ·cases h
 ·split at h
  ·replace h:=Yd h; obtain⟨hs,h⟩:=h
   simp only[Bool.and_eq_true] at hs;cases h;exact Xa9 _ _ _ _ _ (YNL hs.1) (YNL hs.2) _ _ (XN σ)
  ·cases h
 ·exact Zav h
 ·split at h
  ·replace h:=Yd h; obtain⟨hs,h⟩:=h
   split at h
   ·rename_i hm;split at h
    ·rename_i hl; cases h; exact QaO _ _ _ _ _ _ _ _ _ (Xbh hm) (Zab hs) hl
    ·cases h
   ·cases h
  ·cases h
 ·split at h
  ·replace h:=Yd h; obtain⟨hs,h⟩:=h
   split at h
   ·rename_i hm;split at h
    ·rename_i hl; cases h; exact ZaP _ _ _ _ _ _ _ (ZZ hm) (Zab hs) hl
    ·cases h
   ·cases h
  ·cases h
 ·split at h
  ·split at h
   ·rename_i hg
    replace h:=Yr h; rcases h with ⟨hlt,h⟩|⟨hlt,h⟩
    ·cases h;exact(YaJ _ _ _ _ (ZK hg (by simp))).1 (YNL hlt)
    ·cases h;refine(YaJ _ _ _ _ (ZK hg (by simp))).2 ?_;exact Nat.le_of_not_lt (λq=>by rw[show Nat.blt _ _=true from Nat.ble_eq_true_of_le q] at hlt; cases hlt)
   ·cases h
  ·cases h
 ·exact YK h
def holdB:List (Bool×Bool)→Bool
 |[]=>true
 |(true,true)::r=>holdB r
 |(false,false)::r=>holdB r
 |_=>false
def X9:Cons→Bool
 |[]=>true
 | (G,(x,y)) :: r=>(bif holdB G then (match x,y with
  |true,true=>true
  |false,false=>true
  | _,_=>false) else holdNot G || false) && X9 r
where holdNot:List (Bool×Bool)→Bool
 |[]=>false
 |(true,false)::_=>true
 |(false,true)::_=>true
 |_::r=>holdNot r
theorem XQ:∀ {c:List (Bool×Bool)},X9.holdNot c=true→¬Hold c
 |[],h=>by simp[X9.holdNot] at h
 |(true,false)::r,h=>λq=>by have:=q _ (List.mem_cons_self ..); cases this
 |(false,true)::r,h=>λq=>by have:=q _ (List.mem_cons_self ..); cases this
 |(true,true)::r,h=>λq=>XQ (c:=r) h (λp hp=>q p (List.mem_cons_of_mem _ hp))
 |(false,false)::r,h=>λq=>XQ (c:=r) h (λp hp=>q p (List.mem_cons_of_mem _ hp))
theorem Ye{H:Prop}:∀(xs:List AVal),All2 (Unw H) xs xs
 |[]=>trivial
 |x::xs=>⟨.inl rfl,Ye xs⟩
end Go.Ah
end
section
namespace Go.Ah
def Loc(P:Program)(GL:Globs)(m:MOper)(ρ:Frame)(h0:Hp)(v:AVal)(rd:List Nat)(up:List (Nat×ABlk)):Prop:=
 ∀(n:Nat) (ops:Array Oper) (o:Oper),OperOk P GL n ops o m→∀(ρ':Frame) (h:Hp) (w0:World) (L:Ln) (g:Gm) (w:World) (a:Act),
  (∀t∈usesT m,fget ρ' t=fget ρ t)→(∀b∈rd,h b=h0 b)→(∀p∈up,h p.1=h0 p.1)→Rep GL w0 L g h w→DenF n g ρ' a →
  ∀(next:Act→World→Prop) (Q:Exit→Act→World→Prop),(∀g' w' u,g.Le g'→Rep GL w0 L g' (hups h up) w'→DenF n g' (putF m.dst v ρ') (a.put o.dst u)→next (a.put o.dst u) w') →
   if Region.wanted o (yielded ops a.tmps) then o.wp P a w next Q∨(o.asks P a w∧LetsOut Q) else next (a.put o.dst undef) w
section
variable {P:Program} {GL:Globs}
theorem Zay{m:MOper}{ρ ρ':Frame}(h:∀t∈usesT m,fget ρ' t=fget ρ t):m.xs.map (ev ρ')=m.xs.map (ev ρ):=by
 apply List.map_congr_left;intro x hx;cases x with
 |t n=>exact h n (List.mem_append.2 (.inl (List.mem_filterMap.2 ⟨.t n,hx,rfl⟩)))
 |c v=>rfl
theorem Zy{m:MOper}{ρ ρ':Frame}(h:∀t∈usesT m,fget ρ' t=fget ρ t){cs:List (Bool×Bool)}(hg:GuardIs ρ m.guard cs):GuardIs ρ' m.guard cs:=by
 unfold usesT at h;generalize m.guard=gd at hg h;cases hg with
 |none=>exact .none
 |bool s w c e=>exact .bool s w c (by rw[h s (by simp)]; exact e)
 |when s w c cs e=>exact .when s w c cs (by rw[h s (by simp)]; exact e)
theorem Yaz{m:MOper}{ρ:Frame}{σ:List ABlk}{lg:Log}{K:Frame→List ABlk→Log→Prop}(s:StepR true P GL m ρ σ lg K) :
  ∃v rd up σ',upL σ up=some σ'∧K (putF m.dst v ρ) σ' (lg++[(rd,up.map (·.1))])∧Loc P GL m ρ (hp σ) v rd up:=by
 cases s with
 |run cs ys v rd up σ' h1 h2 h3 h4 h5 h6=>
  refine⟨v,rd,up,σ',h5,h6,?_⟩;intro n ops o ok ρ' h w0 L g w a hu hrd hup r d next Q hn;obtain⟨os,hcomp,hos⟩:=ok.op;have hops:=QN r d hos;rw[if_pos ((Qg ok d (Zy hu h1)).1 h2)];left;have hden:=ZI trivial h3 (by rw[←Zay hu]; exact hops);have ho:=h4 o os hcomp w0 L g h w a r hden hrd hup;refine ho.upon (λg' u w' hle hr hu=>hn g' w' u hle hr ?_);rw[ok.dst];exact(d.mono hle).putF ok.lt hu
 |skip cs h1 h2 h3=>
  refine⟨.junk,[],[],σ,rfl,h3,?_⟩;intro n ops o ok ρ' h w0 L g w a hu hrd hup r d next Q hn;rw[if_neg (by rw[(Qg ok d (Zy hu h1)).2 h2]; simp)];refine hn g w undef (Gm.Le.refl g) r ?_;rw[ok.dst];exact d.putF ok.lt (.junk _ _)
 |lazy cs ys v rd h1 h2 h3 h4=>
  refine⟨.when cs v,rd,[],σ,rfl,h4,?_⟩;intro n ops o ok ρ' h w0 L g w a hu hrd hup r d next Q hn;obtain⟨os,hcomp,hos⟩:=ok.op;have hops:=QN r d hos;by_cases hh:Hold cs
  ·rw[if_pos ((Qg ok d (Zy hu h1)).1 hh)];left;have hden:=ZI hh h2 (by rw[←Zay hu]; exact hops);have ho:=h3 hh o os hcomp w0 L g h w a r hden hrd hup;refine ho.upon (λg' u w' hle hr hu=>hn g' w' u hle hr ?_);rw[ok.dst];exact(d.mono hle).putF ok.lt (.when _ _ _ _ (λ_=>hu) (λh=>(h hh).elim))
  ·rw[if_neg (by rw[(Qg ok d (Zy hu h1)).2 hh]; simp)];refine hn g w undef (Gm.Le.refl g) r ?_;rw[ok.dst];exact d.putF ok.lt (.when _ _ _ _ (λh=>(hh h).elim) (λ_=>rfl))
 |pick cs x y z c p q v h1 hk hxs hx hy hz hv h8=>
  refine⟨v,[],[],σ,rfl,h8,?_⟩;intro n ops o ok ρ' h w0 L g w a hu hrd hup r d next Q hn;obtain⟨os,hcomp,hos⟩:=ok.op;have hops:=QN r d hos;rw[Zay hu,hxs] at hops;have h1':=Zy hu h1;have hcomp':=hcomp;rw[hk] at hcomp';generalize hop:o.op=op at hcomp';cases hcomp' with
  |pick oc oa ob=>
   obtain⟨d1,d2,d3,_⟩:=hops;by_cases hh:Hold cs
   ·rw[if_pos ((Qg ok d h1').1 hh)];left;have e1:=Yj (ZM hh hx d1);have hres:g.den (.bool (bif c then p else q)) (if c then a.eval oa else a.eval ob):=by
     cases c
     ·exact ZM ⟨hh,rfl⟩ hz d3
     ·exact ZM ⟨hh,rfl⟩ hy d2
    have hrun:(execOp a.eval o).run P w=.ok (.value (if c then a.eval oa else a.eval ob)) w:=by
     simp only[execOp,hop,e1,asBool];simp
    unfold Oper.wp;rw[hrun];refine hn g _ _ (Gm.Le.refl g) r ?_;rw[ok.dst];rcases hv with rfl|⟨rfl,rfl⟩
    ·exact d.putF ok.lt (.when _ _ _ _ (λ_=>hres) (λh=>(h hh).elim))
    ·exact d.putF ok.lt hres
   ·rw[if_neg (by rw[(Qg ok d h1').2 hh]; simp)];refine hn g _ _ (Gm.Le.refl g) r ?_;rw[ok.dst];rcases hv with rfl|⟨rfl,rfl⟩
    ·exact d.putF ok.lt (.when _ _ _ _ (λh=>(hh h).elim) (λ_=>rfl))
    ·exact(hh (by simp[Hold])).elim
 |rel cs ys R h0=>cases h0
structure TS where
 v:AVal
 rd:List Nat
 up:List (Nat×ABlk)
def Tr(P:Program)(GL:Globs):List MOper→List TS→Frame→List ABlk→Log→(Frame→List ABlk→Log→Prop)→Prop
 |[],[],ρ,σ,lg,Q=>Q ρ σ lg
 |m::ms,t::ts,ρ,σ,lg,Q=>Loc P GL m ρ (hp σ) t.v t.rd t.up∧∃σ',upL σ t.up=some σ'∧Tr P GL ms ts (putF m.dst t.v ρ) σ' (lg++[(t.rd,t.up.map (·.1))]) Q
 |_,_,_,_,_,_=>False
theorem Zau:∀(ms:List MOper) (ρ:Frame) (σ:List ABlk) (lg:Log) (Q:Frame→List ABlk→Log→Prop),AwpR true P GL ms ρ σ lg Q→∃ts,Tr P GL ms ts ρ σ lg Q
 |[],ρ,σ,lg,Q,h=>⟨[],h⟩
 |m::ms,ρ,σ,lg,Q,h=>by
  obtain⟨v,rd,up,σ',h1,h2,h3⟩:=Yaz h;obtain⟨ts,ht⟩:=Zau ms _ _ _ Q h2;exact⟨⟨v,rd,up⟩::ts,h3,σ',h1,ht⟩
def frS(S:Nat→Bool):Nat→List MOper→List TS→Frame→Frame
 |i,m::ms,t::ts,ρ=>frS S (i+1) ms ts (if S i then putF m.dst t.v ρ else ρ)
 |_,_,_,ρ=>ρ
def hpS(S:Nat→Bool):Nat→List TS→Hp→Hp
 |i,t::ts,h=>hpS S (i+1) ts (if S i then hups h t.up else h)
 |_,_,h=>h
theorem YG{S S':Nat→Bool}{t:Nat}:∀(ms:List MOper) (ts:List TS) (i:Nat) (ρ ρ':Frame),(∀(k:Nat) (m:MOper),ms[k]?=some m→m.dst=some t→S (i+k)=S' (i+k))→fget ρ t=fget ρ' t→fget (frS S i ms ts ρ) t=fget (frS S' i ms ts ρ') t
 |[],_,_,_,_,_,h=>by simpa[frS] using h
 |_::_,[],_,_,_,_,h=>by simpa[frS] using h
 |m::ms,x::ts,i,ρ,ρ',hs,h=>by
  simp only[frS];refine YG ms ts (i+1) _ _ (λk m' e1 e2=>by have:=hs (k+1) m' (by simpa using e1) e2; rwa [show i+(k+1)=i+1+k by omega] at this) ?_;by_cases hd:m.dst=some t
  ·have:=hs 0 m rfl hd;rw[Nat.add_zero] at this;rw[this];cases S' i<;>simp[Xx,hd,h]
  ·have e1:∀(b:Bool) (r:Frame),fget (if b then putF m.dst x.v r else r) t=fget r t:=by intro b r; cases b<;>simp[Xx,hd]
   rw[e1,e1,h]
theorem Xag:∀(up:List (Nat×ABlk)) (h h':Hp) (b:Nat),b∈up.map (·.1)→hups h up b=hups h' up b
 |[],_,_,_,e=>by cases e
 |(a,x)::up,h,h',b,e=>by
  by_cases hb:b∈up.map (·.1)
  ·exact Xag up _ _ b hb
  ·have:b=a:=by simp at e hb; rcases e with e|⟨y,e⟩; exact e; exact(hb y e).elim
   subst this;have out:∀(up:List (Nat×ABlk)) (h:Hp),b∉up.map (·.1)→hups h up b=h b:=by
    intro up
    induction up with
    |nil=>intro h _; rfl
    |cons p up ih=>
     intro h hn;simp only[List.map_cons,List.mem_cons,not_or] at hn;obtain⟨a,x⟩:=p;show hups (hup h a x) up b=h b;rw[ih _ hn.2,Yg _ _ hn.1]
   show hups (hup h b x) up b=hups (hup h' b x) up b;rw[out _ _ hb,out _ _ hb,Yh,Yh]
theorem Qag:∀(up:List (Nat×ABlk)) (h:Hp) (b:Nat),b∉up.map (·.1)→hups h up b=h b
 |[],_,_,_=>rfl
 |(a,x)::up,h,b,hn=>by
  simp only[List.map_cons,List.mem_cons,not_or] at hn;show hups (hup h a x) up b=h b;rw[Qag up _ b hn.2,Yg _ _ hn.1]
theorem YH{S S':Nat→Bool}{b:Nat}:∀(ts:List TS) (i:Nat) (h h':Hp),(∀(k:Nat) (t:TS),ts[k]?=some t→b∈t.up.map (·.1)→S (i+k)=S' (i+k))→h b=h' b→hpS S i ts h b=hpS S' i ts h' b
 |[],_,_,_,_,h=>by simpa[hpS] using h
 |x::ts,i,h,h',hs,e=>by
  simp only[hpS];refine YH ts (i+1) _ _ (λk t e1 e2=>by have:=hs (k+1) t (by simpa using e1) e2; rwa [show i+(k+1)=i+1+k by omega] at this) ?_;by_cases hd:b∈x.up.map (·.1)
  ·have:=hs 0 x rfl hd;rw[Nat.add_zero] at this;rw[this];cases S' i
   ·simpa using e
   ·simpa using Xag _ _ _ _ hd
  ·have e1:∀(c:Bool) (r:Hp),(if c then hups r x.up else r) b=r b:=by intro c r; cases c<;>simp[Qag _ _ _ hd]
   rw[e1,e1,e]
theorem YaF{S:Nat→Bool}{t:Nat}:∀(ms:List MOper) (ts:List TS) (i:Nat) (ρ:Frame) (j:Nat) (m:MOper) (x:TS),ms[j]?=some m→ts[j]?=some x→m.dst=some t→S (i+j)=true →
  (∀(k:Nat) (m':MOper),ms[k]?=some m'→m'.dst=some t→S (i+k)=true→k≤j)→fget (frS S i ms ts ρ) t=x.v
 |m::ms,x::ts,i,ρ,0,m0,x0,e1,e2,e3,e4,hl=>by
  simp at e1 e2; subst e1 e2;rw[Nat.add_zero] at e4;simp only[frS,e4,if_true];have:=YG (S:=S) (S':=λ_=>false) (t:=t) ms ts (i + 1) (putF m.dst x.v ρ) (putF m.dst x.v ρ) (λk m' q1 q2=>by
   cases hS:S (i+1+k) with
   |false=>rfl
   | true=>have:=hl (k + 1) m' (by simpa using q1) q2 (by rwa [show i + (k + 1)=i + 1 + k by omega]); omega) rfl
  rw[this];have hid:∀(ms:List MOper) (ts:List TS) (i:Nat) (ρ:Frame),frS (λ_=>false) i ms ts ρ=ρ:=by
   intro ms
   induction ms with
   |nil=>intros; simp[frS]
   |cons m ms ih=>intro ts i ρ; cases ts with
    |nil=>simp[frS]
    |cons x ts=>simp[frS,ih]
  rw[hid,Xx,if_pos e3]
 |m::ms,x::ts,i,ρ,j+1,m0,x0,e1,e2,e3,e4,hl=>by
  simp only[frS];exact YaF ms ts (i + 1) _ j m0 x0 (by simpa using e1) (by simpa using e2) e3 (by rwa [show i + 1 + j=i + (j + 1) by omega]) (λk m' q1 q2 q3=>by
   have:=hl (k + 1) m' (by simpa using q1) q2 (by rwa [show i + (k + 1)=i + 1 + k by omega]); omega)
 |[],_,_,_,_,_,_,e1,_,_,_,_=>by simp at e1
 |_::_,[],_,_,_,_,_,_,e2,_,_,_=>by simp at e2
theorem QaF{S:Nat→Bool}{b:Nat}:∀(ts:List TS) (i:Nat) (h:Hp) (j:Nat) (x:TS),ts[j]?=some x→b∈x.up.map (·.1)→S (i+j)=true →
  (∀(k:Nat) (x':TS),ts[k]?=some x'→b∈x'.up.map (·.1)→S (i+k)=true→k≤j)→∀h':Hp,hpS S i ts h b=hups h' x.up b
 |x::ts,i,h,0,x0,e2,e3,e4,hl,h'=>by
  simp at e2; subst e2;rw[Nat.add_zero] at e4;simp only[hpS,e4,if_true];have:=YH (S:=S) (S':=λ_=>false) (b:=b) ts (i + 1) (hups h x.up) (hups h' x.up) (λk m' q1 q2=>by
   cases hS:S (i+1+k) with
   |false=>rfl
   | true=>have:=hl (k + 1) m' (by simpa using q1) q2 (by rwa [show i + (k + 1)=i + 1 + k by omega]); omega) (Xag _ _ _ _ e3)
  rw[this];have hid:∀(ts:List TS) (i:Nat) (h:Hp),hpS (λ_=>false) i ts h=h:=by
   intro ts
   induction ts with
   |nil=>intros; simp[hpS]
   |cons m ms ih=>intro i ρ; simp[hpS,ih]
  rw[hid]
 |x::ts,i,h,j+1,x0,e2,e3,e4,hl,h'=>by
  simp only[hpS];exact QaF ts (i + 1) _ j x0 (by simpa using e2) e3 (by rwa [show i + 1 + j=i + (j + 1) by omega]) (λk m' q1 q2 q3=>by
   have:=hl (k + 1) m' (by simpa using q1) q2 (by rwa [show i + (k + 1)=i + 1 + k by omega]); omega) h'
 |[],_,_,_,_,e2,_,_,_,_=>by simp at e2
theorem Qbr:∀(ms:List MOper) (ts:List TS) (i:Nat) (ρ:Frame) (σ:List ABlk) (lg:Log) (Q:Frame→List ABlk→Log→Prop),Tr P GL ms ts ρ σ lg Q →
  ts.length=ms.length ∧
  (∀(j:Nat) (m:MOper) (x:TS),ms[j]?=some m→ts[j]?=some x→∃ρ',(∀t,fget ρ' t=fget (frS (λk=>decide (k<i+j)) i ms ts ρ) t)∧Loc P GL m ρ' (hpS (λk=>decide (k<i+j)) i ts (hp σ)) x.v x.rd x.up) ∧
  ∃ρ' σ',(∀t,fget ρ' t=fget (frS (λ_=>true) i ms ts ρ) t)∧hp σ'=hpS (λ_=>true) i ts (hp σ)∧Q ρ' σ' (lg++ts.map λx=>(x.rd,x.up.map (·.1)))
 |[],[],i,ρ,σ,lg,Q,h=>⟨rfl,by simp,ρ,σ,by simp[frS],by simp[hpS],by simpa[Tr] using h⟩
 |[],_::_,_,_,_,_,_,h=>h.elim
 |_::_,[],_,_,_,_,_,h=>h.elim
 |m::ms,x::ts,i,ρ,σ,lg,Q,h=>by
  obtain⟨h1,σ',h2,h3⟩:=h;obtain⟨k1,k2,ρ2,σ2,k3,k4,k5⟩:=Qbr ms ts (i+1) _ _ _ _ h3;have hu:=XP _ _ _ h2;refine⟨by simp[k1],λj m' x' e1 e2=>?_,ρ2,σ2,λt=>by rw[k3 t]; simp[frS],by rw[k4]; simp only[hpS,if_true]; rw[hu],by simpa[List.append_assoc] using k5⟩;cases j with
  |zero=>
   simp at e1 e2; subst e1 e2;have hf:∀t,fget ρ t=fget (frS (λk=>decide (k<i+0)) i (m::ms) (x::ts) ρ) t:=by
    intro t;have:=YG (S:=λk=>decide (k<i+0)) (S':=λ_=>false) (t:=t) (m::ms) (x::ts) i ρ ρ (λk _ _ _=>by simp) rfl;rw[this];have hid:∀(ms:List MOper) (ts:List TS) (i:Nat) (ρ:Frame),frS (λ_=>false) i ms ts ρ=ρ:=by
     intro ms
     induction ms with
     |nil=>intros; simp[frS]
     |cons m ms ih=>intro ts i ρ; cases ts with
      |nil=>simp[frS]
      |cons x ts=>simp[frS,ih]
    rw[hid]
   have hh:hpS (λk=>decide (k<i+0)) i (x::ts) (hp σ)=hp σ:=by
    funext b
    have:=YH (S:=λk=>decide (k<i+0)) (S':=λ_=>false) (b:=b) (x::ts) i (hp σ) (hp σ) (λk _ _ _=>by simp) rfl;rw[this];have hid:∀(ts:List TS) (i:Nat) (h:Hp),hpS (λ_=>false) i ts h=h:=by
     intro ts
     induction ts with
     |nil=>intros; simp[hpS]
     |cons m ms ih=>intro i ρ; simp[hpS,ih]
    rw[hid]
   exact⟨ρ,hf,by rw[hh]; exact h1⟩
  |succ j=>
   simp at e1 e2;obtain⟨ρ',q1,q2⟩:=k2 j m' x' e1 e2;refine⟨ρ',λt=>?_,?_⟩
   ·rw[q1 t]; simp only[frS];rw[if_pos (by simp)];rw[show i+(j+1)=i+1+j by omega]
   ·simp only[hpS];rw[if_pos (by simp),hu,show i+(j+1)=i+1+j by omega];exact q2
end
end Go.Ah
end
section
namespace Go.Ah
theorem Zq:∀ {a b:List Nat},disj a b=true→∀x,x∈a→x∉b
 |[],_,_,x,h=>by cases h
 |y::a,b,hd,x,h=>by
  simp only[disj,Bool.and_eq_true,Bool.not_eq_true'] at hd;rcases List.mem_cons.1 h with rfl|h
  ·intro hb; have:=List.contains_iff_mem.2 hb; rw[hd.1] at this; cases this
  ·exact Zq hd.2 x h
theorem XI{h:List Nat}{q:List Nat×List Nat}:∀ {lg:Log} {i:Nat},Zt h q i lg=true→∀(k:Nat) (p:List Nat×List Nat),lg[k]?=some p→(i+k)∈h∨apart2 p q=true
 |[],_,_,_,_,e=>by simp at e
 |p::lg,i,hh,0,p',e=>by
  simp at e; subst e;simp only[Zt,Bool.and_eq_true,Bool.or_eq_true] at hh;rcases hh.1 with h1|h1
  ·exact .inl (List.contains_iff_mem.1 h1)
  ·exact .inr h1
 |p::lg,i,hh,k+1,p',e=>by
  simp only[Zt,Bool.and_eq_true] at hh;have:=XI hh.2 k p' (by simpa using e)
  rwa [show i+(k+1)=i+1+k by omega]
def cnt(S:Nat→Bool):Nat→Nat
 |0=>0
 |n+1=>cnt S n+(if S n then 0 else 1)
theorem YaD{S:Nat→Bool}:∀ {n:Nat},cnt S n=0→∀k,k<n→S k=true
 |0,_,k,h=>by omega
 |n+1,e,k,h=>by
  simp only[cnt] at e;by_cases hk:k=n
  ·subst hk;cases hs:S k with
   |true=>rfl
   |false=>simp[hs] at e
  ·exact YaD (S:=S) (n:=n) (by omega) k (by omega)
theorem ZaD{S S':Nat→Bool}:∀ {n:Nat},(∀k,k<n→S' k=S k)→cnt S' n=cnt S n
 |0,_=>rfl
 |n+1,h=>by simp only[cnt]; rw[ZaD (λk hk=>h k (by omega)),h n (by omega)]
theorem ZaV{S S':Nat→Bool}{j:Nat}:∀ {n:Nat},j<n→S j=false→S' j=true→(∀k,k<n→k≠j→S' k=S k)→cnt S' n+1=cnt S n
 |0,h,_,_,_=>by omega
 |n+1,h,h1,h2,h3=>by
  simp only[cnt];by_cases hj:j=n
  ·subst hj;rw[ZaD (λk hk=>h3 k (by omega) (by omega)),h1,h2]; simp
  ·have:=ZaV (n:=n) (by omega) h1 h2 (λk hk hne=>h3 k (by omega) hne);rw[h3 n (by omega) (λe=>hj e.symm)];omega
structure DrawFacts (ops:List Oper) (ms:List MOper) (hd:List (List Nat)):Prop where
 len:ops.length=ms.length
 back:∀j,j<ms.length→∀i∈waits (ops.getD j default),i<j
 ahd:∀j,j<ms.length→∀i∈Zr hd j,i<j∧(i∈waits (ops.getD j default)∨∃k∈waits (ops.getD j default),i∈Zr hd k)
 slots:∀j,j<ms.length→∀i,i<j→i∈Zr hd j∨((∀t∈defsT (ms.getD i default),t∉usesT (ms.getD j default))∧(∀t∈defsT (ms.getD i default),t∉defsT (ms.getD j default))∧∀t∈usesT (ms.getD i default),t∉defsT (ms.getD j default))
theorem Yam{ops:List Oper}{ms:List MOper}{hd:List (List Nat)}(h:Zam ops ms hd=true):DrawFacts ops ms hd:=by
 unfold Zam at h;simp only[Bool.and_eq_true,List.all_eq_true,List.mem_range,Bool.or_eq_true,List.any_eq_true] at h;obtain⟨⟨⟨⟨h1,h2⟩,h3⟩,h4⟩,h5⟩:=h;refine⟨YNB h1,λj hj i hi=>YNL (h3 j hj i hi),λj hj i hi=>?_,λj hj i hi=>?_⟩
 ·obtain⟨q1,q2⟩:=h4 j hj i hi;refine⟨YNL q1,?_⟩;rcases q2 with q|⟨k,q,q'⟩
  ·exact .inl (List.contains_iff_mem.1 q)
  ·exact .inr ⟨k,q,List.contains_iff_mem.1 q'⟩
 ·rcases h5 j hj i hi with q|q
  ·exact .inl (List.contains_iff_mem.1 q)
  ·obtain⟨⟨q1,q2⟩,q3⟩:=q;exact .inr ⟨Zq q1,Zq q2,Zq q3⟩
section
variable {P:Program} {GL:Globs}
theorem XaC{ops:List Oper}{ms:List MOper}{hd:List (List Nat)}(D:DrawFacts ops ms hd){S:Nat→Bool}(hS:∀j,S j=true→j<ms.length∧∀i∈waits (ops.getD j default),S i=true) :
  ∀(j:Nat),j<ms.length→(∀i∈waits (ops.getD j default),S i=true)→∀i∈Zr hd j,S i=true:=by
 intro j
 induction j using Nat.strongRecOn with
 |_ j ih=>
  intro hj hw i hi;rcases (D.ahd j hj i hi).2 with q|⟨k,q,q'⟩
  ·exact hw i q
  ·have hk:=hw k q;exact ih k (D.back j hj k q) (hS k hk).1 (hS k hk).2 i q'
theorem Xap{o:Oper}{i:Nat}:i∈waits o↔∃e∈o.after,Region.binds .any e=true∧e.on=i:=by
 unfold waits;simp only[List.mem_map,List.mem_filter,Array.mem_toList_iff];constructor
 ·rintro⟨e,⟨h1,h2⟩,h3⟩; exact⟨e,h1,h2,h3⟩
 ·rintro⟨e,h1,h2,h3⟩; exact⟨e,⟨h1,h2⟩,h3⟩
theorem X2(ops:Array Oper)(j:Nat){o:Oper}(h:ops[j]?=some o):ops.toList.getD j default=o:=by
 rw[List.getD_eq_getElem?_getD,Array.getElem?_toList,h]; rfl
theorem QaL{n:Nat}{ops:Array Oper}{ms:List MOper}{hd:List (List Nat)}(hsz:ops.size=ms.length)(hok:∀(j:Nat) (m:MOper),ms[j]?=some m→∃o,ops[j]?=some o∧OperOk P GL n ops o m)(hdr:Zam ops.toList ms hd=true)
 {ρ:Frame}{σ:List ABlk}{ts:List TS}{K:Frame→List ABlk→Log→Prop}(htr:Tr P GL ms ts ρ σ [] K)(hap:Qd hd (ts.map λx=>(x.rd,x.up.map (·.1)))=true)
 {w0:World}{L:Ln}{g:Gm}(Q:Exit→Act→World→Prop)(hQ:∀g' ρ' σ' a w,g.Le g'→Rep GL w0 L g' (hp σ') w→DenF n g' ρ' a→K ρ' σ' (ts.map λx=>(x.rd,x.up.map (·.1)))→Q .normal a w) :
  ∀(fuel:Nat) (listed:Array Bool) (a:Act) (w:World),listed.size=ms.length→(∀j,listed.getD j false=true→j<ms.length∧∀i∈waits (ops.toList.getD j default),listed.getD i false=true) →
   cnt (λk=>listed.getD k false) ms.length≤fuel→(∃g' ρ',g.Le g'∧Rep GL w0 L g' (hpS (λk=>listed.getD k false) 0 ts (hp σ)) w∧DenF n g' ρ' a∧∀t,fget ρ' t=fget (frS (λk=>listed.getD k false) 0 ms ts ρ) t) →
   wpAny P .any ops Q fuel listed a w:=by
 have D:=Yam hdr;obtain⟨hlen,hat,ρf,σf,hf1,hf2,hf3⟩:=Qbr ms ts 0 ρ σ [] K htr;rw[List.nil_append] at hf3;have hA:∀j,j<ms.length→∀i,i<j→i∈Zr hd j∨apart2 (QT (ts.map λx=>(x.rd,x.up.map (·.1))) i) (QT (ts.map λx=>(x.rd,x.up.map (·.1))) j)=true:=by
  intro j hj i hi;unfold Qd at hap;simp only[List.all_eq_true,List.mem_range,List.length_map] at hap;have:=XI (hap j (by omega)) i (QT (ts.map λx=>(x.rd,x.up.map (·.1))) i) (by
   rw[List.getElem?_take_of_lt hi];unfold QT;rw[List.getElem?_eq_getElem (by simp; omega)];rfl)
  rwa [Nat.zero_add] at this
 have hlog:∀j x,ts[j]?=some x→QT (ts.map λx=>(x.rd,x.up.map (·.1))) j=(x.rd,x.up.map (·.1)):=by
  intro j x e; unfold QT; rw[List.getElem?_map,e]; rfl
 have fin:∀(listed:Array Bool) (a:Act) (w:World),(∀k,k<ms.length→listed.getD k false=true)→(∃g' ρ',g.Le g'∧Rep GL w0 L g' (hpS (λk=>listed.getD k false) 0 ts (hp σ)) w∧DenF n g' ρ' a∧∀t,fget ρ' t=fget (frS (λk=>listed.getD k false) 0 ms ts ρ) t)→Q .normal a w:=by
  rintro listed a w hall ⟨g',ρ',h1,h2,h3,h4⟩;refine hQ g' ρf σf a w h1 ?_ ?_ hf3
  ·rw[hf2];have:hpS (λk=>listed.getD k false) 0 ts (hp σ)=hpS (λ_=>true) 0 ts (hp σ):=by
    funext b
    refine YH _ _ _ _ (λk t e _=>?_) rfl;have:k<ts.length:=(YLG e).1;rw[Nat.zero_add]; exact hall k (by omega)
   rw[←this]; exact h2
  ·refine h3.weak (λt=>.inl ?_);rw[hf1 t,h4 t];refine YG _ _ _ _ _ (λk m e _=>?_) rfl;have:k<ms.length:=(YLG e).1;rw[Nat.zero_add]; exact(hall k this).symm
 have rdy:∀(listed:Array Bool),listed.size=ms.length→Region.ready .any ops listed=[]→∀k,k<ms.length→listed.getD k false=true:=by
  intro listed hs hr k
  induction k using Nat.strongRecOn with
  |_ k ih=>
   intro hk;cases hl:listed.getD k false with
   |true=>rfl
   |false=>
    exfalso;have hko:ops[k]?=some ops[k]:=by simp
    have:k∈Region.ready .any ops listed:=by
     rw[mem_ready];refine⟨?_,ops[k],hko,λe he hb=>?_⟩
     ·rw[Array.getD_eq_getD_getElem?,Array.getElem?_eq_getElem (by omega)] at hl ⊢; exact hl
     ·have hw:e.on∈waits (ops.toList.getD k default):=by rw[X2 ops k hko,Xap]; exact⟨e,he,hb,rfl⟩
      have hlt:=D.back k hk _ hw;exact ih e.on hlt (by omega)
    rw[hr] at this; cases this
 intro fuel
 induction fuel with
 |zero=>
  intro listed a w hs hS hc hst;have hall:=YaD (Nat.le_zero.1 hc);refine⟨?_,fin listed a w hall hst⟩;cases hr:Region.ready .any ops listed with
  |nil=>rfl
  |cons k r=>
   exfalso;have:k∈Region.ready .any ops listed:=by rw[hr]; simp
   obtain⟨h1,o,ho,_⟩:=mem_ready.1 this;have hk:k<ms.length:=by rw[←hsz]; exact(Array.getElem?_eq_some_iff.1 ho).1
   have:=hall k hk;rw[Array.getD_eq_getD_getElem?,Array.getElem?_eq_getElem (by omega)] at h1 this;simp at h1 this; rw[h1] at this; cases this
 |succ fuel ih=>
  intro listed a w hs hS hc hst;refine⟨λhr=>fin listed a w (rdy listed hs hr) hst,λj hj=>?_⟩;obtain⟨h1,o,ho,hedge⟩:=mem_ready.1 hj;have hjn:j<ms.length:=by rw[←hsz]; exact(Array.getElem?_eq_some_iff.1 ho).1
  have hSj:listed.getD j false=false:=by
   rw[Array.getD_eq_getD_getElem?,Array.getElem?_eq_getElem (by omega)] at h1 ⊢; exact h1
  have hwj:∀i∈waits (ops.toList.getD j default),listed.getD i false=true:=by
   intro i hi;rw[X2 ops j ho,Xap] at hi;obtain⟨e,he,hb,rfl⟩:=hi;exact hedge e he hb
  have hhd:=XaC D (S:=λk=>listed.getD k false) hS j hjn hwj;have hmj:ms[j]?=some ms[j]:=by simp
  have htj:ts[j]?=some (ts[j]'(by omega)):=by simp[show j<ts.length by omega]
  generalize hmd:ms[j]=m at hmj;generalize hxd:(ts[j]'(by omega))=x at htj;have hmD:ms.getD j default=m:=by rw[List.getD_eq_getElem?_getD,hmj]; rfl
  obtain⟨o',ho',oko⟩:=hok j m hmj;rw[ho] at ho'; cases ho';obtain⟨ρj,q1,q2⟩:=hat j m x hmj htj;simp only[Nat.zero_add] at q1 q2;obtain⟨g',ρ',s1,s2,s3,s4⟩:=hst;have key:∀k,k<ms.length→(k<j→k∈Zr hd j)→(j<k→j∈Zr hd k)→(k≠j)→(listed.getD k false=decide (k<j)):=by
   intro k hk ha hb hne;by_cases hlt:k<j
   ·rw[decide_eq_true hlt]; exact hhd k (ha hlt)
   ·rw[decide_eq_false hlt];have hgt:j<k:=by omega
    cases hl:listed.getD k false with
    |false=>rfl
    |true=>
     have:listed.getD j false=true:=XaC D (S:=λk=>listed.getD k false) hS k hk (hS k hl).2 j (hb hgt);rw[hSj] at this; cases this
  have hslot:∀t,(t∈usesT m)→∀k mk,ms[k]?=some mk→mk.dst=some t→k≠j→listed.getD k false=decide (k<j):=by
   intro t ht k mk hk hdst hne;have hkn:k<ms.length:=(YLG hk).1;have hkD:ms.getD k default=mk:=by rw[List.getD_eq_getElem?_getD,hk]; rfl
   have hdef:t∈defsT mk:=by unfold defsT; rw[hdst]; simp
   refine key k hkn (λhlt=>?_) (λhgt=>?_) hne
   ·rcases D.slots j hjn k hlt with q|⟨q,_,_⟩
    ·exact q
    ·rw[hkD,hmD] at q; exact(q t hdef ht).elim
   ·rcases D.slots k hkn j hgt with q|⟨_,_,q⟩
    ·exact q
    ·rw[hkD,hmD] at q; exact(q t ht hdef).elim
  have hblk:∀b,(b∈x.rd∨b∈x.up.map (·.1))→∀k xk,ts[k]?=some xk→b∈xk.up.map (·.1)→k≠j→listed.getD k false=decide (k<j):=by
   intro b hb k xk hk hin hne;have hkn:k<ms.length:=by rw[←hlen]; exact(YLG hk).1
   refine key k hkn (λhlt=>?_) (λhgt=>?_) hne
   ·rcases hA j hjn k hlt with q|q
    ·exact q
    ·rw[hlog k xk hk,hlog j x htj] at q;simp only[apart2,Bool.and_eq_true] at q;rcases hb with hb|hb
     ·exact(Zq q.2.1 b hin hb).elim
     ·exact(Zq q.2.2 b hin hb).elim
   ·rcases hA k hkn j hgt with q|q
    ·exact q
    ·rw[hlog k xk hk,hlog j x htj] at q;simp only[apart2,Bool.and_eq_true] at q;rcases hb with hb|hb
     ·exact(Zq q.1 b hb hin).elim
     ·exact(Zq q.2.2 b hb hin).elim
  have hjself:∀k,k=j→listed.getD k false=decide (k<j):=by rintro k rfl; rw[hSj]; simp
  have heq:∀b,(b∈x.rd∨b∈x.up.map (·.1))→hpS (λk=>listed.getD k false) 0 ts (hp σ) b=hpS (λk=>decide (k<j)) 0 ts (hp σ) b:=by
   intro b hb;refine YH _ _ _ _ (λk xk e1 e2=>?_) rfl;rw[Nat.zero_add];by_cases hkj:k=j
   ·exact hjself k hkj
   ·exact hblk b hb k xk e1 e2 hkj
  unfold wpOp;simp only[ho];refine q2 n ops o oko ρ' _ w0 L g' w a (λt ht=>?_) (λb hb=>heq b (.inl hb)) (λp hp'=>heq p.1 (.inr (List.mem_map.2 ⟨p,hp',rfl⟩))) s2 s3 _ _ (λg2 w2 u hle hr hd2=>?_)
  ·rw[s4 t,q1 t];refine YG _ _ _ _ _ (λk mk e1 e2=>?_) rfl;rw[Nat.zero_add];by_cases hkj:k=j
   ·exact hjself k hkj
   ·exact hslot t ht k mk e1 e2 hkj
  ·have hset:∀k,k<ms.length→(listed.setIfInBounds j true).getD k false=if k=j then true else listed.getD k false:=by
    intro k hk;by_cases hkj:k=j
    ·subst hkj; simp[show k<listed.size by omega]
    ·rw[if_neg hkj]; simp[Array.getElem?_setIfInBounds_ne (Ne.symm hkj)]
   have hset':∀k,(listed.setIfInBounds j true).getD k false=if k=j then true else listed.getD k false:=by
    intro k;by_cases hk:k<ms.length
    ·exact hset k hk
    ·rw[if_neg (by omega)];rw[Array.getD_eq_getD_getElem?,Array.getD_eq_getD_getElem?,Array.getElem?_eq_none (by simp; omega),Array.getElem?_eq_none (by omega)]
   refine ih _ _ _ (by simpa using hs) (λk hk=>?_) ?_ ⟨g2,putF m.dst x.v ρ',s1.trans hle,?_,hd2,λt=>?_⟩
   ·rw[hset'] at hk;by_cases hkj:k=j
    ·subst hkj;refine⟨hjn,λi hi=>?_⟩;rw[hset']; split
     ·rfl
     ·exact hwj i hi
    ·rw[if_neg hkj] at hk;refine⟨(hS k hk).1,λi hi=>?_⟩;rw[hset']; split
     ·rfl
     ·exact(hS k hk).2 i hi
   ·have:=ZaV (S:=λk=>listed.getD k false) (S':=λk=>(listed.setIfInBounds j true).getD k false) (j:=j) (n:=ms.length) hjn hSj (by simp only[hset']; simp) (λk hk hne=>by simp only[hset']; rw[if_neg hne]);omega
   ·have:hpS (λk=>(listed.setIfInBounds j true).getD k false) 0 ts (hp σ)=hups (hpS (λk=>listed.getD k false) 0 ts (hp σ)) x.up:=by
     funext b
     by_cases hb:b∈x.up.map (·.1)
     ·refine QaF ts 0 (hp σ) j x htj hb (by rw[Nat.zero_add,hset',if_pos rfl]) (λk xk e1 e2 e3=>?_) _;rw[Nat.zero_add,hset'] at e3;by_cases hkj:k=j
      ·omega
      ·rw[if_neg hkj] at e3;rw[hblk b (.inr hb) k xk e1 e2 hkj] at e3;have:=of_decide_eq_true e3; omega
     ·rw[Qag _ _ _ hb];refine YH _ _ _ _ (λk xk e1 e2=>?_) rfl;rw[Nat.zero_add];simp only[hset'];have hkj:k≠j:=by rintro rfl; rw[htj] at e1; cases e1; exact hb e2
      rw[if_neg hkj]
    rw[this]; exact hr
   ·rw[Xx];by_cases hdt:m.dst=some t
    ·rw[if_pos hdt];refine(YaF ms ts 0 ρ j m x hmj htj hdt (by rw[Nat.zero_add,hset',if_pos rfl]) (λk mk e1 e2 e3=>?_)).symm;rw[Nat.zero_add,hset'] at e3;by_cases hkj:k=j
     ·omega
     ·rw[if_neg hkj] at e3;have hkn:k<ms.length:=(YLG e1).1;have hkD:ms.getD k default=mk:=by rw[List.getD_eq_getElem?_getD,e1]; rfl
      have hdefm:t∈defsT m:=by unfold defsT; rw[hdt]; simp
      have hdefk:t∈defsT mk:=by unfold defsT; rw[e2]; simp
      have:=key k hkn (λhlt=>by
       rcases D.slots j hjn k hlt with q|⟨_,q,_⟩
       ·exact q
       ·rw[hkD,hmD] at q; exact(q t hdefk hdefm).elim) (λhgt=>by
       rcases D.slots k hkn j hgt with q|⟨_,q,_⟩
       ·exact q
       ·rw[hkD,hmD] at q; exact(q t hdefm hdefk).elim) hkj
      rw[this] at e3;have:=of_decide_eq_true e3; omega
    ·rw[if_neg hdt,s4 t];refine YG _ _ _ _ _ (λk mk e1 e2=>?_) rfl;rw[Nat.zero_add];simp only[hset'];have hkj:k≠j:=by rintro rfl; rw[hmj] at e1; cases e1; exact hdt e2
     rw[if_neg hkj]
theorem QaC(hP:P.follows .mixedOrders=true){n:Nat}{id:Nat}{ms:List MOper}{hd:List (List Nat)}{ρ:Frame}{σ:List ABlk}{Q:APost}
 (h:AwpR true P GL ms ρ σ [] (λρ' σ' lg=>Qd hd lg=true∧Q .normal ρ' σ')):Awp P GL n (.region id ms (some hd)) ρ σ Q:=by
 intro c hc w0 L g a w r d;cases hc with
 |draw _ ops _ _ hsz hok hdr=>
  obtain⟨ts,htr⟩:=Zau ms ρ σ [] _ h;obtain⟨hlen,_,ρf,σf,_,_,hf3⟩:=Qbr ms ts 0 ρ σ [] _ htr;rw[List.nil_append] at hf3;refine wp_region_any hP ?_;refine QaL (w0:=w0) (L:=L) (g:=g) hsz hok hdr htr hf3.1 _ (λg' ρ' σ' a' w' k1 k2 k3 k4=>⟨g',ρ',σ',k1,k2,k3,k4.2⟩) ops.size _ a _ (by simp[hsz]) (λj hj=>?_) ?_ ⟨g,ρ,Gm.Le.refl g,?_,d,λt=>?_⟩
  ·exfalso;rw[Array.getD_eq_getD_getElem?,Array.getElem?_replicate] at hj;split at hj<;>simp at hj
  ·rw[hsz];have:∀m,cnt (λk=>(Array.replicate ms.length false).getD k false) m≤m:=by
    intro m
    induction m with
    |zero=>exact Nat.le_refl _
    |succ m ih=>simp only[cnt]; split<;>omega
   exact this _
  ·have hF:(λk=>(Array.replicate ops.size false).getD k false)=λ_=>false:=by
    funext k; rw[Array.getD_eq_getD_getElem?,Array.getElem?_replicate]; split<;>rfl
   rw[hF];have hid:∀(ts:List TS) (i:Nat) (h:Hp),hpS (λ_=>false) i ts h=h:=by
    intro ts
    induction ts with
    |nil=>intros; simp[hpS]
    |cons m ms ih=>intro i ρ; simp[hpS,ih]
   rw[hid];exact r.drew
  ·have hF:(λk=>(Array.replicate ops.size false).getD k false)=λ_=>false:=by
    funext k; rw[Array.getD_eq_getD_getElem?,Array.getElem?_replicate]; split<;>rfl
   rw[hF];have hid:∀(ms:List MOper) (ts:List TS) (i:Nat) (ρ:Frame),frS (λ_=>false) i ms ts ρ=ρ:=by
    intro ms
    induction ms with
    |nil=>intros; simp[frS]
    |cons m ms ih=>intro ts i ρ; cases ts with
     |nil=>simp[frS]
     |cons x ts=>simp[frS,ih]
   rw[hid]
end
end Go.Ah
end
section
namespace Go.Ah
theorem Steps.peel{P:Program}{m m₁ t:Machine}(h:Steps P m t)(hs:step P m=.next m₁):t=m∨Steps P m₁ t:=by
 obtain⟨n,hn⟩:=h;cases n with
 |zero=>simp[runN] at hn; exact .inl hn.symm
 |succ n=>simp only[runN,hs] at hn; exact .inr ⟨n,hn⟩
theorem Yaa:∀(k k':List Item) (id:Nat),exitTo id k=some k'→k'.length≤k.length
  |[],k',id,h=>by simp[exitTo] at h
  |x::k,k',id,h=>by
    have ih:=Yaa k k' id;cases x<;>simp only[exitTo] at h<;>first
      |(have:=ih h; simp; omega)
      | (split at h
         · cases h; simp
         · have:=ih h; simp; omega)
theorem Qao{b:Go.Frame}{a a':Act}{k k':List Item}{cs:List Go.Frame}{w w':World}(h:lone (b.at a k) cs w=lone (b.at a' k') cs w'):k=k':=by
 simp[lone,Go.Frame.at] at h;exact h.2.2.1
theorem Xao{b:Go.Frame}{a a':Act}{k k':List Item}{cs:List Go.Frame}{w w':World}{m:FrameMode}(hm:m≠.run)(h:lone { b.at a' k' with mode:=m } cs w'=lone (b.at a k) cs w):False:=by
 simp[lone,Go.Frame.at] at h;exact hm h.2.2.2.2
theorem Qa5{P:Program}{c:Code}{Q:Exit→Act→World→Prop}{a:Act}{w:World}(hQ:∀a w,¬Q .outgrown a w)(hQ2:∀l a w,¬Q (.goto l) a w)(h:(Code.loop c).wp P Q a w)(b:Go.Frame)(k:List Item)(cs:List Go.Frame) :
  ∃e a' w',Q e a' w'∧Arrives P (lone (b.at a (.code c::.inLoop c::k)) cs w) b k cs e a' w':=by
 obtain⟨e,a',w',hq,harr⟩:=h b k cs;refine⟨e,a',w',hq,?_⟩;cases e with
 |normal=>
  rcases Steps.peel harr step_loop with e|e
  ·have:=Qao e; have:=congrArg List.length this; simp at this
  ·exact e
 |exit id=>
  intro k' hk;rcases Steps.peel (harr k' hk) step_loop with e|e
  ·have:=Qao e; have:=congrArg List.length this; have:=Yaa _ _ _ hk; simp at *; omega
  ·exact e
 |goto l=>exact(hQ2 _ _ _ hq).elim
 |ret=>
  obtain⟨todo,hs⟩:=harr;rcases Steps.peel hs step_loop with e|e
  ·exact(Xao (by simp) e).elim
  ·exact⟨todo,e⟩
 |panic ch=>
  obtain⟨todo,hs⟩:=harr;rcases Steps.peel hs step_loop with e|e
  ·exact(Xao (by simp) e).elim
  ·exact⟨todo,e⟩
 |outgrown=>exact(hQ _ _ hq).elim
theorem Y9{P:Program}{c:Code}{Q:Exit→Act→World→Prop}{a:Act}{w:World}(hQ:∀a w,¬Q .outgrown a w)(hQ2:∀l a w,¬Q (.goto l) a w)
 (h:c.wp P (Exit.then (λa w=>(Code.loop c).wp P Q a w) Q) a w):(Code.loop c).wp P Q a w:=by
 intro b k cs;obtain⟨e,a₁,w₁,hq,harr⟩:=h b (.inLoop c::k) cs;cases e with
 |normal=>
  obtain⟨e₂,a₂,w₂,hq₂,harr₂⟩:=Qa5 hQ hQ2 hq b k cs;exact⟨e₂,a₂,w₂,hq₂,.of_steps (.one step_loop) (.of_steps (Steps.trans harr (.one step_inLoop)) harr₂)⟩
 |exit id=>exact⟨_,a₁,w₁,hq,.of_steps (.one step_loop) (.pass (x:=.inLoop c) rfl (λ_ _=>.inl (by simp)) harr)⟩
 |goto l=>exact(hQ2 _ _ _ hq).elim
 |ret=>exact⟨_,a₁,w₁,hq,.of_steps (.one step_loop) (.pass (x:=.inLoop c) rfl (λ_ _=>.inl (by simp)) harr)⟩
 |panic ch=>exact⟨_,a₁,w₁,hq,.of_steps (.one step_loop) (.pass (x:=.inLoop c) rfl (λ_ _=>.inl (by simp)) harr)⟩
 |outgrown=>exact(hQ _ _ hq).elim
theorem ZaK{P:Program}{GL:Globs}{n:Nat}{x:MCode}{ρ:Frame}{σ:List ABlk}{Q:APost}(h:Awp P GL n x ρ σ (APost.andThen (λρ σ=>Awp P GL n (.loop x) ρ σ Q) Q)):Awp P GL n (.loop x) ρ σ Q:=by
 intro c hc w0 L g a w r d;cases hc with
 |loop c1 _ h1=>
  refine Y9 (λa w h=>h) (λl a w h=>h) (wp_mono (h c1 h1 w0 L g a w r d) (λe a' w' hl=>?_));cases e with
  |normal=>
   obtain⟨g',ρ',σ',k1,k2,k3,k4⟩:=hl;exact wp_mono (k4 (.loop c1) (.loop _ _ h1) w0 L g' a' w' k2 k3) (LiftQ.mono k1 (λ_ _ _ q=>q))
  |_=>exact hl
section
variable (runner:Bool→Nat→List MOper→Frame→List ABlk→Log→Cons→MRes)
def Xk:MK→List AVal→Option (Nat×List AVal)
 |.call f,xs=>some (f,xs)
 |.callv,.func (.func f) first captured::xs=>some (f,first++xs++captured)
 |.invoke _ tbl,.iface t v::xs=>match Z7 t tbl with
  |some f=>some (f,v::xs)
  |none=>none
 |_,_=>none
end
section
variable {P:Program} {GL:Globs}
theorem Yad{F:MFn}{f:FuncId}{k:MK}{xs ys:List AVal}(hc:Xk k xs=some (f,ys))(hp:Qf P f=true)(ok:FnOk P GL f F)(hn:ys.length=F.np){σ:List ABlk}{R:AVal→List ABlk→Prop}
 (h:Awp P GL F.n F.body (frame0 ys) σ (λe ρ σ'=>(e=.normal∨e=.ret)∧∃v,retV F.rets ρ σ'=some v∧R v σ')):OpRel P GL k xs σ R:=by
 have key:=YD (P:=P) (GL:=GL) ok hn h;intro o os hco w0 L g w a r hx;unfold Xk at hc;split at hc
 ·cases hc;generalize ho:o.op=op at hco;cases hco with
  |call _ args ts _=>
   have hrun:(execOp a.eval o).run P w=.ok (.enter f (args.map a.eval)) w:=by
    simp only[execOp,ho,resolve,Sem.run_bind,Act.eval,Deferred.ofValue,Sem.run_pure,Result.andThen_ok,invoke];rw[Yq hp];simp
   rw[hrun];have:=key w0 L g w _ r hx
   rwa [←Array.toList_map,Array.toArray_toList] at this
 ·rename_i first captured xs'
  cases hc;generalize ho:o.op=op at hco;cases hco with
  |callv x args ts=>
   obtain⟨d,dr⟩:=hx;generalize hu:a.eval x=u0 at d;cases d with
   |func _ _ _ _ vs ws h1 h2 h3 h4=>
    have hrun:(execOp a.eval o).run P w=.ok (.enter f (vs++args.map a.eval++ws)) w:=by
     simp only[execOp,ho,resolve,Sem.run_bind,hu,Deferred.ofValue,Sem.run_pure,Result.andThen_ok,invoke];rw[Yq hp]
    rw[hrun];have hl:=dr.length;simp at hl;have:=key w0 L g w (vs ++ args.map a.eval ++ ws).toList r (DenL.of_get (by simp[h1,h2,hl]) (λi y u e1 e2=>by
     simp only[Array.toList_append] at e2;by_cases hi:i<first.length
     ·rw[List.append_assoc,List.getElem?_append_left hi] at e1;rw[List.append_assoc,List.getElem?_append_left (by simpa[h1] using hi)] at e2;exact h3 i y u e1 (by simpa using e2)
     ·by_cases hi2:i<first.length+xs'.length
      ·rw[List.append_assoc,List.getElem?_append_right (by omega),List.getElem?_append_left (by omega)] at e1;rw[List.append_assoc,List.getElem?_append_right (by simp; omega),List.getElem?_append_left (by simp; omega)] at e2;refine dr.get (i-first.length) y u e1 ?_;simpa[h1] using e2
      ·rw[List.getElem?_append_right (by simp; omega)] at e1;rw[List.getElem?_append_right (by simp; omega)] at e2;refine h4 (i - (first ++ xs').length) y u e1 ?_;simpa[h1,hl] using e2))
    rwa [Array.toArray_toList] at this
 ·rename_i name tbl ty v xs';split at hc
  ·rename_i f' hl;cases hc;generalize ho:o.op=op at hco;cases hco with
   |invoke y _ args ts _ hok=>
    obtain⟨d,dr⟩:=hx;generalize hu:a.eval y=u0 at d;cases d with
    |iface _ _ _ vv hvv=>
     obtain⟨k1,k2⟩:=hok _ (QL hl);have hrun:(execOp a.eval o).run P w=.ok (.enter f (#[vv]++args.map a.eval)) w:=by
      simp only[execOp,ho,resolve,Sem.run_bind,hu,Sem.run_pure,Result.andThen_ok,invoke];have e0:(#[Value.iface ty vv]++args.map a.eval)[0]?=some (Value.iface ty vv):=by rw[Array.getElem?_append_left (by simp)]; rfl
      have e1:(#[Value.iface ty vv]++args.map a.eval).extract 1 (#[Value.iface ty vv]++args.map a.eval).size=args.map a.eval:=by
       apply Array.ext';simp only[Array.toList_extract,Array.toList_append,List.extract_eq_take_drop,List.cons_append,List.nil_append,List.drop_succ_cons,List.drop_zero,Array.size_append,List.size_toArray,List.length_singleton];rw[List.take_of_length_le (by simp)]
      simp only[e0,e1];exact Yac k1 k2 vv _ w
     rw[hrun];have:=key w0 L g w (vv::(args.map a.eval).toList) r ⟨hvv,by rwa [Array.toList_map]⟩;have e2:(vv::(args.map a.eval).toList).toArray = #[vv]++args.map a.eval:=by apply Array.ext'; simp
     rw[e2] at this;exact this
  ·cases hc
 ·cases hc
end
end Go.Ah
end
section
namespace Go.Ah
def nilOf:NilCls→Value→Bool
 |.ptr,.pointer none=>true
 |.slice,.slice none 0 0=>true
 |.iface,.nilIface=>true
 |.func,.nilFunc=>true
 |.map,.map none=>true
 |_,_=>false
theorem Qbh{c:NilCls}{v:Value}(h:nilOf c v=true):v=nilV c:=by
 unfold nilOf at h;split at h<;>first|rfl|cases h
def optB{α β:Type}(o:Option α)(f:α→Option β):Option β:=match o with
 |some a=>f a
 |none=>none
theorem Yb{α β:Type}{o:Option α}{f:α→Option β}{b:β}(h:optB o f=some b):∃a,o=some a∧f a=some b:=by
 cases o with
 |none=>cases h
 |some a=>exact⟨a,rfl,h⟩
def Zu{β:Type}(c:Bool)(x:Option β):Option β:=match c with
 |true=>x
 |false=>none
theorem Zh{β:Type}{c:Bool}{x:Option β}{b:β}(h:Zu c x=some b):c=true∧x=some b:=by
 cases c with
 |true=>exact⟨rfl,h⟩
 |false=>cases h
def mapM'{α β:Type}(f:α→Option β):List α→Option (List β)
 |[]=>some []
 |a::l=>optB (f a) λb=>optB (mapM' f l) λr=>some (b::r)
theorem QaG{α β:Type}(f:α→Option β):∀(l:List α),l.mapM f=mapM' f l
 |[]=>rfl
 |a::l=>by
  rw[List.mapM_cons,QaG f l,mapM'];cases f a with
  |none=>rfl
  |some b=>cases mapM' f l<;>rfl
def zeroCells(P:Program)(t:TypeId):Option (List AVal):=optB (zero? P t) λv=>Xl v.cells.toList
def Y3(P:Program)(t:TypeId):Bool:=match P.underlying t with
 |some .bool=>true
 |_=>false
theorem QQ{P:Program}{t:TypeId}(h:Y3 P t=true):P.underlying t=some .bool:=by
 unfold Y3 at h; split at h<;>first|assumption|cases h
def Ya5(P:Program)(t:TypeId):Bool:=match P.underlying t with
 |some .string=>true
 |_=>false
theorem Xa5{P:Program}{t:TypeId}(h:Ya5 P t=true):P.underlying t=some .string:=by
 unfold Ya5 at h; split at h<;>first|assumption|cases h
def intT?(P:Program)(t:TypeId):Option IntKind:=match P.underlying t with
 |some (.int k)=>some k
 |_=>none
theorem Xbq{P:Program}{t:TypeId}{k:IntKind}(h:intT? P t=some k):P.underlying t=some (.int k):=by
 unfold intT? at h; split at h<;>first|(cases h; assumption)|cases h
theorem QaE{P:Program}{t e:TypeId}(h:elemS? P t=some e):P.underlying t=some (.slice e):=by
 unfold elemS? at h; split at h<;>first|(cases h; assumption)|cases h
def keyT?(P:Program)(k:TypeId):Option Bool:=match P.underlying k with
 |some .string=>some true
 |some (.int _)=>some false
 |_=>none
theorem Zaz{P:Program}{k:TypeId}{s:Bool}(h:keyT? P k=some s):KeyT P k s:=by
 unfold keyT? at h;split at h
 ·rename_i e; cases h; exact e
 ·rename_i q e; cases h; exact⟨q,e⟩
 ·cases h
def YaH(c:NilCls):Operand→Bool
 |.const v=>nilOf c v
 |_=>false
theorem Zaq{c:NilCls}{x:Operand}(h:YaH c x=true):x=.const (nilV c):=by
 cases x<;>simp only[YaH] at h<;>first|cases h|rw[Qbh h]
def eqOp:BinOp→Option Bool
 |.eql=>some false
 |.neq=>some true
 |_=>none
theorem Xbp{op:BinOp}{b:Bool}(h:eqOp op=some b):op=if b then .neq else .eql:=by
 cases op<;>simp_all [eqOp]<;>subst h<;>rfl
def Xav(P:Program)(op:BinOp)(t:TypeId)(x y:Operand):Option (MK×List Operand):=
 match eqOp op with
 |none=>some (.bin op (Y3 P t),[x,y])
 |some neq=>match clsT P t with
  |some c=>match YaH c y with
   |true=>some (.eqNil c neq false,[x,y])
   |false=>match YaH c x with
    |true=>some (.eqNil c neq true,[x,y])
    |false=>some (.bin op (Y3 P t),[x,y])
  |none=>match leaves? P t with
   |some ls=>Zu (!P.stoodInHeld t && !P.eqGuardType P.depth t) (some (.eqS neq ls,[x,y]))
   |none=>some (.bin op (Y3 P t),[x,y])
def Qaf(P:Program)(c:Call):Option (MK×List Operand):=
 match c.callee with
 |.value (.func f)=>Zu (Qf P f) (some (.call f,c.args.toList))
 |.value x=>some (.callv,x::c.args.toList)
 |.invoke x name=>some (.invoke name (Za6 P name),x::c.args.toList)
 |.builtin .len=>match c.args.toList,c.argTypes.toList with
  |[x],[t]=>match P.underlying t with
   |some (.slice _)=>some (.lenS,[x])
   |some .string=>some (.lenStr,[x])
   |some (.array n _)=>some (.lenA n,[x])
   |some (.map _ _)=>some (.lenM,[x])
   |_=>none
  |_,_=>none
 |.builtin .clear=>match c.args.toList,c.argTypes.toList with
  |[x],[t]=>optB (elemS? P t) λe=>optB (size? P e) λn=>optB (zero? P e) λv=>optB (Xl v.cells.toList) λz=>
   Zu (Nat.beq v.cells.size n && !(Nat.beq n 0)) (some (.clearS n z,[x]))
  |_,_=>none
 |.builtin .min=>match c.args.toList with
  |[x,y]=>some (.min2,[x,y])
  |_=>none
 |.builtin .max=>match c.args.toList with
  |[x,y]=>some (.max2,[x,y])
  |_=>none
 |.builtin .append=>match c.args.toList,c.argTypes.toList with
  |[x,y],[t,t']=>optB (elemS? P t) λe=>optB (elemS? P t') λ_=>optB (size? P e) λn=>optB (zero? P e) λv=>optB (Xl v.cells.toList) λz=>
   Zu (Nat.beq v.cells.size n&&(!(Nat.beq (P.bytesOf e) 0) && !(Nat.beq n 0))) (some (.append n (P.bytesOf e) z,[x,y]))
  |_,_=>none
 |_=>none
def ZaA:Operand→Operand→Bool
 |.tmp a,.tmp b=>Nat.beq a b
 |_,_=>false
theorem XaN{x y:Operand}(h:ZaA x y=true):x=y:=by
 cases x<;>cases y<;>simp only[ZaA] at h<;>first|cases h|rw[YNB h]
def ZaW(P:Program):Op→Option (MK×List Operand)
 |.move x=>some (.mv,[x])
 |.assign x=>some (.mv,[x])
 |.pick c a b=>some (.pick,[c,a,b])
 |.alloc t=>optB (zeroCells P t) λz=>some (.alloc z,[])
 |.box _ x=>some (.box,[x])
 |.build t parts=>match P.underlying t with
  |some (.struct fs)=>optB (zeroCells P t) λz=>optB (mapM' (λf=>(P.info? f.type).map λi=>(f.offset,i.size)) fs.toList) λplaces=>
   optB (mapM' (λ(p:Nat×Operand)=>places[p.1]?) parts.toList) λps=>some (.build z ps,parts.toList.map (·.2))
  |some (.array _ e)=>optB (zeroCells P t) λz=>optB (size? P e) λsz=>some (.build z (parts.toList.map (λp=>(p.1*sz,sz))),parts.toList.map (·.2))
  |_=>none
 |.buildSlice t 0 parts=>optB (elemS? P t) λe=>optB (size? P e) λsz=>match parts.toList with
  |[]=>some (.buildS0 sz,[])
  |_=>none
 |.makeSlice t l c=>optB (elemS? P t) λe=>optB (size? P e) λn=>optB ((P.info? e).map (·.bytes)) λby_=>optB (zero? P e) λv=>optB (Xl v.cells.toList) λz=>
  Zu (!(Nat.beq n 0) && Nat.beq v.cells.size n) (match ZaA l c with
   |true=>some (.makeS n by_ z,[l])
   | false=>none)
 |.buildSlice t n parts=>optB (elemS? P t) λe=>optB (size? P e) λsz=>optB (zero? P e) λv=>optB (Xl v.cells.toList) λz0=>
  Zu (Nat.ble (n*sz) (2 ^ 24)&&(!(Nat.beq (n*sz) 0)&&Nat.beq v.cells.size sz)) (some (.buildS sz n (List.replicate n z0).flatten (parts.toList.map (λp=>(p.1*sz,sz))),parts.toList.map (·.2)))
 |.load t x=>optB (isAgg? P t) λagg=>optB (size? P t) λn=>some (.load agg n,[x])
 |.store t x y=>optB (size? P t) λn=>some (.store n,[x,y])
 |.nilCheck x=>some (.nilCheck,[x])
 |.binOp op t x y _=>Xav P op t x y
 |.unOp op _ x=>some (.un op,[x])
 |.convert s d x=>Zu (P.underlying s).isSome (optB (intT? P d) λk=>some (.conv k,[x]))
 |.makeInterface t x=>Zu (P.concrete t) (some (.mkIface t,[x]))
 |.makeFunc fn xs ys=>some (.mkFunc fn xs.size,xs.toList++ys.toList)
 |.makeMap _ none=>some (.makeMap,[])
 |.fieldAddr t x f=>match P.underlying t with
  |some (.struct fs)=>optB fs[f]? λfd=>optB (size? P fd.type) λn=>Zu (!(Nat.beq n 0)) (some (.fieldAddr fd.offset,[x]))
  |_=>none
 |.field t x f=>match P.underlying t with
  |some (.struct fs)=>optB fs[f]? λfd=>optB (size? P fd.type) λn=>optB (isAgg? P fd.type) λagg=>some (.field agg fd.offset n,[x])
  |_=>none
 |.indexAddr t x i=>match P.underlying t with
  |some (.array len e)=>optB (size? P e) λn=>some (.idxAddrA len n,[x,i])
  |some (.slice e)=>optB (size? P e) λn=>some (.idxAddrS n,[x,i])
  |_=>none
 |.index t x i=>match P.underlying t with
  |some (.array len e)=>optB (size? P e) λn=>optB (isAgg? P e) λagg=>some (.idxA agg len n,[x,i])
  |some .string=>some (.idxStr,[x,i])
  |_=>none
 |.extract x i=>some (.extract i,[x])
 |.slice t x lo hi mx=>match P.underlying t with
  |some (.slice e)=>optB (size? P e) λn=>some (.sliceS n lo.isSome hi.isSome mx.isSome,[x]++lo.toList++hi.toList++mx.toList)
  |some .string=>match mx with
   |none=>some (.sliceStr lo.isSome hi.isSome,[x]++lo.toList++hi.toList)
   |some _=>none
  |_=>none
 |.call c=>Qaf P c
 |.lookup t x i ok=>match P.underlying t with
  |some (.map k e)=>optB (keyT? P k) λstr=>optB (zero? P e) λv=>optB (aVal v) λz=>some (.lookup str ok z,[x,i])
  |_=>none
 |.mapUpdate t x i y=>match P.underlying t with
  |some (.map k _)=>optB (keyT? P k) λstr=>some (.mapUpd str,[x,i,y])
  |_=>none
 |.insert t x i y=>match P.underlying t with
  |some (.map k _)=>optB (keyT? P k) λstr=>some (.mapUpd str,[x,i,y])
  |_=>none
 |.range t x=>Zu (Ya5 P t) (some (.range,[x]))
 |.next x true=>some (.next,[x])
 |.typeAssert x _ u ok=>Zu (P.concrete u&&(P.underlying u).isSome) (optB (zero? P u) λv=>optB (aVal v) λz=>some (.assertT u ok z,[x]))
 |_=>none
section
variable {P:Program} {GL:Globs}
theorem QaK{op:BinOp}{t t':TypeId}{x y:Operand}{k:MK}{os:List Operand}(h:Xav P op t x y=some (k,os)):Comp P GL (.binOp op t x y t') k os:=by
 unfold Xav at h;split at h
 ·cases h; exact .bin _ _ _ _ _ _ QQ
 ·rename_i neq heq;have hop:=Xbp heq;split at h
  ·rename_i c hc;split at h
   ·rename_i hn;cases h;rw[hop,Zaq hn];exact .eqNilR _ _ _ _ _ hc
   ·split at h
    ·rename_i hn;cases h;rw[hop,Zaq hn];exact .eqNilL _ _ _ _ _ hc
    ·cases h; exact .bin _ _ _ _ _ _ QQ
  ·split at h
   ·rename_i ls hl;obtain⟨hg,h⟩:=Zh h;cases h;simp only[Bool.and_eq_true,Bool.not_eq_true'] at hg;rw[hop];exact .eqS _ _ _ _ _ _ hl hg.1 hg.2
   ·cases h; exact .bin _ _ _ _ _ _ QQ
theorem XM{α:Type}{a:Array α}{x:α}(h:a.toList=[x]):a = #[x]:=by
 cases a; simp at h; subst h; rfl
theorem QM{α:Type}{a:Array α}{x y:α}(h:a.toList=[x,y]):a = #[x,y]:=by
 cases a; simp at h; subst h; rfl
theorem Qav{c:Call}{k:MK}{os:List Operand}(h:Qaf P c=some (k,os)):Comp P GL (.call c) k os:=by
 unfold Qaf at h;obtain⟨callee,args,ts⟩:=c;simp only at h;split at h
 ·obtain⟨hg,h⟩:=Zh h;cases h;exact .call _ _ _ hg
 ·cases h; exact .callv _ _ _
 ·cases h;refine .invoke _ _ _ _ _ (λp hp=>?_);simp only[Za6,List.mem_filterMap,List.mem_range] at hp;obtain⟨t,_,h⟩:=hp;split at h
  ·rename_i f hf;cases hpl:Qf P f with
   |true=>rw[hpl] at h; cases h; exact⟨hf,hpl⟩
   |false=>rw[hpl] at h; cases h
  ·cases h
 ·split at h
  ·rename_i ha ht;have:=XM ha; subst this;have:=XM ht; subst this;split at h
   ·rename_i hu; cases h; exact .lenS _ _ _ hu
   ·rename_i hu; cases h; exact .lenStr _ _ hu
   ·rename_i hu; cases h; exact .lenA _ _ _ _ hu
   ·rename_i hu; cases h; exact .lenM _ _ _ _ hu
   ·cases h
  ·cases h
 ·split at h
  ·rename_i ha ht;have:=XM ha; subst this;have:=XM ht; subst this;obtain⟨e,he,h⟩:=Yb h;obtain⟨n,hn,h⟩:=Yb h;obtain⟨v,hv,h⟩:=Yb h;obtain⟨z,hz,h⟩:=Yb h;obtain⟨hg,h⟩:=Zh h;simp only[Bool.and_eq_true,Bool.not_eq_true'] at hg;cases h;exact .clearS _ e _ _ v _ he hn (λe0=>by rw[e0] at hg; cases hg.2) hv (YNB hg.1) hz
  ·cases h
 ·split at h
  ·rename_i ha; have:=QM ha; subst this; cases h; exact .min2 _ _ _
  ·cases h
 ·split at h
  ·rename_i ha; have:=QM ha; subst this; cases h; exact .max2 _ _ _
  ·cases h
 ·split at h
  ·rename_i ha ht;have:=QM ha; subst this;have:=QM ht; subst this;obtain⟨e,he,h⟩:=Yb h;obtain⟨e',he',h⟩:=Yb h;obtain⟨n,hn,h⟩:=Yb h;obtain⟨v,hv,h⟩:=Yb h;obtain⟨z,hz,h⟩:=Yb h;obtain⟨hg,h⟩:=Zh h;simp only[Bool.and_eq_true,Bool.not_eq_true'] at hg;cases h;exact .append _ _ e _ _ _ _ v _ (QaE he) ⟨_,QaE he',by simp⟩ hn rfl hv (YNB hg.1) hz (λe0=>by rw[e0] at hg; cases hg.2.1) (λe0=>by rw[e0] at hg; cases hg.2.2)
  ·cases h
 ·cases h
theorem Yap{α β:Type}{f:α→Option β}:∀ {l:List α} {r:List β},mapM' f l=some r→l.map f=r.map some
 |[],r,h=>by simp[mapM'] at h; subst h; rfl
 |a::l,r,h=>by
  obtain⟨b,hb,h⟩:=Yb h;obtain⟨r',hr,h⟩:=Yb h;cases h;simp[hb,Yap hr]
theorem YaW{op:Op}{k:MK}{os:List Operand}(h:ZaW P op=some (k,os)):Comp P GL op k os:=by
 unfold ZaW at h;split at h
 ·cases h; exact .move _
 ·cases h; exact .assign _
 ·cases h; exact .pick _ _ _
 ·obtain⟨z,hz,h⟩:=Yb h;obtain⟨v,hv,hz⟩:=Yb hz;cases h; exact .alloc _ v _ hv hz
 ·cases h; exact .box _ _
 ·split at h
  ·rename_i fs hu;obtain⟨z,hz,h⟩:=Yb h;obtain⟨v,hv,hz⟩:=Yb hz;obtain⟨places,hp,h⟩:=Yb h;obtain⟨ps,hps,h⟩:=Yb h;cases h;exact .buildStruct _ fs v _ _ places _ hu hv hz (by rw[QaG]; exact hp) (Yap hps)
  ·rename_i n e hu;obtain⟨z,hz,h⟩:=Yb h;obtain⟨v,hv,hz⟩:=Yb hz;obtain⟨sz,hs,h⟩:=Yb h;cases h;exact .buildArray _ n e v _ _ _ sz hu hv hz hs rfl
  ·cases h
 ·obtain⟨e,he,h⟩:=Yb h;obtain⟨sz,hs,h⟩:=Yb h;split at h
  ·rename_i hp; cases h; exact .buildSlice0 _ e _ _ he hs hp
  ·cases h
 ·obtain⟨e,he,h1⟩:=Yb h;obtain⟨n,hn,h2⟩:=Yb h1;obtain⟨b,hb,h3⟩:=Yb h2;obtain⟨v,hv,h4⟩:=Yb h3;obtain⟨z,hz,h5⟩:=Yb h4;obtain⟨hg,h6⟩:=Zh h5;clear h h1 h2 h3 h4 h5;simp only[Bool.and_eq_true,Bool.not_eq_true'] at hg;split at h6
  ·rename_i hs;have:=XaN hs;subst this;cases h6;exact .makeSlice _ _ e v _ _ _ he hn hb (λe0=>by rw[e0] at hg; cases hg.1) hv (YNB hg.2) hz
  ·cases h6
 ·obtain⟨e,he,h⟩:=Yb h;obtain⟨sz,hs,h⟩:=Yb h;obtain⟨v,hv,h⟩:=Yb h;obtain⟨z0,hz,h⟩:=Yb h;obtain⟨hg,h⟩:=Zh h;simp only[Bool.and_eq_true,Bool.not_eq_true'] at hg;cases h;exact .buildSlice _ _ e v z0 _ _ _ _ he hs (YNL hg.1) (λe0=>by rw[e0] at hg; cases hg.2.1) hv (YNB hg.2.2) hz rfl rfl
 ·obtain⟨agg,ha,h⟩:=Yb h;obtain⟨n,hn,h⟩:=Yb h;cases h; exact .load _ _ _ _ ha hn
 ·obtain⟨n,hn,h⟩:=Yb h;cases h; exact .store _ _ _ _ hn
 ·cases h; exact .nilCheck _
 ·exact QaK h
 ·cases h; exact .un _ _ _
 ·obtain⟨hg,h⟩:=Zh h;obtain⟨q,hq,h⟩:=Yb h;cases h; exact .conv _ _ _ _ hg (Xbq hq)
 ·obtain⟨hg,h⟩:=Zh h;cases h; exact .mkIface _ _ hg
 ·cases h; exact .mkFunc _ _ _
 ·cases h; exact .makeMap _
 ·split at h
  ·rename_i fs hu;obtain⟨fd,hf,h⟩:=Yb h;obtain⟨n,hn,h⟩:=Yb h;obtain⟨hg,h⟩:=Zh h;cases h;exact .fieldAddr _ _ _ fs fd n hu hf hn (λe0=>by rw[e0] at hg; cases hg)
  ·cases h
 ·split at h
  ·rename_i fs hu;obtain⟨fd,hf,h⟩:=Yb h;obtain⟨n,hn,h⟩:=Yb h;obtain⟨agg,ha,h⟩:=Yb h;cases h;exact .field _ _ _ fs fd _ _ hu hf hn ha
  ·cases h
 ·split at h
  ·rename_i len e hu;obtain⟨n,hn,h⟩:=Yb h;cases h; exact .idxAddrA _ _ _ _ e _ hu hn
  ·rename_i e hu;obtain⟨n,hn,h⟩:=Yb h;cases h; exact .idxAddrS _ _ _ e _ hu hn
  ·cases h
 ·split at h
  ·rename_i len e hu;obtain⟨n,hn,h⟩:=Yb h;obtain⟨agg,ha,h⟩:=Yb h;cases h; exact .idxA _ _ _ _ e _ _ hu hn ha
  ·rename_i hu; cases h; exact .idxStr _ _ _ hu
  ·cases h
 ·cases h; exact .extract _ _
 ·split at h
  ·rename_i e hu;obtain⟨n,hn,h⟩:=Yb h;cases h; exact .sliceS _ _ _ _ _ e _ hu hn
  ·rename_i hu;split at h
   ·cases h; exact .sliceStr _ _ _ _ hu
   ·cases h
  ·cases h
 ·exact Qav h
 ·split at h
  ·rename_i k e hu;obtain⟨s,hs,h⟩:=Yb h;obtain⟨v,hv,h⟩:=Yb h;obtain⟨z,hz,h⟩:=Yb h;cases h; exact .lookup _ k e _ _ _ _ v _ hu (Zaz hs) hv hz
  ·cases h
 ·split at h
  ·rename_i k e hu;obtain⟨s,hs,h⟩:=Yb h;cases h; exact .mapUpdate _ k e _ _ _ _ hu (Zaz hs)
  ·cases h
 ·split at h
  ·rename_i k e hu;obtain⟨s,hs,h⟩:=Yb h;cases h; exact .mapInsert _ k e _ _ _ _ hu (Zaz hs)
  ·cases h
 ·obtain⟨hg,h⟩:=Zh h;cases h; exact .range _ _ (Xa5 hg)
 ·cases h; exact .next _
 ·obtain⟨hg,h⟩:=Zh h;simp only[Bool.and_eq_true] at hg;obtain⟨v,hv,h⟩:=Yb h;obtain⟨z,hz,h⟩:=Yb h;cases h; exact .assertT _ _ _ _ v _ hg.1 hg.2 hv hz
 ·cases h
end
end Go.Ah
end
section
namespace Go.Ah
def XaF(g:Nat):Globs→Option (List AVal)
 |[]=>none
 |(q,row)::r=>match Nat.beq g q with
  |true=>some row
  |false=>XaF g r
theorem Yan{g:Nat}{row:List AVal}:∀ {GL:Globs},XaF g GL=some row→(g,row)∈GL
 |[],h=>by cases h
 |(q,r)::GL,h=>by
  simp only[XaF] at h;split at h
  ·rename_i e; cases h; rw[YNB e]; simp
  ·exact List.mem_cons_of_mem _ (Yan h)
def Yaw(GL:Globs):Operand→Option Opd
 |.tmp t=>some (.t t)
 |.const v=>optB (aVal v) λx=>some (.c x)
 |.global g=>optB (XaF g GL) λrow=>some (.c (.rptr row 0))
 |.func f=>some (.c (.func (.func f) [] []))
theorem Q9{GL:Globs}{x:Operand}{y:Opd}(h:Yaw GL x=some y):OpdOk GL x y:=by
 cases x with
 |tmp t=>cases h; exact .tmp _
 |const v=>obtain⟨z,hz,h⟩:=Yb h; cases h; exact .const _ _ hz
 |global g=>obtain⟨z,hz,h⟩:=Yb h; cases h; exact .glob _ _ (Yan hz)
 |func f=>cases h; exact .func _
theorem YR{α β:Type}{f:α→Option β}{R:α→β→Prop}(hR:∀ {a b},f a=some b→R a b):∀ {l:List α} {r:List β},mapM' f l=some r→All2 R l r
 |[],r,h=>by simp[mapM'] at h; subst h; trivial
 |a::l,r,h=>by
  obtain⟨b,hb,h⟩:=Yb h;obtain⟨r',hr,h⟩:=Yb h;cases h;exact⟨hR hb,YR hR hr⟩
def dstOk(n:Nat):Option Nat→Bool
 |none=>true
 |some d=>Nat.blt d n
def QaV(ops:List Oper):Option (Nat×Bool)→Option (Option (Nat×Bool))
 |none=>some none
 |some (j,w)=>optB (nth ops j) λo=>optB o.dst λs=>some (some (s,w))
def Zag(P:Program)(GL:Globs)(n:Nat)(ops:List Oper)(o:Oper):Option MOper:=
 Zu (dstOk n o.dst) (optB (ZaW P o.op) λ(k,os)=>optB (mapM' (Yaw GL) os) λxs=>optB (QaV ops o.guard) λg=>some ⟨o.dst,k,xs,g⟩)
theorem Xaw{P:Program}{GL:Globs}{n:Nat}{ops:Array Oper}{o:Oper}{m:MOper}(h:Zag P GL n ops.toList o=some m):OperOk P GL n ops o m:=by
 unfold Zag at h;obtain⟨hd,h⟩:=Zh h;obtain⟨⟨k,os⟩,hc,h⟩:=Yb h;obtain⟨xs,hx,h⟩:=Yb h;obtain⟨g,hg,h⟩:=Yb h;cases h;refine⟨rfl,λd e=>?_,⟨os,YaW hc,YR Q9 hx⟩,?_⟩
 ·simp only at e; rw[e] at hd; exact YNL hd
 ·cases hog:o.guard with
  |none=>rw[hog] at hg; cases hg; trivial
  |some jw=>
   obtain⟨j,w⟩:=jw;rw[hog] at hg;obtain⟨o',ho',hg⟩:=Yb hg;obtain⟨s,hs,hg⟩:=Yb hg;cases hg;rw[ZD,Array.getElem?_toList] at ho';exact⟨rfl,by rw[ho']; exact hs⟩
def heads(ops:List Oper)(acc:List (List Nat)):List (List Nat):=
 match ops with
 |[]=>acc
 |o::r=>heads r (acc++[(List.range acc.length).filter ((waits o).foldl (λl j=>addAll (j::Zr acc j) l) []).contains])
where addAll:List Nat→List Nat→List Nat
 |[],l=>l
 |x::xs,l=>match l.contains x with
  |true=>addAll xs l
  |false=>addAll xs (x::l)
def Zj(P:Program)(GL:Globs)(n:Nat):Code→Option MCode
 |.skip=>some .skip
 |.region id ops dr=>optB (mapM' (Zag P GL n ops.toList) ops.toList) λms=>match dr with
  |false=>some (.region id ms none)
  |true=>Zu (Zam ops.toList ms (heads ops.toList [])) (some (.region id ms (some (heads ops.toList []))))
 |.seq a b=>optB (Zj P GL n a) λx=>optB (Zj P GL n b) λy=>some (.seq x y)
 |.cond c a b=>optB (Yaw GL c) λd=>optB (Zj P GL n a) λx=>optB (Zj P GL n b) λy=>some (.cond d x y)
 |.block id a=>optB (Zj P GL n a) λx=>some (.block id x)
 |.loop a=>optB (Zj P GL n a) λx=>some (.loop x)
 |.scope a=>optB (Zj P GL n a) λx=>some (.scope x)
 |.exit id=>some (.exit id)
 |.label l=>some (.label l)
 |.ret=>some .ret
 |_=>none
theorem Zap{α β:Type}{f:α→Option β}:∀ {l:List α} {r:List β},mapM' f l=some r→l.length=r.length∧∀(j:Nat) (b:β),r[j]?=some b→∃a,l[j]?=some a∧f a=some b
 |[],r,h=>by simp[mapM'] at h; subst h; simp
 |a::l,r,h=>by
  obtain⟨b,hb,h⟩:=Yb h;obtain⟨r',hr,h⟩:=Yb h;cases h;obtain⟨h1,h2⟩:=Zap hr;refine⟨by simp[h1],λj c e=>?_⟩;cases j with
  |zero=>simp at e; subst e; exact⟨a,rfl,hb⟩
  |succ j=>simp at e; obtain⟨a',q1,q2⟩:=h2 j c e; exact⟨a',by simpa using q1,q2⟩
theorem Zaw{P:Program}{GL:Globs}{n:Nat}:∀ {c:Code} {m:MCode},Zj P GL n c=some m→CodeOk P GL n c m:=by
 intro c
 induction c with
 |skip=>intro m h; cases h; exact .skip
 |region id ops dr=>
  intro m h;simp only[Zj] at h;obtain⟨ms,hm,h⟩:=Yb h;obtain⟨h1,h2⟩:=Zap hm;have hok:∀(j:Nat) (x:MOper),ms[j]?=some x→∃o,ops[j]?=some o∧OperOk P GL n ops o x:=λj x e=>by
   obtain⟨o,q1,q2⟩:=h2 j x e;exact⟨o,by simpa using q1,Xaw q2⟩
  cases dr with
  |false=>cases h; exact .region _ _ _ (by simpa using h1) hok
  |true=>
   obtain⟨hg,h⟩:=Zh h;cases h; exact .draw _ _ _ _ (by simpa using h1) hok hg
 |seq a b iha ihb=>
  intro m h;simp only[Zj] at h;obtain⟨x,hx,h⟩:=Yb h;obtain⟨y,hy,h⟩:=Yb h;cases h; exact .seq _ _ _ _ (iha hx) (ihb hy)
 |cond c a b iha ihb=>
  intro m h;simp only[Zj] at h;obtain⟨d,hd,h⟩:=Yb h;obtain⟨x,hx,h⟩:=Yb h;obtain⟨y,hy,h⟩:=Yb h;cases h; exact .cond _ _ _ _ _ _ (Q9 hd) (iha hx) (ihb hy)
 |block id a ih=>
  intro m h;simp only[Zj] at h;obtain⟨x,hx,h⟩:=Yb h;cases h; exact .block _ _ _ (ih hx)
 |loop a ih=>
  intro m h;simp only[Zj] at h;obtain⟨x,hx,h⟩:=Yb h;cases h; exact .loop _ _ (ih hx)
 |scope a ih=>
  intro m h;simp only[Zj] at h;obtain⟨x,hx,h⟩:=Yb h;cases h; exact .scope _ _ (ih hx)
 |exit id=>intro m h; cases h; exact .exit _
 |label l=>intro m h; cases h; exact .label _
 |ret=>intro m h; cases h; exact .ret
 |_=>intro m h; simp[Zj] at h
def XaW(P:Program):ResultVar→Option RV
 |.tmp t=>some (.t t)
 |.cell s t=>optB (isAgg? P t) λagg=>optB (size? P t) λn=>some (.c s agg n)
theorem ZaL{P:Program}{r:ResultVar}{v:RV}(h:XaW P r=some v):RvOk P r v:=by
 cases r with
 |tmp t=>cases h; exact .tmp _
 |cell s t=>
  obtain⟨agg,ha,h⟩:=Yb h;obtain⟨n,hn,h⟩:=Yb h;cases h; exact .cell _ _ _ _ ha hn
def YaV(P:Program)(GL:Globs)(np:Nat)(f:FuncId):Option MFn:=
 optB P.funcs[f]? λfn=>optB fn.body λc=>Zu (Nat.ble np fn.ntmps) (optB (Zj P GL fn.ntmps c) λm=>optB (mapM' (XaW P) fn.results.toList) λrs=>some ⟨np,fn.ntmps,m,rs⟩)
theorem XaV{P:Program}{GL:Globs}{np:Nat}{f:FuncId}{F:MFn}(h:YaV P GL np f=some F):FnOk P GL f F:=by
 unfold YaV at h;obtain⟨fn,h1,h⟩:=Yb h;obtain⟨c,h2,h⟩:=Yb h;obtain⟨h3,h⟩:=Zh h;obtain⟨m,h4,h⟩:=Yb h;obtain⟨rs,h5,h⟩:=Yb h;cases h;exact⟨⟨fn,c,h1,h2,rfl,Zaw h4,YR ZaL h5⟩,YNL h3⟩
theorem Bor.ptr{h0:Hp}{rd:List Nat}{b i j sz:Nat}{rs:List (List AVal)}{row row':List AVal}(hb:h0 b=some (.rows sz rs))(hin:b∈rd)(hi:rs[i]?=some row)(hr:BorL h0 rd row row'):Bor h0 rd (.ptr b i j) (.rptr row' j):=by
 intro GL w0 L g h w M2 r hM hrd v d;have hb':h b=some (.rows sz rs):=by rw[hrd b hin]; exact hb
 cases d with
 |ptr _ _ _ _ cb ec=>
 cases hvirt:cb.virt with
 |true=>
  have:=(r.virtRows hb' ec hvirt).2;subst this; simp at hi
 |false=>
 obtain⟨e1,arr,T,ho',hs,hle,hrow,hden⟩:=r.rowsBlk hb' ec hvirt;have hw:M2 cb.blk=some (.cells arr T (0,0)):=hM.2 b _ cb _ hb' rfl ec hvirt ho';have hlt:i<rs.length:=(YLG hi).1;have hrl:=hrow _ _ hi;have hin2:∀k,k<sz→i*sz+k<arr.size:=by
  intro k hk;have:(i+1)*sz≤rs.length*sz:=Nat.mul_le_mul_right sz hlt;rw[Nat.succ_mul] at this; omega
 obtain⟨k1,k2⟩:=hr.get r hM hrd (vs:=(arr.extract (i * sz) (i * sz + sz)).toList) (by
  simp[hrl];by_cases h0:sz=0
  ·subst h0; simp
  ·have:=hin2 (sz-1) (by omega); omega) (λk x v q3 q4=>by
  have hk:k<sz:=by rw[←hrl]; exact(YLG q3).1
  have hl2:=hin2 k hk;rw[Array.getElem?_toList] at q4;obtain⟨_,q4⟩:=Array.getElem?_eq_some_iff.1 q4;rw[Array.getElem_extract] at q4;exact hden _ row k x v hi q3 (by rw[Array.getElem?_eq_getElem hl2,q4]))
 have hlen:row'.length=sz:=by
  rw[k1]; simp;by_cases h0:sz=0
  ·subst h0; simp
  ·have:=hin2 (sz-1) (by omega); omega
 rw[e1];refine .rptr _ _ _ _ _ (λk=>(arr[i*sz+k]?).getD undef) (λk hk=>?_) (λk x e=>?_)
 ·have hk':=hin2 k (by omega);simp[mcell,hw,hk']
 ·have hk:k<sz:=by rw[←hlen]; exact(YLG e).1
  have hl2:=hin2 k hk;simp only[Array.getElem?_eq_getElem hl2,Option.getD_some];refine k2 k x _ e ?_;rw[Array.getElem?_toList,Array.getElem?_eq_getElem (by simp; omega),Array.getElem_extract]
def Q3(f:List AVal→Option (List AVal×List Nat)):List (List AVal)→Option (List (List AVal)×List Nat)
 |[]=>some ([],[])
 |r::rs=>match f r,Q3 f rs with
  |some (r',rd),some (rs',rd')=>some (r'::rs',rd++rd')
  |_,_=>none
def roES:List (AVal×AVal)→Bool
 |[]=>true
 |(k,v)::r=>k.ro&&(v.ro&&roES r)
def Ql(σ:List ABlk):Nat→List AVal→Option (List AVal×List Nat)
 |_,[]=>some ([],[])
 |0,_::_=>none
 |fuel+1,x::xs=>match Ql σ fuel xs with
  |none=>none
  |some (ys,rd)=>match x with
   |.bptr b j=>match hget σ b with
    |.box row=>match Ql σ fuel row with
     |some (row',rd')=>some (.rptr row' j::ys,b::rd'++rd)
     |none=>none
    |_=>none
   |.ptr b i j=>match hget σ b with
    |.rows _ rs=>match nth rs i with
     |some row=>match Ql σ fuel row with
      |some (row',rd')=>some (.rptr row' j::ys,b::rd'++rd)
      |none=>none
     |none=>none
    |_=>none
   |.sl b off len ex=>match hget σ b with
    | .rows sz rs=>bif Nat.ble (off + len) rs.length then (match Q3 (Ql σ fuel) (cut off (off + len) rs) with
     |some (rs',rd')=>some (.rsl ex false sz rs'::ys,b::rd'++rd)
     | none=>none) else none
    |_=>none
   |.map b=>match hget σ b with
    |.map es=>bif roES es then some (.rmap es::ys,b::rd) else none
    |_=>none
   |.iface t v=>match Ql σ fuel [v] with
    |some ([v'],rd')=>some (.iface t v'::ys,rd'++rd)
    |_=>none
   |.agg cs=>match Ql σ fuel cs with
    |some (cs',rd')=>some (.agg cs'::ys,rd'++rd)
    |_=>none
   |.func fn a b=>match Ql σ fuel a,Ql σ fuel b with
    |some (a',rd'),some (b',rd'')=>some (.func fn a' b'::ys,rd'++rd''++rd)
    |_,_=>none
   |x=>bif x.ro then some (x::ys,rd) else none
theorem Za7:∀ {es:List (AVal×AVal)},roES es=true→∀p∈es,p.1.ro=true∧p.2.ro=true
 |[],_,_,h=>by cases h
 |(k,v)::r,h,p,hp=>by
  simp only[roES,Bool.and_eq_true] at h;rcases List.mem_cons.1 hp with rfl|hp
  ·exact⟨h.1,h.2.1⟩
  ·exact Za7 h.2.2 p hp
theorem Yab{f:List AVal→Option (List AVal×List Nat)}:∀ {rs rs':List (List AVal)} {rd:List Nat},Q3 f rs=some (rs',rd)→rs'.length=rs.length∧∀(i:Nat) (r r':List AVal),rs[i]?=some r→rs'[i]?=some r'→∃rd',f r=some (r',rd')∧∀b∈rd',b∈rd
 |[],rs',rd,h=>by simp only[Q3] at h; cases h; simp
 |r::rs,rs',rd,h=>by
  simp only[Q3] at h;split at h
  ·rename_i r1 rd1 rs1 rd2 e1 e2;cases h;obtain⟨h1,h2⟩:=Yab e2;refine⟨by simp[h1],λi x x' q1 q2=>?_⟩;cases i with
   |zero=>simp at q1 q2; subst q1 q2; exact⟨rd1,e1,λb hb=>List.mem_append.2 (.inl hb)⟩
   |succ i=>
    simp at q1 q2;obtain⟨rd',k1,k2⟩:=h2 i x x' q1 q2;exact⟨rd',k1,λb hb=>List.mem_append.2 (.inr (k2 b hb))⟩
  ·cases h
theorem XF{σ:List ABlk}:∀(fuel:Nat) (xs ys:List AVal) (rd:List Nat),Ql σ fuel xs=some (ys,rd)→∀rd',(∀b∈rd,b∈rd')→BorL (hp σ) rd' xs ys:=by
 intro fuel
 induction fuel with
 |zero=>
  intro xs ys rd h rd' hs;cases xs with
  |nil=>simp only[Ql] at h; cases h; exact BorL.nil
  |cons x xs=>simp only[Ql] at h; cases h
 |succ fuel ih=>
  intro xs ys rd h rd' hs;cases xs with
  |nil=>simp only[Ql] at h; cases h; exact BorL.nil
  |cons x xs=>
   simp only[Ql] at h;cases h0:Ql σ fuel xs with
   |none=>simp[h0] at h
   |some p=>
    obtain⟨ys0,rd0⟩:=p;simp only[h0] at h;split at h
    ·rename_i b j;split at h
     ·rename_i row hg;split at h
      ·rename_i row' rd1 hr;cases h;exact BorL.cons (Bor.box (QY hg) (hs _ (by simp)) (ih _ _ _ hr rd' (λq hq=>hs q (by simp[hq])))) (ih _ _ _ h0 rd' (λq hq=>hs q (by simp[hq])))
      ·cases h
     ·cases h
    ·rename_i b i j;split at h
     ·rename_i sz rs hg;split at h
      ·rename_i row hn;split at h
       ·rename_i row' rd1 hr;cases h;rw[ZD] at hn;exact BorL.cons (Bor.ptr (Ym hg) (hs _ (by simp)) hn (ih _ _ _ hr rd' (λq hq=>hs q (by simp[hq])))) (ih _ _ _ h0 rd' (λq hq=>hs q (by simp[hq])))
       ·cases h
      ·cases h
     ·cases h
    ·rename_i b off len ex;split at h
     ·rename_i sz rs hg
      replace h:=Xi h
      obtain⟨hle,h⟩:=h;split at h
      ·rename_i rs' rd1 hr;cases h;obtain⟨m1,m2⟩:=Yab hr;have hle':=YNL hle;refine BorL.cons (Bor.sl (Ym hg) (hs _ (by simp)) hle' (by rw[m1,Zs hle']; omega) (λi r r' q1 q2=>?_)) (ih _ _ _ h0 rd' (λq hq=>hs q (by simp[hq])));have hi:i<len:=by
        have:=(YLG q2).1;rw[m1,Zs hle'] at this; omega
       have hc:(cut off (off+len) rs)[i]?=some r:=by
        unfold cut;rw[List.getElem?_drop,List.getElem?_take_of_lt (by omega)];exact q1
       obtain⟨rd2,k1,k2⟩:=m2 i r r' hc q2;exact ih _ _ _ k1 rd' (λq hq=>hs q (by simp[k2 q hq]))
      ·cases h
     ·cases h
    ·rename_i b;split at h
     ·rename_i es hg
      replace h:=Xi h
      obtain⟨hro,h⟩:=h;cases h;exact BorL.cons (Bor.map (ZZ hg) (hs _ (by simp)) (Za7 hro)) (ih _ _ _ h0 rd' (λq hq=>hs q (by simp[hq])))
     ·cases h
    ·split at h
     ·rename_i v' rd1 hr;cases h;have:=ih _ _ _ hr rd' (λq hq=>hs q (by simp[hq]));refine BorL.cons (Bor.iface (λGL w0 L g h w M2 r hM hrd v d=>?_)) (ih _ _ _ h0 rd' (λq hq=>hs q (by simp[hq])));exact(this GL w0 L g h w M2 r hM hrd [v] ⟨d,trivial⟩).1
     ·cases h
    ·split at h
     ·rename_i cs' rd1 hr;cases h;exact BorL.cons (Bor.agg (ih _ _ _ hr rd' (λq hq=>hs q (by simp[hq])))) (ih _ _ _ h0 rd' (λq hq=>hs q (by simp[hq])))
     ·cases h
    ·split at h
     ·rename_i a' rd1 b' rd2 hr1 hr2;cases h;exact BorL.cons (Bor.func (ih _ _ _ hr1 rd' (λq hq=>hs q (by simp[hq]))) (ih _ _ _ hr2 rd' (λq hq=>hs q (by simp[hq])))) (ih _ _ _ h0 rd' (λq hq=>hs q (by simp[hq])))
     ·cases h
    ·replace h:=Xi h
     obtain⟨hro,h⟩:=h;cases h;exact BorL.cons (Bor.ro hro) (ih _ _ _ h0 rd' hs)
end Go.Ah
end
section
namespace Go.Ah
mutual
def AVal.ren (m:Nat→Option Nat):AVal→AVal
 |.bptr b j=>match m b with
  |some b'=>.bptr b' j
  |none=>.junk
 |.ptr b i j=>match m b with
  |some b'=>.ptr b' i j
  |none=>.junk
 |.sl b off len ex=>match m b with
  |some b'=>.sl b' off len ex
  |none=>.junk
 |.map b=>match m b with
  |some b'=>.map b'
  |none=>.junk
 |.iter b=>match m b with
  |some b'=>.iter b'
  |none=>.junk
 |.func fn xs ys=>.func fn (renL m xs) (renL m ys)
 |.iface t v=>.iface t (v.ren m)
 |.agg cs=>.agg (renL m cs)
 |.tup cs=>.tup (renL m cs)
 |.when cs x=>.when cs (x.ren m)
 |.junk=>.junk
 |.bool b=>.bool b
 |.int k n=>.int k n
 |.str s=>.str s
 |.nilp=>.nilp
 |.rptr row j=>.rptr row j
 |.nils=>.nils
 |.cap0=>.cap0
 |.rsl a b c d=>.rsl a b c d
 |.rmap es=>.rmap es
 |.nilmap=>.nilmap
 |.nilf=>.nilf
 |.nili=>.nili
def renL (m:Nat→Option Nat):List AVal→List AVal
 |[]=>[]
 |x::xs=>x.ren m::renL m xs
end
theorem Zai(m:Nat→Option Nat):∀xs:List AVal,renL m xs=xs.map (AVal.ren m)
 |[]=>rfl
 |x::xs=>by simp[renL,Zai m xs]
theorem XH{m:Nat→Option Nat}{xs:List AVal}{i:Nat}{y:AVal}(h:(renL m xs)[i]?=some y):∃x,xs[i]?=some x∧y=x.ren m:=by
 rw[Zai,List.getElem?_map] at h;cases hx:xs[i]? with
 |none=>simp[hx] at h
 |some x=>simp[hx] at h; exact⟨x,rfl,h.symm⟩
theorem Qi(m:Nat→Option Nat)(xs:List AVal):(renL m xs).length=xs.length:=by rw[Zai]; simp
theorem Den.ren{M:Nat→Option Obj}{m:Nat→Option Nat}{c':Own}{c:Own}{x:AVal}{v:Value}(h:Den M c x v):(∀b b' cb,m b=some b'→c b=some cb→c' b'=some cb)→Den M c' (x.ren m) v:=by
 induction h with
 |junk=>intro _; exact .junk _ _
 |bool=>intro _; exact .bool _ _
 |int=>intro _; exact .int _ _ _
 |str=>intro _; exact .str _ _
 |nilp=>intro _; exact .nilp _
 |bptr c b j cb e=>
  intro hm; simp only[AVal.ren];cases hb:m b with
  |none=>exact .junk _ _
  |some b'=>exact .bptr _ _ _ _ (hm _ _ _ hb e)
 |ptr c b i j cb e=>
  intro hm; simp only[AVal.ren];cases hb:m b with
  |none=>exact .junk _ _
  |some b'=>exact .ptr _ _ _ _ _ (hm _ _ _ hb e)
 |rptr c row j blk off f h1 h2 ih=>intro _; exact .rptr _ _ _ _ _ f h1 h2
 |nils=>intro _; exact .nils _
 |cap0=>intro _; exact .cap0 _ _
 |sl c b off len ex cb cap e h1 h2 h3 h4=>
  intro hm; simp only[AVal.ren];cases hb:m b with
  |none=>exact .junk _ _
  |some b'=>exact .sl _ _ _ _ _ _ _ (hm _ _ _ hb e) h1 h2 h3 h4
 |slv c b ex cb a e h1=>
  intro hm; simp only[AVal.ren];cases hb:m b with
  |none=>exact .junk _ _
  |some b'=>exact .slv _ _ _ _ _ (hm _ _ _ hb e) h1
 |rsl c ex nn sz rows a cap blk off f h1 h2 h3 h3' h4 h5 h6 h7 ih=>intro _; exact .rsl _ _ _ _ _ _ _ blk off f h1 h2 h3 h3' h4 h5 h6 h7
 |map c b cb e=>
  intro hm; simp only[AVal.ren];cases hb:m b with
  |none=>exact .junk _ _
  |some b'=>exact .map _ _ _ (hm _ _ _ hb e)
 |rmap c es blk arr clock e h1 h2 h3 ih1 ih2=>intro _; exact .rmap _ _ _ _ _ e h1 h2 h3
 |nilmap=>intro _; exact .nilmap _
 |func c fn first captured vs ws h1 h2 h3 h4 ih1 ih2=>
  intro hm; simp only[AVal.ren];exact .func _ _ _ _ _ _ (by rw[Qi]; exact h1) (by rw[Qi]; exact h2)
   (λi y u e1 e2=>by obtain⟨x,q1,rfl⟩:=XH e1; exact ih1 i x u q1 e2 hm) (λi y u e1 e2=>by obtain⟨x,q1,rfl⟩:=XH e1; exact ih2 i x u q1 e2 hm)
 |nilf=>intro _; exact .nilf _
 |iface c t x v h ih=>intro hm; exact .iface _ _ _ _ (ih hm)
 |nili=>intro _; exact .nili _
 |agg c cs vs h1 h2 ih=>intro hm; simp only[AVal.ren]; exact .agg _ _ _ (by rw[Qi]; exact h1) (λi y u e1 e2=>by obtain⟨x,q1,rfl⟩:=XH e1; exact ih i x u q1 e2 hm)
 |tup c cs vs h1 h2 ih=>intro hm; simp only[AVal.ren]; exact .tup _ _ _ (by rw[Qi]; exact h1) (λi y u e1 e2=>by obtain⟨x,q1,rfl⟩:=XH e1; exact ih i x u q1 e2 hm)
 |when c cs x v h h2 ih=>intro hm; exact .when _ _ _ _ (λhp=>ih hp hm) h2
 |iter c b cb e=>
  intro hm; simp only[AVal.ren];cases hb:m b with
  |none=>exact .junk _ _
  |some b'=>exact .iter _ _ _ (hm _ _ _ hb e)
mutual
def AVal.nosh:AVal→Bool
 |.rptr _ _=>false
 |.rsl _ _ _ (_::_)=>false
 |.rmap _=>false
 |.func _ xs ys=>noshL xs&&noshL ys
 |.iface _ v=>v.nosh
 |.agg cs=>noshL cs
 |.tup cs=>noshL cs
 |.when _ x=>x.nosh
 |_=>true
def noshL:List AVal→Bool
 |[]=>true
 |x::xs=>x.nosh&&noshL xs
end
theorem XC:∀ {xs:List AVal} {i:Nat} {x:AVal},noshL xs=true→xs[i]?=some x→x.nosh=true
 |[],i,x,_,e=>by simp at e
 |y::xs,0,x,h,e=>by simp[noshL] at h; simp at e; subst e; exact h.1
 |y::xs,i+1,x,h,e=>by simp[noshL] at h; simp at e; exact XC h.2 e
mutual
theorem AVal.nosh_ren (m:Nat→Option Nat):∀(x:AVal),x.nosh=true→(x.ren m).nosh=true
 |.bptr b j,_=>by simp only[AVal.ren]; split<;>rfl
 |.ptr b i j,_=>by simp only[AVal.ren]; split<;>rfl
 |.sl b off len ex,_=>by simp only[AVal.ren]; split<;>rfl
 |.map b,_=>by simp only[AVal.ren]; split<;>rfl
 |.iter b,_=>by simp only[AVal.ren]; split<;>rfl
 |.func fn xs ys,h=>by
  simp only[AVal.nosh,Bool.and_eq_true] at h
  simp only[AVal.ren,AVal.nosh,Bool.and_eq_true]
  exact⟨QC m xs h.1,QC m ys h.2⟩
 |.iface t v,h=>by simp only[AVal.nosh] at h; simp only[AVal.ren,AVal.nosh]; exact AVal.nosh_ren m v h
 |.agg cs,h=>by simp only[AVal.nosh] at h; simp only[AVal.ren,AVal.nosh]; exact QC m cs h
 |.tup cs,h=>by simp only[AVal.nosh] at h; simp only[AVal.ren,AVal.nosh]; exact QC m cs h
 |.when cs x,h=>by simp only[AVal.nosh] at h; simp only[AVal.ren,AVal.nosh]; exact AVal.nosh_ren m x h
 |.junk,_=>rfl
 |.bool b,_=>rfl
 |.int k n,_=>rfl
 |.str s,_=>rfl
 |.nilp,_=>rfl
 |.rptr row j,h=>h
 |.nils,_=>rfl
 |.cap0,_=>rfl
 |.rsl a b c d,h=>h
 |.rmap es,h=>h
 |.nilmap,_=>rfl
 |.nilf,_=>rfl
 |.nili,_=>rfl
theorem QC (m:Nat→Option Nat):∀(xs:List AVal),noshL xs=true→noshL (renL m xs)=true
 |[],_=>rfl
 |x::xs,h=>by
  simp only[noshL,Bool.and_eq_true] at h
  simp only[renL,noshL,Bool.and_eq_true]
  exact⟨AVal.nosh_ren m x h.1,QC m xs h.2⟩
end
def ABlk.mapV(f:AVal→AVal):ABlk→ABlk
 |.dead=>.dead
 |.box row=>.box (row.map f)
 |.rows sz rs=>.rows sz (rs.map λr=>r.map f)
 |.map es=>.map (es.map λp=>(f p.1,f p.2))
 |.siter s p=>.siter s p
def ABlk.AllV(p:AVal→Prop):ABlk→Prop
 |.dead=>True
 |.box row=>∀x∈row,p x
 |.rows _ rs=>∀r∈rs,∀x∈r,p x
 |.map es=>∀e∈es,p e.1∧p e.2
 |.siter _ _=>True
def XZ:List (List AVal)→Bool
 |[]=>true
 |r::rs=>noshL r&&XZ rs
def XaH:List (AVal×AVal)→Bool
 |[]=>true
 |(k,v)::r=>k.nosh&&(v.nosh&&XaH r)
def ABlk.nosh:ABlk→Bool
 |.dead=>true
 |.box row=>noshL row
 |.rows _ rs=>XZ rs
 |.map es=>XaH es
 |.siter _ _=>true
def Yaq:List ABlk→Bool
 |[]=>true
 |b::bs=>b.nosh&&Yaq bs
theorem X4:∀ {xs:List AVal},noshL xs=true→∀x∈xs,x.nosh=true
 |y::xs,h,x,hx=>by
  simp only[noshL,Bool.and_eq_true] at h;rcases List.mem_cons.1 hx with rfl|hx
  ·exact h.1
  ·exact X4 h.2 x hx
theorem ZU:∀ {rs:List (List AVal)},XZ rs=true→∀r∈rs,∀x∈r,x.nosh=true
 |y::rs,h,r,hr=>by
  simp only[XZ,Bool.and_eq_true] at h;rcases List.mem_cons.1 hr with rfl|hr
  ·exact X4 h.1
  ·exact ZU h.2 r hr
theorem Zad:∀ {es:List (AVal×AVal)},XaH es=true→∀e∈es,e.1.nosh=true∧e.2.nosh=true
 |(k,v)::r,h,e,he=>by
  simp only[XaH,Bool.and_eq_true] at h;rcases List.mem_cons.1 he with rfl|he
  ·exact⟨h.1,h.2.1⟩
  ·exact Zad h.2.2 e he
theorem ABlk.nosh_all{b:ABlk}(h:b.nosh=true):b.AllV (λx=>x.nosh=true):=by
 cases b with
 |dead=>trivial
 |box row=>exact X4 h
 |rows sz rs=>exact ZU h
 |map es=>exact Zad h
 |siter s q=>trivial
theorem Qac:∀ {bs:List ABlk},Yaq bs=true→∀b∈bs,b.AllV (λx=>x.nosh=true)
 |y::bs,h,b,hb=>by
  simp only[Yaq,Bool.and_eq_true] at h;rcases List.mem_cons.1 hb with rfl|hb
  ·exact ABlk.nosh_all h.1
  ·exact Qac h.2 b hb
theorem ABlk.all_true(b:ABlk):b.AllV (λ_=>True):=by
 cases b<;>simp[ABlk.AllV]
theorem Den.nosh{M:Nat→Option Obj}{c:Own}{x:AVal}{v:Value}(h:Den M c x v):x.nosh=true→∀M',Den M' c x v:=by
 induction h with
 |junk=>intro _ _; exact .junk _ _
 |bool=>intro _ _; exact .bool _ _
 |int=>intro _ _; exact .int _ _ _
 |str=>intro _ _; exact .str _ _
 |nilp=>intro _ _; exact .nilp _
 |bptr c b j cb e=>intro _ _; exact .bptr _ _ _ _ e
 |ptr c b i j cb e=>intro _ _; exact .ptr _ _ _ _ _ e
 |rptr=>intro h; simp[AVal.nosh] at h
 |nils=>intro _ _; exact .nils _
 |cap0=>intro _ _; exact .cap0 _ _
 |sl c b off len ex cb cap e h1 h2 h3 h4=>intro _ _; exact .sl _ _ _ _ _ _ _ e h1 h2 h3 h4
 |slv c b ex cb a e h1=>intro _ _; exact .slv _ _ _ _ _ e h1
 |rsl c ex nn sz rows a cap blk off f h1 h2 h3 h3' h4 h5 h6 h7 ih=>
  intro h M';cases rows with
  |nil=>exact .rsl _ _ _ _ [] _ _ blk off f h1 h2 h3 h3' h4 h5 (by simp) (by simp)
  |cons r rs=>simp[AVal.nosh] at h
 |map c b cb e=>intro _ _; exact .map _ _ _ e
 |rmap=>intro h; simp[AVal.nosh] at h
 |nilmap=>intro _ _; exact .nilmap _
 |func c fn first captured vs ws h1 h2 h3 h4 ih1 ih2=>
  intro h M';simp[AVal.nosh] at h;exact .func _ _ _ _ _ _ h1 h2 (λi x v e1 e2=>ih1 i x v e1 e2 (XC h.1 e1) M') (λi x v e1 e2=>ih2 i x v e1 e2 (XC h.2 e1) M')
 |nilf=>intro _ _; exact .nilf _
 |iface c t x v h ih=>intro hr M'; exact .iface _ _ _ _ (ih (by simpa[AVal.nosh] using hr) M')
 |nili=>intro _ _; exact .nili _
 |agg c cs vs h1 h2 ih=>intro h M'; exact .agg _ _ _ h1 (λi x v e1 e2=>ih i x v e1 e2 (XC (by simpa[AVal.nosh] using h) e1) M')
 |tup c cs vs h1 h2 ih=>intro h M'; exact .tup _ _ _ h1 (λi x v e1 e2=>ih i x v e1 e2 (XC (by simpa[AVal.nosh] using h) e1) M')
 |when c cs x v h h2 ih=>intro hr M'; exact .when _ _ _ _ (λhp=>ih hp (by simpa[AVal.nosh] using hr) M') h2
 |iter c b cb e=>intro _ _; exact .iter _ _ _ e
theorem ABlk.mapV_live(f:AVal→AVal)(b:ABlk):(b.mapV f).live=b.live:=by cases b<;>rfl
theorem BlkOk.mapV{M M':Nat→Option Obj}{c c':Own}{f:AVal→AVal}{p:AVal→Prop}(hf:∀x v,p x→Den M c x v→Den M' c' (f x) v){cb:CB}{o:Obj}{b:ABlk}(h:BlkOk M c cb o b)(hp:b.AllV p):BlkOk M' c' cb o (b.mapV f):=by
 cases b with
 |dead=>trivial
 |box row=>
  obtain⟨arr,T,h1,h2,h3⟩:=h;refine⟨arr,T,h1,by simpa using h2,λj x v e1 e2=>?_⟩;rw[List.getElem?_map] at e1;cases hx:row[j]? with
  |none=>simp[hx] at e1
  |some y=>simp[hx] at e1; subst e1; exact hf y v (hp y (List.mem_of_getElem? hx)) (h3 j y v hx e2)
 |rows sz rows=>
  obtain⟨h0,arr,T,h1,h2,h3,h4,h5⟩:=h;refine⟨h0,arr,T,h1,h2,by simpa using h3,λi row e=>?_,λi row j x v e1 e2 e3=>?_⟩
  ·rw[List.getElem?_map] at e;cases hx:rows[i]? with
   |none=>simp[hx] at e
   |some y=>simp[hx] at e; subst e; simpa using h4 i y hx
  ·rw[List.getElem?_map] at e1;cases hx:rows[i]? with
   |none=>simp[hx] at e1
   |some y=>
    simp[hx] at e1; subst e1;rw[List.getElem?_map] at e2;cases hy:y[j]? with
    |none=>simp[hy] at e2
    |some z=>simp[hy] at e2; subst e2; exact hf z v (hp y (List.mem_of_getElem? hx) z (List.mem_of_getElem? hy)) (h5 i y j z v hx hy e3)
 |map es=>
  obtain⟨arr,clock,h1,h2,h3⟩:=h;refine⟨arr,clock,h1,by simpa using h2,λi k x e e1 e2=>?_⟩;rw[List.getElem?_map] at e1;cases hx:es[i]? with
  |none=>simp[hx] at e1
  |some y=>
   simp[hx] at e1; obtain⟨rfl,rfl⟩:=e1;have:=h3 i y.1 y.2 e hx e2;have hpy:=hp y (List.mem_of_getElem? hx);exact⟨hf _ _ hpy.1 this.1,hf _ _ hpy.2 this.2⟩
 |siter s q=>exact h
def Xw(N:Nat):Nat→Option Nat:=λb=>some (b+N)
def Zk(N:Nat):List ABlk→List (Nat×ABlk)
 |[]=>[]
 |b::bs=>(N,b)::Zk (N+1) bs
theorem XT:∀(bs:List ABlk) (N:Nat) (h:Hp) (b:Nat),hups h (Zk N bs) b=if N≤b∧b<N+bs.length then bs[b-N]? else h b
 |[],N,h,b=>by simp[Zk,hups]; intro h1 h2; omega
 |x::bs,N,h,b=>by
  simp only[Zk,hups];rw[XT bs (N+1)];by_cases h1:b=N
  ·subst h1; rw[if_neg (by omega),if_pos (by simp),Yh]; simp
  ·by_cases h2:N+1≤b∧b<N+1+bs.length
   ·rw[if_pos h2,if_pos (by simp; omega),show b-N=(b-(N+1))+1 by omega]; simp
   ·rw[if_neg h2,if_neg (by simp; omega),Yg _ _ h1]
section
variable {P:Program} {GL:Globs}
def NCall(P:Program)(GL:Globs)(f:FuncId)(xs:List AVal)(v:AVal)(bs:List ABlk):Prop:=
 ∀(w:World) (M:Nat→Option Obj) (vs:List Value),(∀b o,M b=some o→w.heap[b]?=some o)→(∀p∈GL,Den M noOwn (.rptr p.2 0) (.pointer (some ⟨p.1,0,none⟩)))→DenL ⟨M,noOwn⟩ xs vs →
  Calls P f vs.toArray w λe w'=>∃u,e=.returned u∧∃g',MLe M g'.M∧Rep GL w ⟨[],M⟩ g' (hp bs) w'∧g'.den v u
theorem Qap{f:FuncId}{F:MFn}(ok:FnOk P GL f F){xs:List AVal}(hn:xs.length=F.np){v:AVal}{bs:List ABlk}
 (h:Awp P GL F.n F.body (frame0 xs) [] (λe ρ σ=>(e=.normal∨e=.ret)∧retV F.rets ρ σ=some v∧σ=bs)):NCall P GL f xs v bs:=by
 intro w M vs hM hg hx;obtain⟨fn,c,h1,h2,h3,h4,h5⟩:=ok.ok;have r0:=Rep.start (GL:=GL) w M hM hg;have hh:hp []=noHp:=by funext b; simp[hp,noHp]
 rw[←hh] at r0;have d0:=Qx hx (n:=F.n) (by rw[hn]; exact ok.np);refine calls_of_wp h1 h2 ?_;rw[h3];refine wp_mono (h c h4 w ⟨[],M⟩ _ _ w r0 d0) (λe a' w' hl=>?_);have fin:∀g' ρ σ,(⟨M,noOwn⟩:Gm).Le g'→Rep GL w ⟨[],M⟩ g' (hp σ) w'→DenF F.n g' ρ a'→(retV F.rets ρ σ=some v∧σ=bs)→∃u,(results fn a'.tmps).run P w'=.ok u w'∧(∃u',Ending.returned u=.returned u'∧∃g',MLe M g'.M∧Rep GL w ⟨[],M⟩ g' (hp bs) w'∧g'.den v u'):=by
  rintro g' ρ σ hle hr hd ⟨hret,rfl⟩;obtain⟨u,k1,k2⟩:=ZO hr hd h5 hret;exact⟨u,k1,u,rfl,g',hle.m,hr,k2⟩
 cases e with
 |normal=>obtain⟨g',ρ,σ,k1,k2,k3,k4⟩:=hl; exact⟨k3.defers,fin g' ρ σ k1 k2 k3 k4.2⟩
 |ret=>obtain⟨g',ρ,σ,k1,k2,k3,k4⟩:=hl; exact⟨k3.defers,fin g' ρ σ k1 k2 k3 k4.2⟩
 |exit id=>obtain⟨g',ρ,σ,k1,k2,k3,k4⟩:=hl; rcases k4.1 with q|q<;>cases q
 |_=>exact hl.elim
theorem Rep.joinG{w0:World}{L:Ln}{g:Gm}{h:Hp}{w w':World}(r:Rep GL w0 L g h w){M:Nat→Option Obj}{g':Gm}{h':Hp}{bs:List ABlk}(r':Rep GL w ⟨[],M⟩ g' h' w')(s:Nat)(hs:∀i,i<bs.length→h' (s+i)=bs[i]?)(m:Nat→Option Nat)(M2:Nat→Option Obj)(p:AVal→Prop)
 (hM:MLe g.M M2)(hst:∀b o,M2 b=some o→w'.heap[b]?=some o)(hsrc:∀b o,M2 b=some o→g.M b=some o∨w.heap.size≤b)(hfresh:∀b,w.heap.size≤b→g'.M b=none→M2 b=none)
 (hden:∀c x v,p x→Den g'.M c x v→Den M2 c x v)(hp':∀b∈bs,b.AllV p)(hren:∀x m,p x→p (AVal.ren m x)){N:Nat}(hN:∀i,i<bs.length→h (N+i)=none)
 (hm:∀b b' cb,m b=some b'→g'.c b=some cb→(∃i,i<bs.length∧b=s+i∧b'=N+i)∨(g.c b'=some cb)) :
  ∃c2,CLe g.c c2∧(∀b b' cb,m b=some b'→g'.c b=some cb→c2 b'=some cb)∧Rep GL w0 L ⟨M2,c2⟩ (hups h (Zk N (bs.map (ABlk.mapV (AVal.ren m))))) w':=by
 let c2:Own:=λb=>if N≤b∧b<N+bs.length then g'.c (b-N+s) else g.c b
 have hc:CLe g.c c2:=by
  intro b cb e;by_cases hb:N≤b∧b<N+bs.length
  ·have:=r.empt b (by have:=hN (b-N) (by omega); rwa [show N+(b-N)=b by omega] at this);rw[this] at e; cases e
  ·simp only[c2,if_neg hb]; exact e
 have hc2:∀b b' cb,m b=some b'→g'.c b=some cb→c2 b'=some cb:=by
  intro b b' cb e1 e2;rcases hm b b' cb e1 e2 with ⟨i,q1,q2,q3⟩|q
  ·simp only[c2]; rw[if_pos (by omega),show b'-N+s=b by omega]; exact e2
  ·exact hc _ _ q
 have hH:∀b,hups h (Zk N (bs.map (ABlk.mapV (AVal.ren m)))) b=if N≤b∧b<N+bs.length then (bs[b-N]?).map (ABlk.mapV (AVal.ren m)) else h b:=by
  intro b; rw[XT]; simp
 have hcase:∀b blk,hups h (Zk N (bs.map (ABlk.mapV (AVal.ren m)))) b=some blk→(h b=some blk∧c2 b=g.c b)∨∃i blk0,i<bs.length∧b=i+N∧h' (s+i)=some blk0∧blk=blk0.mapV (AVal.ren m)∧c2 b=g'.c (s+i)∧blk0∈bs:=by
  intro b blk e;rw[hH] at e;by_cases hb:N≤b∧b<N+bs.length
  ·rw[if_pos hb] at e;cases hx:bs[b-N]? with
   |none=>simp[hx] at e
   |some blk0=>
    simp[hx] at e;exact .inr ⟨b-N,blk0,by omega,by omega,by rw[hs _ (by omega)]; exact hx,e.symm,by simp only[c2]; rw[if_pos hb,Nat.add_comm],List.mem_of_getElem? hx⟩
  ·rw[if_neg hb] at e;exact .inl ⟨e,by simp only[c2]; rw[if_neg hb]⟩
 have hsize:=r.keeps.size;refine⟨c2,hc,hc2,?_⟩;refine { keeps:=r.keeps.trans' r'.keeps.os r'.keeps.tape r'.keeps.output r'.keeps.size (λb hb _=>r'.keeps.block b (by omega) (by simp)),stable:=hst,src:=λb o e=>?_,globs:=λq hq=>(r.globs q hq).mono hM (CLe.refl _),empt:=λb e=>?_,dom:=λb blk e=>?_,own:=λb blk cb e hl ec hv=>?_,hollow:=λb blk cb e hl ec hv=>?_,inj:=λb b' blk blk' cb cb' e e' hl hl' ec ec' hv hv' hq=>?_ }
 ·rcases hsrc b o e with q|q
  ·exact r.src b o q
  ·exact .inr (.inl (by omega))
 ·rw[hH] at e;show c2 b=none;by_cases hb:N≤b∧b<N+bs.length
  ·rw[if_pos hb,List.getElem?_eq_getElem (by omega)] at e; cases e
  ·rw[if_neg hb] at e; simp only[c2]; rw[if_neg hb]; exact r.empt b e
 ·rcases hcase b blk e with ⟨q1,q2⟩|⟨i,blk0,q1,q2,q3,q4,q5,q6⟩
  ·obtain⟨cb,k⟩:=r.dom b blk q1; exact⟨cb,by show c2 b=_; rw[q2]; exact k⟩
  ·obtain⟨cb,k⟩:=r'.dom (s+i) blk0 q3; exact⟨cb,by show c2 b=_; rw[q5]; exact k⟩
 ·replace ec:c2 b=some cb:=ec
  rcases hcase b blk e with ⟨q1,q2⟩|⟨i,blk0,q1,q2,q3,q4,q5,q6⟩
  ·rw[q2] at ec;obtain⟨k1,k2,o,ho,hok⟩:=r.own b blk cb q1 hl ec hv;have hlt:=r.lt_of_own q1 hl ec hv;refine⟨?_,k2,o,by rw[r'.keeps.block _ hlt (by simp)]; exact ho,hok.mono hM hc⟩;show M2 cb.blk=none;cases hm2:M2 cb.blk with
   |none=>rfl
   |some z=>
    rcases hsrc _ _ hm2 with q|q
    ·rw[k1] at q; cases q
    ·omega
  ·rw[q5] at ec;obtain⟨k1,k2,o,ho,hok⟩:=r'.own (s+i) blk0 cb q3 (by rw[q4,ABlk.mapV_live] at hl; exact hl) ec hv;have hge:w.heap.size≤cb.blk:=by rcases k2 with q|q; simp at q; exact q
   refine⟨hfresh _ hge k1,.inr (by omega),o,ho,?_⟩;rw[q4];refine hok.mapV (p:=p) (λx v hx hd=>?_) (hp' _ q6);exact hden _ _ _ (hren _ _ hx) (hd.ren hc2)
 ·replace ec:c2 b=some cb:=ec
  rcases hcase b blk e with ⟨q1,q2⟩|⟨i,blk0,q1,q2,q3,q4,q5,q6⟩
  ·rw[q2] at ec; exact r.hollow b blk cb q1 hl ec hv
  ·rw[q5] at ec;have:=r'.hollow (s+i) blk0 cb q3 (by rw[q4,ABlk.mapV_live] at hl; exact hl) ec hv;rw[q4,this]; rfl
 ·replace ec:c2 b=some cb:=ec
  replace ec':c2 b'=some cb':=ec'
  rcases hcase b blk e with ⟨q1,q2⟩|⟨i,blk0,q1,q2,q3,q4,q5,q6⟩<;>rcases hcase b' blk' e' with ⟨p1,p2⟩|⟨i',blk0',p1,p2,p3,p4,p5,p6⟩
  ·rw[q2] at ec; rw[p2] at ec'; exact r.inj b b' blk blk' cb cb' q1 p1 hl hl' ec ec' hv hv' hq
  ·rw[q2] at ec; rw[p5] at ec';have h1:=r.lt_of_own q1 hl ec hv;obtain⟨_,k2,_⟩:=r'.own (s+i') blk0' cb' p3 (by rw[p4,ABlk.mapV_live] at hl'; exact hl') ec' hv';rcases k2 with k2|k2
   ·simp at k2
   ·omega
  ·rw[q5] at ec; rw[p2] at ec';have h1:=r.lt_of_own p1 hl' ec' hv';obtain⟨_,k2,_⟩:=r'.own (s+i) blk0 cb q3 (by rw[q4,ABlk.mapV_live] at hl; exact hl) ec hv;rcases k2 with k2|k2
   ·simp at k2
   ·omega
  ·rw[q5] at ec; rw[p5] at ec';have:=r'.inj (s+i) (s+i') blk0 blk0' cb cb' q3 p3 (by rw[q4,ABlk.mapV_live] at hl; exact hl) (by rw[p4,ABlk.mapV_live] at hl'; exact hl') ec ec' hv hv' hq;omega
theorem Rep.join{w0:World}{L:Ln}{g:Gm}{h:Hp}{w w':World}(r:Rep GL w0 L g h w){M:Nat→Option Obj}{g':Gm}{bs:List ABlk}(r':Rep GL w ⟨[],M⟩ g' (hp bs) w')(M2:Nat→Option Obj)(p:AVal→Prop)
 (hM:MLe g.M M2)(hst:∀b o,M2 b=some o→w'.heap[b]?=some o)(hsrc:∀b o,M2 b=some o→g.M b=some o∨w.heap.size≤b)(hfresh:∀b,w.heap.size≤b→g'.M b=none→M2 b=none)
 (hden:∀c x v,p x→Den g'.M c x v→Den M2 c x v)(hp':∀b∈bs,b.AllV p)(hren:∀x m,p x→p (AVal.ren m x)){N:Nat}(hN:∀i,i<bs.length→h (N+i)=none) :
  ∃c2,CLe g.c c2∧(∀b cb,b<bs.length→g'.c b=some cb→c2 (b+N)=some cb)∧Rep GL w0 L ⟨M2,c2⟩ (hups h (Zk N (bs.map (ABlk.mapV (AVal.ren (Xw N)))))) w':=by
 obtain⟨c2,k1,k2,k3⟩:=r.joinG r' 0 (λi hi=>by simp[hp]) (Xw N) M2 p hM hst hsrc hfresh hden hp' hren hN (λb b' cb e1 e2=>by
  simp only[Xw,Option.some.injEq] at e1;subst e1;by_cases hb:b<bs.length
  ·exact .inl ⟨b,hb,by omega,by omega⟩
  ·have:=r'.empt b (by simp[hp]; omega);rw[this] at e2; cases e2)
 exact⟨c2,k1,λb cb _ e=>k2 b (b+N) cb rfl e,k3⟩
def Qu(N:Nat)(bs:List ABlk):List ABlk:=bs.map (ABlk.mapV (AVal.ren (Xw N)))
theorem YA:∀(bs:List ABlk) (N:Nat) (i:Nat),i<bs.length→∃b,(N+i,b)∈Zk N bs
 |b::bs,N,0,_=>⟨b,by simp[Zk]⟩
 |b::bs,N,i+1,h=>by
  obtain⟨x,hx⟩:=YA bs (N+1) i (by simpa using h);exact⟨x,by rw[show N+(i+1)=N+1+i by omega]; exact List.mem_cons_of_mem _ hx⟩
theorem NCall.here{f:FuncId}{xs:List AVal}{v:AVal}{bs:List ABlk}(hc:NCall P GL f xs v bs)(hxs:roL xs=true){h0:Hp}{N:Nat}(hN:∀i,i<bs.length→h0 (N+i)=none):ACall P GL f xs h0 (v.ren (Xw N)) [] (Zk N (Qu N bs)):=by
 intro w0 L g h w vs r hx _ hup;refine(hc w g.M vs r.stable r.globs (Xai hxs hx noOwn)).mono ?_;rintro e w' ⟨u,he,g',hle,r',hd⟩;obtain⟨c2,k1,k2,k3⟩:=r.join r' g'.M (λ_=>True) hle r'.stable (λb o e=>by
  rcases r'.src b o e with q|q|q
  ·exact .inl q
  ·exact .inr q
  ·simp at q) (λ_ _ e=>e) (λ_ _ _ _ d=>d) (λb _=>ABlk.all_true b) (λ_ _ _=>trivial) (N:=N) (λi hi=>by
   obtain⟨b,hb⟩:=YA (Qu N bs) N i (by simpa[Qu] using hi);rw[hup _ hb]; exact hN i hi)
 refine⟨u,he,⟨g'.M,c2⟩,⟨hle,k1⟩,k3,hd.ren (λb b' cb e1 e2=>?_)⟩;simp only[Xw,Option.some.injEq] at e1;subst e1;refine k2 b cb ?_ e2;by_cases hb:b<bs.length
 ·exact hb
 ·have:=r'.empt b (by simp[hp]; omega);rw[this] at e2; cases e2
theorem NCall.lend{f:FuncId}{xs ys:List AVal}{v:AVal}{bs:List ABlk}{rd:List Nat}{h0:Hp}(hc:NCall P GL f ys v bs)(hb:BorL h0 rd xs ys)(hv:v.nosh=true)(hbs:Yaq bs=true){N:Nat}(hN:∀i,i<bs.length→h0 (N+i)=none):ACall P GL f xs h0 (v.ren (Xw N)) rd (Zk N (Qu N bs)):=by
 intro w0 L g h w vs r hx hrd hup;refine(hc w (World.all w) vs (λ_ _ e=>e) (λp hp=>(r.globs p hp).mono r.le_all (CLe.refl _)) (hb GL w0 L g h w _ r r.cov_all hrd vs hx)).mono ?_;rintro e w' ⟨u,he,g',hle,r',hd⟩;obtain⟨c2,k1,k2,k3⟩:=r.join r' g.M (λx=>x.nosh=true) (MLe.refl _) (λb o e=>by rw[r'.keeps.block b (r.stable_lt e) (by simp)]; exact r.stable b o e) (λb o e=>.inl e) (λb hge e=>by
   cases hm:g.M b with
   |none=>rfl
   |some z=>have:=r.stable_lt hm; omega) (λ_ _ _ hn d=>d.nosh hn _) (Qac hbs) (λx m hn=>AVal.nosh_ren m x hn) (N:=N) (λi hi=>by
   obtain⟨b,hb⟩:=YA (Qu N bs) N i (by simpa[Qu] using hi);rw[hup _ hb]; exact hN i hi)
 refine⟨u,he,⟨g.M,c2⟩,⟨MLe.refl _,k1⟩,k3,?_⟩;refine(hd.ren (c':=c2) (m:=Xw N) (λb b' cb e1 e2=>?_)).nosh (AVal.nosh_ren _ _ hv) _;simp only[Xw,Option.some.injEq] at e1;subst e1;refine k2 b cb ?_ e2;by_cases hb:b<bs.length
 ·exact hb
 ·have:=r'.empt b (by simp[hp]; omega);rw[this] at e2; cases e2
def Xm:List ABlk→List ABlk
 |[]=>[]
 |_::l=>.dead::Xm l
theorem Qo:∀(l:List ABlk) (i:Nat),(Xm l)[i]?=if i<l.length then some .dead else none
 |[],i=>by simp[Xm]
 |x::l,0=>by simp[Xm]
 |x::l,i+1=>by simp[Xm,Qo l i]
theorem YI(l:List ABlk):(Xm l).length=l.length:=by induction l<;>simp_all [Xm]
def ltM(n:Nat):Nat→Option Nat:=λb=>bif Nat.blt b n then some b else none
def keepM(ids:List Nat)(n k:Nat):Nat→Option Nat:=λb=>bif ids.contains b||(Nat.ble n b&&Nat.blt b (n+k)) then some b else none
theorem YM{f:FuncId}{F:MFn}(ok:FnOk P GL f F){xs:List AVal}(hn:xs.length=F.np)(σ:List ABlk)(ids:List Nat)(hids:∀i∈ids,i<σ.length){v:AVal}{news bs:List ABlk}(hbs:bs=news∨bs=[])
 (h:Awp P GL F.n F.body (frame0 (renL (ltM σ.length) xs)) (Xm σ) (λe ρ σ'=>(e=.normal∨e=.ret)∧retV F.rets ρ σ'=some v∧σ'=Xm σ++news)) :
  ACall P GL f xs (hp σ) (v.ren (keepM ids σ.length bs.length)) ids (Zk σ.length (bs.map (ABlk.mapV (AVal.ren (keepM ids σ.length bs.length))))):=by
 intro w0 L g hq w vs r hx hrd hup
 let dm:CB:=⟨0,0,0,true⟩
 let c':Own:=λb=>if b<σ.length then some ((g.c b).getD dm) else none
 have r0:Rep GL w ⟨[],g.M⟩ ⟨g.M,c'⟩ (hp (Xm σ)) w:={
  keeps:=Keeps.refl _ _,stable:=r.stable,src:=λb o e=>.inl e,globs:=r.globs
  empt:=λb e=>by
   show c' b=none;simp only[hp,Qo] at e;simp only[c'];split at e
   ·cases e
   ·rename_i hb; rw[if_neg hb]
  dom:=λb blk e=>by
   simp only[hp,Qo] at e;split at e
   ·rename_i hb; exact⟨_,by show c' b=_; simp only[c']; rw[if_pos hb]⟩
   ·cases e
  own:=λb blk cb e hl _ _=>by
   simp only[hp,Qo] at e;split at e
   ·cases e; cases hl
   ·cases e
  hollow:=λb blk cb e hl _ _=>by
   simp only[hp,Qo] at e;split at e
   ·cases e; cases hl
   ·cases e
  inj:=λb b' blk blk' cb cb' e _ hl _ _ _ _ _ _=>by
   simp only[hp,Qo] at e;split at e
   ·cases e; cases hl
   ·cases e }
 have hx':DenL ⟨g.M,c'⟩ (renL (ltM σ.length) xs) vs:=by
  refine DenL.of_get (by rw[Qi]; exact hx.length) (λi y u e1 e2=>?_);obtain⟨x,q1,rfl⟩:=XH e1;refine(hx.get i x u q1 e2).ren (λb b' cb k1 k2=>?_);unfold ltM at k1;obtain⟨k0,k1⟩:=Xi k1;cases k1;have hlt:b<σ.length:=YNL k0;simp only[c'];rw[if_pos hlt,k2]; rfl
 obtain⟨fn,c,h1,h2,h3,h4,h5⟩:=ok.ok;have d0:=Qx hx' (n:=F.n) (by rw[Qi,hn]; exact ok.np);refine calls_of_wp h1 h2 ?_;rw[h3];refine wp_mono (h c h4 w ⟨[],g.M⟩ _ _ w r0 d0) (λe a' w' hl=>?_);have fin:∀g' ρ σ',(⟨g.M,c'⟩:Gm).Le g'→Rep GL w ⟨[],g.M⟩ g' (hp σ') w'→DenF F.n g' ρ a'→(retV F.rets ρ σ'=some v∧σ'=Xm σ++news)→∃u,(results fn a'.tmps).run P w'=.ok u w'∧(∃u',Ending.returned u=.returned u'∧∃g2,g.Le g2∧Rep GL w0 L g2 (hups hq (Zk σ.length (bs.map (ABlk.mapV (AVal.ren (keepM ids σ.length bs.length)))))) w'∧g2.den (v.ren (keepM ids σ.length bs.length)) u'):=by
  rintro g' ρ σ' hle hr hd ⟨hret,rfl⟩;obtain⟨u,k1,k2⟩:=ZO hr hd h5 hret;obtain⟨c2,j1,j2,j3⟩:=r.joinG hr σ.length (bs:=bs) (λi hi=>by
    rcases hbs with rfl|rfl
    ·simp only[hp];rw[List.getElem?_append_right (by rw[YI]; omega),YI,Nat.add_sub_cancel_left]
    ·simp at hi) (keepM ids σ.length bs.length) g'.M (λ_=>True) hle.m hr.stable (λb o e=>by
    rcases hr.src b o e with q|q|q
    ·exact .inl q
    ·exact .inr q
    ·simp at q) (λ_ _ e=>e) (λ_ _ _ _ d=>d) (λb _=>ABlk.all_true b) (λ_ _ _=>trivial) (N:=σ.length) (λi hi=>by
    obtain⟨b,hb⟩:=YA (bs.map (ABlk.mapV (AVal.ren (keepM ids σ.length bs.length)))) σ.length i (by simpa using hi);rw[hup _ hb]; simp[hp]) (λb b' cb e1 e2=>by
    unfold keepM at e1;obtain⟨e0,e1⟩:=Xi e1;cases e1;by_cases hin:b∈ids∧b<σ.length
    ·right;obtain⟨hin,hb⟩:=hin;have hb':hq b=some (σ[b]):=by rw[hrd b hin]; simp[hp,hb]
     obtain⟨cb0,hcb⟩:=r.dom b _ hb';have:c' b=some cb0:=by simp only[c']; rw[if_pos hb,hcb]; rfl
     have:=hle.c b cb0 this;rw[e2] at this; cases this; exact hcb
    ·left;simp only[Bool.or_eq_true,Bool.and_eq_true] at e0;rcases e0 with q|⟨q1,q2⟩
     ·exact(hin ⟨List.contains_iff_mem.1 q,hids b (List.contains_iff_mem.1 q)⟩).elim
     ·have:=YNL q1;have:b < σ.length + bs.length:=YNL q2;exact⟨b - σ.length,by omega,by omega,by omega⟩)
  exact⟨u,k1,u,rfl,⟨g'.M,c2⟩,⟨hle.m,j1⟩,j3,k2.ren j2⟩
 cases e with
 |normal=>obtain⟨g',ρ,σ,k1,k2,k3,k4⟩:=hl; exact⟨k3.defers,fin g' ρ σ k1 k2 k3 k4.2⟩
 |ret=>obtain⟨g',ρ,σ,k1,k2,k3,k4⟩:=hl; exact⟨k3.defers,fin g' ρ σ k1 k2 k3 k4.2⟩
 |exit id=>obtain⟨g',ρ,σ,k1,k2,k3,k4⟩:=hl; rcases k4.1 with q|q<;>cases q
 |_=>exact hl.elim
end
end Go.Ah
end
section
namespace Go.Ah
mutual
def AVal.ids:AVal→List Nat
 |.bptr b _=>[b]
 |.ptr b _ _=>[b]
 |.sl b _ _ _=>[b]
 |.map b=>[b]
 |.iter b=>[b]
 |.func _ xs ys=>idsL xs++idsL ys
 |.iface _ v=>v.ids
 |.agg cs=>idsL cs
 |.tup cs=>idsL cs
 |.when _ x=>x.ids
 |_=>[]
def idsL:List AVal→List Nat
 |[]=>[]
 |x::xs=>x.ids++idsL xs
end
def Zv:Nat→List ABlk→Option (List ABlk)
 |0,l=>some l
 |n+1,.dead::l=>Zv n l
 |_+1,_=>none
theorem QV:∀(σ l news:List ABlk),Zv σ.length l=some news→l=Xm σ++news
 |[],l,news,h=>by simp[Zv] at h; simp[Xm,h]
 |x::σ,l,news,h=>by
  cases l with
  |nil=>simp[Zv] at h
  |cons y l=>
   cases y with
   |dead=>simp only[List.length_cons,Zv] at h; rw[QV σ l news h]; rfl
   |_=>simp[Zv] at h
def Xh(n:Nat):List Nat→Bool
 |[]=>true
 |x::xs=>Nat.blt x n&&Xh n xs
theorem Zz{n:Nat}:∀ {l:List Nat},Xh n l=true→∀i∈l,i<n
 |x::xs,h,i,hi=>by
  simp only[Xh,Bool.and_eq_true] at h;rcases List.mem_cons.1 hi with rfl|hi
  ·exact YNL h.1
  ·exact Zz h.2 i hi
def much:Nat:=1000000000
end Go.Ah
end
section
namespace Go.Ah
structure Ans (α:Type) where
 stop:α
 call:MK→List AVal→List ABlk→(AVal→List ABlk→α)→α
 dcall:MK→List AVal→List ABlk→(AVal→List Nat×List Nat→List ABlk→α)→α
 test:AVal→α→α→α
 loop:((List AVal→List ABlk→α)→List AVal→List ABlk→α)→List AVal→List ABlk→α
section
variable {α:Type}
def Ans.rd(A:Ans α)(r:SRes)(K:AVal→α):α:=match r with
 |.ok v _ []=>K v
 |_=>A.stop
def Ans.pu(A:Ans α)(r:SRes)(K:AVal→α):α:=match r with
 |.ok v [] []=>K v
 |_=>A.stop
def Ans.wr(A:Ans α)(r:SRes)(σ:List ABlk)(K:AVal→List ABlk→α):α:=match r with
 |.ok v _ up=>match upL σ up with
  |some σ'=>K v σ'
  |none=>A.stop
 |.stop=>A.stop
def Ans.dr(A:Ans α)(r:SRes)(σ:List ABlk)(K:AVal→List Nat×List Nat→List ABlk→α):α:=match r with
 |.ok v rd up=>match upL σ up with
  |some σ'=>K v (rd,up.map (·.1)) σ'
  |none=>A.stop
 |.stop=>A.stop
def Ans.opt{β:Type}(A:Ans α)(o:Option β)(K:β→α):α:=match o with
 |some v=>K v
 |none=>A.stop
def Ans.gd(A:Ans α)(b:Bool)(k:α):α:=match b with
 |true=>k
 |false=>A.stop
@[reducible] def udf(cs:List (Bool×Bool)):AVal:=.when cs (.bool false)
def Ans.gx(A:Ans α)(c:AVal)(w:Bool)(r:α)(s:List (Bool×Bool)→α):α:=match c with
 |.when cs (.bool q)=>match X9.holdNot cs with
  |true=>s (cs++[(q,w)])
  |false=>A.stop
 |c=>A.test c (bif w then r else s [(true,w)]) (bif w then s [(false,w)] else r)
def Ans.gr(A:Ans α)(c:AVal)(w:Bool)(r:(AVal→α)→α)(K:AVal→α):α:=A.gx c w (r K) (λcs=>K (udf cs))
def Ans.gw(A:Ans α)(c:AVal)(w:Bool)(r:(AVal→List ABlk→α)→α)(σ:List ABlk)(K:AVal→List ABlk→α):α:=A.gx c w (r K) (λcs=>K (udf cs) σ)
def Ans.gl(A:Ans α)(c:AVal)(w:Bool)(r:(AVal→List Nat×List Nat→List ABlk→α)→α)(σ:List ABlk)(K:AVal→List Nat×List Nat→List ABlk→α):α:=
 A.gx c w (r K) (λcs=>K (udf cs) ([],[]) σ)
def joinK(f:(List AVal→List ABlk→α)→α)(k:List AVal→List ABlk→α):α:=f k
inductive Cls where
 |mv|pu|rd|wr|call
def clsOf:MK→Cls
 |.mv=>.mv
 |.call _ | .callv | .invoke _ _=>.call
 |.alloc _ | .box | .buildS _ _ _ _ | .store _ | .makeMap | .append _ _ _ | .mapUpd _ | .range | .next | .makeS _ _ _ | .clearS _ _=>.wr
 |.load _ _ | .lookup _ _ _ | .lenM | .sliceS _ _ _ _ | .idxAddrS _=>.rd
 |_=>.pu
def dnOp(A:Ans α)(o:MOper)(ρ:Frame)(σ:List ABlk)(K:Frame→List ABlk→α):α:=
 match o.guard with
 |none=>match clsOf o.k with
  |.mv=>match o.xs with
   |[x]=>K (putF o.dst (ev ρ x) ρ) σ
   |_=>A.stop
  |.pu | .rd=>A.rd (cstep o.k (o.xs.map (ev ρ)) σ) λv=>K (putF o.dst v ρ) σ
  |.wr=>A.wr (cstep o.k (o.xs.map (ev ρ)) σ) σ λv σ=>K (putF o.dst v ρ) σ
  |.call=>A.call o.k (o.xs.map (ev ρ)) σ λv σ=>K (putF o.dst v ρ) σ
 |some (s,w)=>match clsOf o.k with
  |.mv | .pu | .rd=>A.gr (fget ρ s) w (λk=>A.rd (cstep o.k (o.xs.map (ev ρ)) σ) k) λv=>K (putF o.dst v ρ) σ
  |.wr=>A.gw (fget ρ s) w (λk=>A.wr (cstep o.k (o.xs.map (ev ρ)) σ) σ k) σ λv σ=>K (putF o.dst v ρ) σ
  |.call=>A.gw (fget ρ s) w (λk=>A.call o.k (o.xs.map (ev ρ)) σ k) σ λv σ=>K (putF o.dst v ρ) σ
def dnOps(A:Ans α):List MOper→Frame→List ABlk→(Frame→List ABlk→α)→α
 |[],ρ,σ,K=>K ρ σ
 |o::r,ρ,σ,K=>dnOp A o ρ σ λρ σ=>dnOps A r ρ σ K
def dnOpD(A:Ans α)(o:MOper)(ρ:Frame)(σ:List ABlk)(lg:Log)(K:Frame→List ABlk→Log→α):α:=
 match o.guard with
 |none=>match clsOf o.k with
  |.mv=>match o.xs with
   |[x]=>K (putF o.dst (ev ρ x) ρ) σ (lg++[([],[])])
   |_=>A.stop
  |.pu=>A.pu (cstep o.k (o.xs.map (ev ρ)) σ) λv=>K (putF o.dst v ρ) σ (lg++[([],[])])
  |.rd | .wr=>A.dr (cstep o.k (o.xs.map (ev ρ)) σ) σ λv l σ=>K (putF o.dst v ρ) σ (lg++[l])
  |.call=>A.dcall o.k (o.xs.map (ev ρ)) σ λv l σ=>K (putF o.dst v ρ) σ (lg++[l])
 |some (s,w)=>match clsOf o.k with
  |.mv | .pu=>A.gr (fget ρ s) w (λk=>A.pu (cstep o.k (o.xs.map (ev ρ)) σ) k) λv=>K (putF o.dst v ρ) σ (lg++[([],[])])
  |.rd | .wr=>A.gl (fget ρ s) w (λk=>A.dr (cstep o.k (o.xs.map (ev ρ)) σ) σ k) σ λv l σ=>K (putF o.dst v ρ) σ (lg++[l])
  |.call=>A.gl (fget ρ s) w (λk=>A.dcall o.k (o.xs.map (ev ρ)) σ k) σ λv l σ=>K (putF o.dst v ρ) σ (lg++[l])
def ZaE(A:Ans α):List MOper→Frame→List ABlk→Log→(Frame→List ABlk→Log→α)→α
 |[],ρ,σ,lg,K=>K ρ σ lg
 |o::r,ρ,σ,lg,K=>dnOpD A o ρ σ lg λρ σ lg=>ZaE A r ρ σ lg K
def isWr:Cls→Bool
 |.wr=>true
 |.call=>true
 |_=>false
def noWr:List MOper→Bool
 |[]=>true
 |o::r=>!(isWr (clsOf o.k))&&noWr r
inductive DCode where
 |skip
 |region (id:Nat) (ms:List MOper) (draw:Option (List (List Nat)))
 |seq (a b:DCode)
 |cond (c:Opd) (a b:DCode)
 |join (lv:List Nat) (a:DCode)
 |block (id:Nat) (a:DCode)
 |loop (lv:List Nat) (a:DCode)
 |exit (id:Nat)
 |scope (a:DCode)
 |label (l:Nat)
 |ret
 deriving Inhabited
def DCode.er:DCode→MCode
 |.skip=>.skip
 |.region id ms hd=>.region id ms hd
 |.seq a b=>.seq a.er b.er
 |.cond c a b=>.cond c a.er b.er
 |.join _ a=>a.er
 |.block id a=>.block id a.er
 |.loop _ a=>.loop a.er
 |.exit id=>.exit id
 |.scope a=>.scope a.er
 |.label l=>.label l
 |.ret=>.ret
def Yo:List MOper→List Nat
 |[]=>[]
 |o::r=>match o.dst with
  |some d=>d::Yo r
  |none=>Yo r
def DCode.asg:DCode→List Nat
 |.region _ ms _=>Yo ms
 |.seq a b=>a.asg++b.asg
 |.cond _ a b=>a.asg++b.asg
 |.join _ a=>a.asg
 |.block _ a=>a.asg
 |.loop _ a=>a.asg
 |.scope a=>a.asg
 |_=>[]
def inL(x:Nat):List Nat→Bool
 |[]=>false
 |y::l=>Nat.beq x y||inL x l
def subL:List Nat→List Nat→Bool
 |[],_=>true
 |x::l,b=>inL x b&&subL l b
def DCode.ok:DCode→Bool
 |.seq a b=>a.ok&&b.ok
 |.cond _ a b=>a.ok&&b.ok
 |.join lv a=>subL lv a.asg&&a.ok
 |.block _ a=>a.ok
 |.loop lv a=>subL lv a.asg&&a.ok
 |.scope a=>a.ok
 |_=>true
def hdV:List AVal→AVal
 |[]=>.junk
 |x::_=>x
def tlV:List AVal→List AVal
 |[]=>[]
 |_::l=>l
def zipF:List Nat→List AVal→Frame→Frame
 |[],_,ρ=>ρ
 |k::ks,vs,ρ=>(k,hdV vs)::zipF ks (tlV vs) ρ
def dropF(l:List Nat):Frame→Frame
 |[]=>[]
 |(k,v)::r=>match inL k l with
  |true=>dropF l r
  |false=>(k,v)::dropF l r
def getF(ρ:Frame):List Nat→List AVal
 |[]=>[]
 |s::r=>fget ρ s::getF ρ r
def dn(A:Ans α):DCode→Frame→List ABlk→(Frame→List ABlk→α)→(Nat→Frame→List ABlk→α)→(Frame→List ABlk→α)→α
 |.skip,ρ,σ,K,_,_=>K ρ σ
 |.label _,ρ,σ,K,_,_=>K ρ σ
 |.region _ ms none,ρ,σ,K,_,_=>dnOps A ms ρ σ K
 |.region _ ms (some hd),ρ,σ,K,_,_=>match noWr ms with
  |true=>dnOps A ms ρ σ K
  |false=>ZaE A ms ρ σ [] λρ σ lg=>A.gd (Qd hd lg) (K ρ σ)
 |.seq a b,ρ,σ,K,E,R=>dn A a ρ σ (λρ σ=>dn A b ρ σ K E R) E R
 |.cond c a b,ρ,σ,K,E,R=>A.test (ev ρ c) (dn A a ρ σ K E R) (dn A b ρ σ K E R)
 |.join lv a,ρ,σ,K,E,R=>joinK (λk=>dn A a ρ σ (λρ' σ=>k (getF ρ' lv) σ) E R) (λvs σ=>K (zipF lv vs (dropF a.asg ρ)) σ)
 | .block id a,ρ,σ,K,E,R=>dn A a ρ σ K (λi ρ σ=>match Nat.beq i id with
  |true=>K ρ σ
  | false=>E i ρ σ) R
 |.loop lv a,ρ,σ,_,E,R=>A.loop (λagain vs σ=>dn A a (zipF lv vs (dropF a.asg ρ)) σ (λρ' σ=>again (getF ρ' lv) σ) E R) (getF ρ lv) σ
 |.exit id,ρ,σ,_,E,_=>E id ρ σ
 |.scope a,ρ,σ,K,E,R=>dn A a ρ σ K E R
 |.ret,ρ,σ,_,_,R=>R ρ σ
def cellV(agg:Bool)(n:Nat)(x:AVal)(σ:List ABlk):Option AVal:=match x with
 |.bptr b j=>match hget σ b with
  |.box row=>partA agg j n row
  |_=>none
 |_=>none
def Zaa(A:Ans α):List RV→Frame→List ABlk→(List AVal→α)→α
 |[],_,_,K=>K []
 |.t n::r,ρ,σ,K=>Zaa A r ρ σ λvs=>K (fget ρ n::vs)
 |.c s agg n::r,ρ,σ,K=>A.opt (cellV agg n (fget ρ s) σ) λv=>Zaa A r ρ σ λvs=>K (v::vs)
structure DFn where
 np:Nat
 n:Nat
 body:DCode
 rets:List RV
 deriving Inhabited
def DFn.fn(D:DFn):MFn:=⟨D.np,D.n,D.body.er,D.rets⟩
def dnFn(A:Ans α)(D:DFn)(xs:List AVal)(σ:List ABlk)(ret:AVal→List ABlk→α):α:=
 dn A D.body (frame0 xs) σ (λρ σ=>Zaa A D.rets ρ σ λvs=>ret (retOf vs) σ) (λ_ _ _=>A.stop) (λρ σ=>Zaa A D.rets ρ σ λvs=>ret (retOf vs) σ)
def iterA(stop:α):Nat→((List AVal→List ABlk→α)→List AVal→List ABlk→α)→List AVal→List ABlk→α
 |0,_,_,_=>stop
 |n+1,F,vs,σ=>F (iterA stop n F) vs σ
structure AnsOk (P:Program) (GL:Globs) (A:Ans α) (hold:α→Prop):Prop where
 stop:¬hold A.stop
 call:∀ {k xs σ K},hold (A.call k xs σ K)→∃R,OpRel P GL k xs σ R∧∀v σ',R v σ'→hold (K v σ')
 dcall:∀ {k xs σ K},hold (A.dcall k xs σ K)→∃v rd up σ',OpSem P GL k xs (hp σ) v rd up∧upL σ up=some σ'∧hold (K v (rd,up.map (·.1)) σ')
 test:∀ {v a b},hold (A.test v a b)→∃c,v=.bool c∧(c=true→hold a)∧(c=false→hold b)
 loop:∀ {F vs σ},hold (A.loop F vs σ)→∃n,hold (iterA A.stop n F vs σ)
section
variable {P:Program} {GL:Globs} {A:Ans α} {hold:α→Prop}
theorem AnsOk.rd(ok:AnsOk P GL A hold){r:SRes}{K:AVal→α}(h:hold (A.rd r K)):∃v rd,r=.ok v rd []∧hold (K v):=by
 unfold Ans.rd at h;split at h
 ·exact⟨_,_,rfl,h⟩
 ·exact(ok.stop h).elim
theorem AnsOk.pu(ok:AnsOk P GL A hold){r:SRes}{K:AVal→α}(h:hold (A.pu r K)):∃v,r=.ok v [] []∧hold (K v):=by
 unfold Ans.pu at h;split at h
 ·exact⟨_,rfl,h⟩
 ·exact(ok.stop h).elim
theorem AnsOk.wr(ok:AnsOk P GL A hold){r:SRes}{σ:List ABlk}{K:AVal→List ABlk→α}(h:hold (A.wr r σ K)):∃v rd up σ',r=.ok v rd up∧upL σ up=some σ'∧hold (K v σ'):=by
 unfold Ans.wr at h;split at h
 ·split at h
  ·rename_i e; exact⟨_,_,_,_,rfl,e,h⟩
  ·exact(ok.stop h).elim
 ·exact(ok.stop h).elim
theorem AnsOk.dr(ok:AnsOk P GL A hold){r:SRes}{σ:List ABlk}{K:AVal→List Nat×List Nat→List ABlk→α}(h:hold (A.dr r σ K)):∃v rd up σ',r=.ok v rd up∧upL σ up=some σ'∧hold (K v (rd,up.map (·.1)) σ'):=by
 unfold Ans.dr at h;split at h
 ·split at h
  ·rename_i e; exact⟨_,_,_,_,rfl,e,h⟩
  ·exact(ok.stop h).elim
 ·exact(ok.stop h).elim
theorem AnsOk.gd(ok:AnsOk P GL A hold){b:Bool}{k:α}(h:hold (A.gd b k)):b=true∧hold k:=by
 unfold Ans.gd at h;split at h
 ·exact⟨rfl,h⟩
 ·exact(ok.stop h).elim
theorem AnsOk.opt(ok:AnsOk P GL A hold){β:Type}{o:Option β}{K:β→α}(h:hold (A.opt o K)):∃v,o=some v∧hold (K v):=by
 unfold Ans.opt at h;split at h
 ·exact⟨_,rfl,h⟩
 ·exact(ok.stop h).elim
theorem YB(σ:List ABlk):upL σ []=some σ:=by simp[upL]
theorem QaM{ρ:Frame}{s:Nat}{w c:Bool}(h:fget ρ s=.bool c):GuardIs ρ (some (s,w)) [(c,w)]:=.bool s w c h
theorem Ybh{c w:Bool}:Hold [(c,w)]↔c=w:=by simp[Hold]
theorem ZH(ok:AnsOk P GL A hold){ρ:Frame}{s:Nat}{w:Bool}{r:α}{K:List (Bool×Bool)→α}(h:hold (A.gx (fget ρ s) w r K)):∃cs,GuardIs ρ (some (s,w)) cs∧((Hold cs∧hold r)∨(¬Hold cs∧hold (K cs))):=by
 unfold Ans.gx at h;split at h
 ·rename_i cs q hc;split at h
  ·rename_i hn;refine⟨_,.when s w q cs hc,.inr ⟨λq=>XQ hn (λp hp=>q p (by simp[hp])),h⟩⟩
  ·exact(ok.stop h).elim
 ·obtain⟨b,hb,h1,h2⟩:=ok.test h;refine⟨_,QaM hb,?_⟩;rw[Ybh];cases b<;>cases w<;>simp_all
def Qc(l:List Nat)(ρ ρ':Frame):Prop:=∀s,s∉l→fget ρ' s=fget ρ s
theorem Qc.refl(l:List Nat)(ρ:Frame):Qc l ρ ρ:=λ_ _=>rfl
theorem Qc.trans{l l':List Nat}{a b c:Frame}(h:Qc l a b)(k:Qc l' b c):Qc (l++l') a c:=λs hs=>by
 simp only[List.mem_append,not_or] at hs;rw[k s hs.2,h s hs.1]
theorem Qc.mono{l l':List Nat}{a b:Frame}(h:Qc l a b)(hl:∀x∈l,x∈l'):Qc l' a b:=λs hs=>h s λe=>hs (hl s e)
theorem Qc.put{o:MOper}{v:AVal}{ρ:Frame}:Qc (Yo [o]) ρ (putF o.dst v ρ):=by
 intro s hs;rw[Xx];cases hd:o.dst with
 |none=>simp
 |some d=>
  have:s≠d:=by rintro rfl; simp[Yo,hd] at hs
  rw[if_neg (by simpa using λe=>this e.symm)]
theorem Y0(o:MOper)(r:List MOper):Yo (o::r)=Yo [o]++Yo r:=by
 cases hd:o.dst<;>simp[Yo,hd]
theorem XaL(ok:AnsOk P GL A hold){fl:Bool}{o:MOper}{ρ:Frame}{σ:List ABlk}{lg:Log}{K:Frame→List ABlk→α}(hfl:fl=true→isWr (clsOf o.k)=false)(h:hold (dnOp A o ρ σ K)) :
  StepR fl P GL o ρ σ lg (λρ' σ' lg'=>hold (K ρ' σ')∧Qc (Yo [o]) ρ ρ'∧((∃l,lg'=lg++[l]∧(isWr (clsOf o.k)=false→l.2=[])))):=by
 unfold dnOp at h;cases hg:o.guard with
 |none=>
  simp only[hg] at h;have gi:GuardIs ρ o.guard []:=by rw[hg]; exact .none
  have hh:Hold []:=by simp[Hold]
  have rdcase:hold (A.rd (cstep o.k (o.xs.map (ev ρ)) σ) λv=>K (putF o.dst v ρ) σ)→StepR fl P GL o ρ σ lg (λρ' σ' lg'=>hold (K ρ' σ')∧Qc (Yo [o]) ρ ρ'∧((∃l,lg'=lg++[l]∧(isWr (clsOf o.k)=false→l.2=[])))):=by
   intro h;obtain⟨v,rd,e,h⟩:=ok.rd h;exact .run [] _ v rd [] σ gi hh (Ye _) (Zm e) (YB σ) ⟨h,Qc.put,_,rfl,λ_=>rfl⟩
  cases hc:clsOf o.k with
  |mv=>
   simp only[hc] at h;split at h
   ·rename_i x hx;have hk:o.k=.mv:=by
     revert hc; unfold clsOf; split<;>simp_all
    refine .run [] [ev ρ x] (ev ρ x) [] [] σ gi hh (by rw[hx]; exact Ye _) (by rw[hk]; exact Qa9 _ _) (YB σ) ⟨h,Qc.put,_,rfl,λ_=>rfl⟩
   ·exact(ok.stop h).elim
  |pu=>simp only[hc] at h rdcase; exact rdcase h
  |rd=>simp only[hc] at h rdcase; exact rdcase h
  |wr=>
   simp only[hc] at h;obtain⟨v,rd,up,σ',e,e2,h⟩:=ok.wr h;exact .run [] _ v rd up σ' gi hh (Ye _) (Zm e) e2 ⟨h,Qc.put,_,rfl,λq=>by simp[isWr] at q⟩
  |call=>
   simp only[hc] at h;obtain⟨R,hR,hk⟩:=ok.call h;refine .rel [] _ R ?_ gi hh (Ye _) hR (λv σ' hv=>⟨hk v σ' hv,Qc.put,_,rfl,λq=>by simp[isWr] at q⟩);cases fl with
   |false=>rfl
   |true=>have:=hfl rfl; simp[hc,isWr] at this
 |some p=>
  obtain⟨s,w⟩:=p;simp only[hg] at h;have skipcase:∀cs,GuardIs ρ (some (s,w)) cs→¬Hold cs→hold (K (putF o.dst (udf cs) ρ) σ)→StepR fl P GL o ρ σ lg (λρ' σ' lg'=>hold (K ρ' σ')∧Qc (Yo [o]) ρ ρ'∧((∃l,lg'=lg++[l]∧(isWr (clsOf o.k)=false→l.2=[])))):=by
   intro cs hb hne h;exact .lazy cs _ (.bool false) [] (by rw[hg]; exact hb) (Ye _) (λq=>(hne q).elim) ⟨h,Qc.put,_,rfl,λ_=>rfl⟩
  have rdcase:hold (A.gr (fget ρ s) w (λk=>A.rd (cstep o.k (o.xs.map (ev ρ)) σ) k) λv=>K (putF o.dst v ρ) σ)→StepR fl P GL o ρ σ lg (λρ' σ' lg'=>hold (K ρ' σ')∧Qc (Yo [o]) ρ ρ'∧((∃l,lg'=lg++[l]∧(isWr (clsOf o.k)=false→l.2=[])))):=by
   intro h;obtain⟨cs,hb,⟨h0,h1⟩|⟨h0,h1⟩⟩:=ZH ok h
   ·obtain⟨v,rd,e,h⟩:=ok.rd h1;exact .run cs _ v rd [] σ (by rw[hg]; exact hb) h0 (Ye _) (Zm e) (YB σ) ⟨h,Qc.put,_,rfl,λ_=>rfl⟩
   ·exact skipcase cs hb h0 h1
  cases hc:clsOf o.k with
  |mv=>simp only[hc] at h rdcase; exact rdcase h
  |pu=>simp only[hc] at h rdcase; exact rdcase h
  |rd=>simp only[hc] at h rdcase; exact rdcase h
  |wr=>
   simp only[hc] at h skipcase;obtain⟨cs,hb,⟨h0,h1⟩|⟨h0,h1⟩⟩:=ZH ok h
   ·obtain⟨v,rd,up,σ',e,e2,h⟩:=ok.wr h1;exact .run cs _ v rd up σ' (by rw[hg]; exact hb) h0 (Ye _) (Zm e) e2 ⟨h,Qc.put,_,rfl,λq=>by simp[isWr] at q⟩
   ·exact skipcase cs hb h0 h1
  |call=>
   simp only[hc] at h skipcase;obtain⟨cs,hb,⟨h0,h1⟩|⟨h0,h1⟩⟩:=ZH ok h
   ·obtain⟨R,hR,hk⟩:=ok.call h1;refine .rel cs _ R ?_ (by rw[hg]; exact hb) h0 (Ye _) hR (λv σ' hv=>⟨hk v σ' hv,Qc.put,_,rfl,λq=>by simp[isWr] at q⟩);cases fl with
    |false=>rfl
    |true=>have:=hfl rfl; simp[hc,isWr] at this
   ·exact skipcase cs hb h0 h1
theorem AwpR.mono{fl:Bool}:∀ {ms:List MOper} {ρ:Frame} {σ:List ABlk} {lg:Log} {K K':Frame→List ABlk→Log→Prop},(∀ρ σ lg,K ρ σ lg→K' ρ σ lg)→AwpR fl P GL ms ρ σ lg K→AwpR fl P GL ms ρ σ lg K'
 |[],_,_,_,_,_,h,k=>h _ _ _ k
 |_::_,_,_,_,_,_,h,k=>StepR.mono (λ_ _ _ q=>AwpR.mono h q) k
def allRd(lg:Log):Prop:=∀l∈lg,l.2=[]
theorem QJ(ok:AnsOk P GL A hold){fl:Bool}:∀ {ms:List MOper} {ρ:Frame} {σ:List ABlk} {lg:Log} {K:Frame→List ABlk→α},(fl=true→noWr ms=true)→hold (dnOps A ms ρ σ K) →
  AwpR fl P GL ms ρ σ lg (λρ' σ' lg'=>hold (K ρ' σ')∧Qc (Yo ms) ρ ρ'∧(noWr ms=true→allRd lg→allRd lg'))
 |[],ρ,σ,lg,K,_,h=>⟨h,Qc.refl _ _,λ_ q=>q⟩
 |o::r,ρ,σ,lg,K,hfl,h=>by
  unfold dnOps at h;have hfl1:fl=true→isWr (clsOf o.k)=false:=λe=>by have:=hfl e; simp[noWr] at this; exact this.1
  have hfl2:fl=true→noWr r=true:=λe=>by have:=hfl e; simp[noWr] at this; exact this.2
  refine StepR.mono (λρ' σ' lg'=>?_) (XaL ok (lg:=lg) hfl1 h);rintro⟨k1,k2,l,hl,k3⟩;refine AwpR.mono (λρ'' σ'' lg''=>?_) (QJ ok hfl2 k1);rintro⟨q1,q2,q3⟩;refine⟨q1,by rw[Y0]; exact k2.trans q2,λhn hlg=>?_⟩;simp only[noWr,Bool.and_eq_true,Bool.not_eq_true'] at hn;refine q3 hn.2 ?_;rw[hl];intro x hx;simp only[List.mem_append,List.mem_singleton] at hx;rcases hx with hx|hx
  ·exact hlg x hx
  ·rw[hx]; exact k3 hn.1
theorem Qax(ok:AnsOk P GL A hold){o:MOper}{ρ:Frame}{σ:List ABlk}{lg:Log}{K:Frame→List ABlk→Log→α}(h:hold (dnOpD A o ρ σ lg K)) :
  StepR true P GL o ρ σ lg (λρ' σ' lg'=>hold (K ρ' σ' lg')∧Qc (Yo [o]) ρ ρ'):=by
 unfold dnOpD at h;cases hg:o.guard with
 |none=>
  simp only[hg] at h;have gi:GuardIs ρ o.guard []:=by rw[hg]; exact .none
  have hh:Hold []:=by simp[Hold]
  have drcase:hold (A.dr (cstep o.k (o.xs.map (ev ρ)) σ) σ λv l σ=>K (putF o.dst v ρ) σ (lg++[l]))→StepR true P GL o ρ σ lg (λρ' σ' lg'=>hold (K ρ' σ' lg')∧Qc (Yo [o]) ρ ρ'):=by
   intro h;obtain⟨v,rd,up,σ',e,e2,h⟩:=ok.dr h;exact .run [] _ v rd up σ' gi hh (Ye _) (Zm e) e2 ⟨h,Qc.put⟩
  cases hc:clsOf o.k with
  |mv=>
   simp only[hc] at h;split at h
   ·rename_i x hx;have hk:o.k=.mv:=by
     revert hc; unfold clsOf; split<;>simp_all
    refine .run [] [ev ρ x] (ev ρ x) [] [] σ gi hh (by rw[hx]; exact Ye _) (by rw[hk]; exact Qa9 _ _) (YB σ) ⟨h,Qc.put⟩
   ·exact(ok.stop h).elim
  |pu=>
   simp only[hc] at h;obtain⟨v,e,h⟩:=ok.pu h;exact .run [] _ v [] [] σ gi hh (Ye _) (Zm e) (YB σ) ⟨h,Qc.put⟩
  |rd=>simp only[hc] at h; exact drcase h
  |wr=>simp only[hc] at h; exact drcase h
  |call=>
   simp only[hc] at h;obtain⟨v,rd,up,σ',e,e2,h⟩:=ok.dcall h;exact .run [] _ v rd up σ' gi hh (Ye _) e e2 ⟨h,Qc.put⟩
 |some p=>
  obtain⟨s,w⟩:=p;simp only[hg] at h;have skipcase:∀cs,GuardIs ρ (some (s,w)) cs→¬Hold cs→hold (K (putF o.dst (udf cs) ρ) σ (lg++[([],[])]))→StepR true P GL o ρ σ lg (λρ' σ' lg'=>hold (K ρ' σ' lg')∧Qc (Yo [o]) ρ ρ'):=by
   intro cs hb hne h;exact .lazy cs _ (.bool false) [] (by rw[hg]; exact hb) (Ye _) (λq=>(hne q).elim) ⟨h,Qc.put⟩
  have pucase:hold (A.gr (fget ρ s) w (λk=>A.pu (cstep o.k (o.xs.map (ev ρ)) σ) k) λv=>K (putF o.dst v ρ) σ (lg++[([],[])]))→StepR true P GL o ρ σ lg (λρ' σ' lg'=>hold (K ρ' σ' lg')∧Qc (Yo [o]) ρ ρ'):=by
   intro h;obtain⟨cs,hb,⟨h0,h1⟩|⟨h0,h1⟩⟩:=ZH ok h
   ·obtain⟨v,e,h⟩:=ok.pu h1;exact .run cs _ v [] [] σ (by rw[hg]; exact hb) h0 (Ye _) (Zm e) (YB σ) ⟨h,Qc.put⟩
   ·exact skipcase cs hb h0 h1
  have drcase:hold (A.gl (fget ρ s) w (λk=>A.dr (cstep o.k (o.xs.map (ev ρ)) σ) σ k) σ λv l σ=>K (putF o.dst v ρ) σ (lg++[l]))→StepR true P GL o ρ σ lg (λρ' σ' lg'=>hold (K ρ' σ' lg')∧Qc (Yo [o]) ρ ρ'):=by
   intro h;obtain⟨cs,hb,⟨h0,h1⟩|⟨h0,h1⟩⟩:=ZH ok h
   ·obtain⟨v,rd,up,σ',e,e2,h⟩:=ok.dr h1;exact .run cs _ v rd up σ' (by rw[hg]; exact hb) h0 (Ye _) (Zm e) e2 ⟨h,Qc.put⟩
   ·exact skipcase cs hb h0 h1
  cases hc:clsOf o.k with
  |mv=>simp only[hc] at h; exact pucase h
  |pu=>simp only[hc] at h; exact pucase h
  |rd=>simp only[hc] at h; exact drcase h
  |wr=>simp only[hc] at h; exact drcase h
  |call=>
   simp only[hc] at h;obtain⟨cs,hb,⟨h0,h1⟩|⟨h0,h1⟩⟩:=ZH ok h
   ·obtain⟨v,rd,up,σ',e,e2,h⟩:=ok.dcall h1;exact .run cs _ v rd up σ' (by rw[hg]; exact hb) h0 (Ye _) e e2 ⟨h,Qc.put⟩
   ·exact skipcase cs hb h0 h1
theorem ZT(ok:AnsOk P GL A hold):∀ {ms:List MOper} {ρ:Frame} {σ:List ABlk} {lg:Log} {K:Frame→List ABlk→Log→α},hold (ZaE A ms ρ σ lg K) →
  AwpR true P GL ms ρ σ lg (λρ' σ' lg'=>hold (K ρ' σ' lg')∧Qc (Yo ms) ρ ρ')
 |[],ρ,σ,lg,K,h=>⟨h,Qc.refl _ _⟩
 |o::r,ρ,σ,lg,K,h=>by
  unfold ZaE at h;refine StepR.mono (λρ' σ' lg'=>?_) (Qax ok h);rintro⟨k1,k2⟩;refine AwpR.mono (λρ'' σ'' lg''=>?_) (ZT ok k1);rintro⟨q1,q2⟩;exact⟨q1,by rw[Y0]; exact k2.trans q2⟩
theorem QaD:∀a:List Nat,disj a []=true
 |[]=>rfl
 |x::a=>by simp[disj,QaD a]
theorem Qau{hd:List (List Nat)}{lg:Log}(h:allRd lg):Qd hd lg=true:=by
 have one:∀(h':List Nat) (q:List Nat×List Nat),q.2=[]→∀(l:Log) (i:Nat),allRd l→Zt h' q i l=true:=by
  intro h' q hq l
  induction l with
  |nil=>intro i _; rfl
  |cons p r ih=>
   intro i hl;have hp:p.2=[]:=hl p (by simp);simp[Zt,apart2,hq,hp,disj,QaD,ih (i+1) (λx hx=>hl x (by simp[hx]))]
 unfold Qd;rw[List.all_eq_true];intro j _;refine one _ _ ?_ _ _ (λx hx=>h x (List.mem_of_mem_take hx));unfold QT;cases hj:lg[j]? with
 |none=>rfl
 |some p=>exact h p (List.mem_of_getElem? hj)
theorem Z3{x:Nat}:∀ {l:List Nat},inL x l=true↔x∈l
 |[]=>by simp[inL]
 |y::l=>by simp[inL,Z3 (l:=l)]
theorem Qaj:∀ {l b:List Nat},subL l b=true→∀x∈l,x∈b
 |[],_,_,x,h=>by simp at h
 |y::l,b,h,x,hx=>by
  simp only[subL,Bool.and_eq_true] at h;simp only[List.mem_cons] at hx;rcases hx with rfl|hx
  ·exact Z3.1 h.1
  ·exact Qaj h.2 x hx
theorem ZG(l:List Nat)(s:Nat):∀ρ:Frame,fget (dropF l ρ) s=if s∈l then .junk else fget ρ s
 |[]=>by simp[dropF,fget]
 |(k,v)::r=>by
  unfold dropF;cases hk:inL k l with
  |true=>
   have hm:=Z3.1 hk;simp only;rw[ZG l s r];by_cases hs:s∈l
   ·simp[hs]
   ·have:s≠k:=by rintro rfl; exact hs hm
    rw[if_neg hs,if_neg hs,Qn,if_neg this]
  |false=>
   have hm:k∉l:=λe=>by rw[Z3.2 e] at hk; cases hk
   simp only;rw[Qn,Qn,ZG l s r];by_cases hs:s=k
   ·subst hs; simp[hm]
   ·simp[hs]
theorem YN{s:Nat}:∀ {lv:List Nat} {vs:List AVal} {ρ:Frame},s∉lv→fget (zipF lv vs ρ) s=fget ρ s
 |[],_,_,_=>rfl
 |k::ks,vs,ρ,h=>by
  simp only[List.mem_cons,not_or] at h;simp only[zipF];rw[Qn,if_neg h.1,YN h.2]
theorem ZaC{lv:List Nat}{l:List Nat}{ρ ρ1:Frame}(hl:∀x∈lv,x∈l)(h:Qc l ρ ρ1):FLe (zipF lv (getF ρ1 lv) (dropF l ρ)) ρ1:=by
 have key:∀(ks:List Nat) (ρ0:Frame),FLe ρ0 ρ1→FLe (zipF ks (getF ρ1 ks) ρ0) ρ1:=by
  intro ks
  induction ks with
  |nil=>intro ρ0 h; exact h
  |cons k ks ih=>
   intro ρ0 h t;simp only[zipF,getF,hdV,tlV];rw[Qn];by_cases e:t=k
   ·subst e; rw[if_pos rfl]; exact .inl rfl
   ·rw[if_neg e]; exact ih ρ0 h t
 refine key lv _ (λt=>?_);rw[ZG];by_cases ht:t∈l
 ·rw[if_pos ht]; exact .inr rfl
 ·rw[if_neg ht]; exact .inl (h t ht).symm
theorem Xau{lv l:List Nat}{vs:List AVal}{ρ:Frame}(hl:∀x∈lv,x∈l):Qc l ρ (zipF lv vs (dropF l ρ)):=by
 intro s hs;rw[YN (λe=>hs (hl s e)),ZG,if_neg hs]
theorem Yaf{n:Nat}{m:MCode}{ρ:Frame}{σ:List ABlk}{Q:APost}(h:Awp P GL n m ρ σ (λe ρ1 σ1=>∃ρ2,FLe ρ2 ρ1∧Q e ρ2 σ1)):Awp P GL n m ρ σ Q:=by
 intro c hc w0 L g a w r d;refine wp_mono (h c hc w0 L g a w r d) (λe a' w' hl=>?_);cases e with
 |normal=>obtain⟨g',ρ',σ',k1,k2,k3,ρ2,k4,k5⟩:=hl; exact⟨g',ρ2,σ',k1,k2,k3.weak k4,k5⟩
 |exit id=>obtain⟨g',ρ',σ',k1,k2,k3,ρ2,k4,k5⟩:=hl; exact⟨g',ρ2,σ',k1,k2,k3.weak k4,k5⟩
 |ret=>obtain⟨g',ρ',σ',k1,k2,k3,ρ2,k4,k5⟩:=hl; exact⟨g',ρ2,σ',k1,k2,k3.weak k4,k5⟩
 |_=>exact hl.elim
theorem FLe.refl(ρ:Frame):FLe ρ ρ:=λ_=>.inl rfl
theorem Xr(hP:P.follows .mixedOrders=true)(ok:AnsOk P GL A hold){n:Nat}:∀(m:DCode) {ρ:Frame} {σ:List ABlk} {K:Frame→List ABlk→α} {E:Nat→Frame→List ABlk→α} {R:Frame→List ABlk→α} {Q:APost},m.ok=true →
  (∀ρ' σ',Qc m.asg ρ ρ'→hold (K ρ' σ')→Q .normal ρ' σ')→(∀i ρ' σ',Qc m.asg ρ ρ'→hold (E i ρ' σ')→Q (.exit i) ρ' σ')→(∀ρ' σ',Qc m.asg ρ ρ'→hold (R ρ' σ')→Q .ret ρ' σ') →
  hold (dn A m ρ σ K E R)→Awp P GL n m.er ρ σ Q
 |.skip,_,_,_,_,_,_,_,hK,_,_,h=>Zbc (hK _ _ (Qc.refl _ _) h)
 |.label _,_,_,_,_,_,_,_,hK,_,_,h=>ZaT (hK _ _ (Qc.refl _ _) h)
 |.exit id,_,_,_,_,_,_,_,_,hE,_,h=>Qbb (hE _ _ _ (Qc.refl _ _) h)
 |.ret,_,_,_,_,_,_,_,_,_,hR,h=>Ybn (hR _ _ (Qc.refl _ _) h)
 |.scope a,_,_,_,_,_,_,hm,hK,hE,hR,h=>YaT (Xr hP ok a hm hK hE hR h)
 |.region id ms none,ρ,σ,K,E,R,Q,_,hK,_,_,h=>by
  refine QaJ (AwpR.mono (λρ' σ' lg'=>?_) (QJ ok (fl:=false) (λe=>by cases e) h));rintro⟨k1,k2,_⟩;exact hK _ _ k2 k1
 |.region id ms (some hd),ρ,σ,K,E,R,Q,_,hK,_,_,h=>by
  unfold dn at h;cases hn:noWr ms with
  |true=>
   simp only[hn] at h;refine QaC hP (AwpR.mono (λρ' σ' lg'=>?_) (QJ ok (fl:=true) (λ_=>hn) h));rintro⟨k1,k2,k3⟩;exact⟨Qau (k3 hn (λ_ q=>by simp at q)),hK _ _ k2 k1⟩
  |false=>
   simp only[hn] at h;refine QaC hP (AwpR.mono (λρ' σ' lg'=>?_) (ZT ok h));rintro⟨k1,k2⟩;obtain⟨q1,q2⟩:=ok.gd k1;exact⟨q1,hK _ _ k2 q2⟩
 |.seq a b,ρ,σ,K,E,R,Q,hm,hK,hE,hR,h=>by
  simp only[DCode.ok,Bool.and_eq_true] at hm;refine Xbn (Xr hP ok a hm.1 (Q:=APost.andThen (λρ σ=>Awp P GL n b.er ρ σ Q) Q) (λρ' σ' hs hk=>?_) (λi ρ' σ' hs hk=>?_) (λρ' σ' hs hk=>?_) h)
  ·exact Xr hP ok b hm.2 (λρ2 σ2 hs2=>hK _ _ (hs.trans hs2)) (λi ρ2 σ2 hs2=>hE _ _ _ (hs.trans hs2)) (λρ2 σ2 hs2=>hR _ _ (hs.trans hs2)) hk
  ·exact hE i ρ' σ' (hs.mono (λx hx=>by simp[DCode.asg,hx])) hk
  ·exact hR ρ' σ' (hs.mono (λx hx=>by simp[DCode.asg,hx])) hk
 |.cond c a b,ρ,σ,K,E,R,Q,hm,hK,hE,hR,h=>by
  simp only[DCode.ok,Bool.and_eq_true] at hm;unfold dn at h;obtain⟨v,hv,h1,h2⟩:=ok.test h;have m1:∀ρ',Qc a.asg ρ ρ'→Qc (DCode.cond c a b).asg ρ ρ':=λρ' q=>q.mono (λx hx=>by simp[DCode.asg,hx]);have m2:∀ρ',Qc b.asg ρ ρ'→Qc (DCode.cond c a b).asg ρ ρ':=λρ' q=>q.mono (λx hx=>by simp[DCode.asg,hx]);refine Xbb hv (λe=>?_) (λe=>?_)
  ·exact Xr hP ok a hm.1 (λρ2 σ2 q=>hK _ _ (m1 _ q)) (λi ρ2 σ2 q=>hE _ _ _ (m1 _ q)) (λρ2 σ2 q=>hR _ _ (m1 _ q)) (h1 e)
  ·exact Xr hP ok b hm.2 (λρ2 σ2 q=>hK _ _ (m2 _ q)) (λi ρ2 σ2 q=>hE _ _ _ (m2 _ q)) (λρ2 σ2 q=>hR _ _ (m2 _ q)) (h2 e)
 |.join lv a,ρ,σ,K,E,R,Q,hm,hK,hE,hR,h=>by
  simp only[DCode.ok,Bool.and_eq_true] at hm;have hlv:=Qaj hm.1;refine Yaf (Xr hP ok a hm.2 (K:=λρ' σ=>K (zipF lv (getF ρ' lv) (dropF a.asg ρ)) σ) (E:=E) (R:=R) (λρ' σ' hs hk=>?_) (λi ρ' σ' hs hk=>⟨ρ',FLe.refl _,hE i ρ' σ' hs hk⟩) (λρ' σ' hs hk=>⟨ρ',FLe.refl _,hR ρ' σ' hs hk⟩) h);exact⟨_,ZaC hlv hs,hK _ _ (Xau hlv) hk⟩
 |.block id a,ρ,σ,K,E,R,Q,hm,hK,hE,hR,h=>by
  refine QaS (Xr hP ok a hm (Q:=APost.inBlock id Q) hK (λi ρ' σ' hs hk=>?_) hR h);show (if i=id then Q .normal ρ' σ' else Q (.exit i) ρ' σ');by_cases hi:i=id
  ·subst hi;rw[if_pos rfl];have hb:Nat.beq i i=true:=Nat.beq_refl i;simp only[hb] at hk;exact hK _ _ hs hk
  ·rw[if_neg hi];have hb:Nat.beq i id=false:=by
    cases hb:Nat.beq i id with
    |true=>exact(hi (YNB hb)).elim
    |false=>rfl
   simp only[hb] at hk;exact hE _ _ _ hs hk
 |.loop lv a,ρ,σ,K,E,R,Q,hm,hK,hE,hR,h=>by
  simp only[DCode.ok,Bool.and_eq_true] at hm;have hlv:=Qaj hm.1;unfold dn at h;obtain⟨k,hk⟩:=ok.loop h;have key:∀(k:Nat) (vs:List AVal) (σ:List ABlk) (ρ1:Frame),FLe (zipF lv vs (dropF a.asg ρ)) ρ1 →
    hold (iterA A.stop k (λagain vs σ=>dn A a (zipF lv vs (dropF a.asg ρ)) σ (λρ' σ=>again (getF ρ' lv) σ) E R) vs σ)→Awp P GL n (.loop a.er) ρ1 σ Q:=by
   intro k
   induction k with
   |zero=>intro vs σ ρ1 _ hk; exact(ok.stop hk).elim
   |succ k ih=>
    intro vs σ ρ1 hle hk;have hz:Qc a.asg ρ (zipF lv vs (dropF a.asg ρ)):=Xau hlv;have hz2:∀ρ',Qc a.asg (zipF lv vs (dropF a.asg ρ)) ρ'→Qc a.asg ρ ρ':=λρ' q=>(hz.trans q).mono (λx hx=>by simpa using hx);refine Ybc hle (ZaK (Xr hP ok a hm.2 (Q:=APost.andThen (λρ σ=>Awp P GL n (.loop a.er) ρ σ Q) Q) (λρ' σ' hs hk=>?_) (λi ρ' σ' hs hk=>?_) (λρ' σ' hs hk=>?_) hk))
    ·exact ih _ _ ρ' (ZaC hlv (hz2 _ hs)) hk
    ·exact hE i ρ' σ' (hz2 _ hs) hk
    ·exact hR ρ' σ' (hz2 _ hs) hk
  exact key k _ σ ρ (ZaC hlv (Qc.refl _ _)) hk
theorem Xv(ok:AnsOk P GL A hold):∀ {rs:List RV} {ρ:Frame} {σ:List ABlk} {K:List AVal→α},hold (Zaa A rs ρ σ K)→∃vs,retL ρ σ rs=some vs∧hold (K vs)
 |[],_,_,_,h=>⟨[],rfl,h⟩
 |.t n::r,ρ,σ,K,h=>by
  obtain⟨vs,h1,h2⟩:=Xv ok (rs:=r) h;exact⟨fget ρ n::vs,by simp[retL,ret1,h1],h2⟩
 |.c s agg n::r,ρ,σ,K,h=>by
  unfold Zaa at h;obtain⟨v,hv,h⟩:=ok.opt h;obtain⟨vs,h1,h2⟩:=Xv ok (rs:=r) h;have hv':ret1 ρ σ (.c s agg n)=some v:=by
   unfold cellV at hv;unfold ret1;exact hv
  exact⟨v::vs,by simp[retL,hv',h1],h2⟩
theorem YaL(hP:P.follows .mixedOrders=true)(ok:AnsOk P GL A hold){D:DFn}(hD:D.body.ok=true){xs:List AVal}{σ:List ABlk}{ret:AVal→List ABlk→α}(h:hold (dnFn A D xs σ ret)) :
  Awp P GL D.n D.body.er (frame0 xs) σ (λe ρ σ'=>(e=.normal∨e=.ret)∧∃v,retV D.rets ρ σ'=some v∧hold (ret v σ')):=by
 refine Xr hP ok D.body hD (λρ' σ' _ hk=>?_) (λi ρ' σ' _ hk=>(ok.stop hk).elim) (λρ' σ' _ hk=>?_) h
 ·obtain⟨vs,h1,h2⟩:=Xv ok hk;exact⟨.inl rfl,_,by simp[retV,h1],h2⟩
 ·obtain⟨vs,h1,h2⟩:=Xv ok hk;exact⟨.inr rfl,_,by simp[retV,h1],h2⟩
end
end
end Go.Ah
end
section
namespace Go.Ah
abbrev GFun:=∀ {α:Type},Ans α→List AVal→List ABlk→(AVal→List ABlk→α)→α
structure GOk (P:Program) (GL:Globs) (f:FuncId) (np:Nat) (g:GFun):Prop where
 plain:Qf P f=true
 ex:∃D:DFn,D.np=np∧FnOk P GL f D.fn∧D.body.ok=true∧∀(α:Type) (A:Ans α) (xs:List AVal) (σ:List ABlk) (ret:AVal→List ABlk→α),xs.length=np→g A xs σ ret=dnFn A D xs σ ret
def annot:MCode→List (Option (List Nat))→DCode×List (Option (List Nat))
 |.skip,l=>(.skip,l)
 |.region id ms hd,l=>(.region id ms hd,l)
 |.seq a b,l=>match annot a l with
  |(a',l)=>match annot b l with
   |(b',l)=>(.seq a' b',l)
 |.cond c a b,l=>match annot a l.tail with
  |(a',l2)=>match annot b l2 with
   |(b',l3)=>match l with
    |some lv::_=>(.join lv (.cond c a' b'),l3)
    |_=>(.cond c a' b',l3)
 |.block id a,l=>match annot a l.tail with
  |(a',l2)=>match l with
   |some lv::_=>(.join lv (.block id a'),l2)
   |_=>(.block id a',l2)
 |.loop a,l=>match annot a l.tail with
  |(a',l2)=>match l with
   |some lv::_=>(.loop lv a',l2)
   |_=>(.loop [] a',l2)
 |.exit id,l=>(.exit id,l)
 |.scope a,l=>match annot a l with
  |(a',l)=>(.scope a',l)
 |.label n,l=>(.label n,l)
 |.ret,l=>(.ret,l)
theorem Yv:∀(m:MCode) (l:List (Option (List Nat))),(annot m l).1.er=m
 |.skip,_=>rfl
 |.region ..,_=>rfl
 |.seq a b,l=>by simp only[annot,DCode.er,Yv a,Yv b]
 |.cond c a b,l=>by
  simp only[annot];split<;>simp only[DCode.er,Yv a,Yv b]
 |.block id a,l=>by
  simp only[annot];split<;>simp only[DCode.er,Yv a]
 |.loop a,l=>by
  simp only[annot];split<;>simp only[DCode.er,Yv a]
 |.exit _,_=>rfl
 |.scope a,l=>by simp only[annot,DCode.er,Yv a]
 |.label _,_=>rfl
 |.ret,_=>rfl
def compD(P:Program)(GL:Globs)(np:Nat)(f:FuncId)(l:List (Option (List Nat))):Option DFn:=match YaV P GL np f with
 |some F=>bif (annot F.body l).1.ok&&(Qf P f&&Nat.beq F.np np) then some ⟨np,F.n,(annot F.body l).1,F.rets⟩ else none
 |none=>none
theorem Qbv{P:Program}{GL:Globs}{np:Nat}{f:FuncId}{l:List (Option (List Nat))}{g:GFun}{D:DFn}(hD:compD P GL np f l=some D)(h:∀(α:Type) (A:Ans α) (xs:List AVal) (σ:List ABlk) (ret:AVal→List ABlk→α),xs.length=np→g A xs σ ret=dnFn A D xs σ ret):GOk P GL f np g:=by
 unfold compD at hD;split at hD
 ·rename_i F hF;obtain⟨hb,hD⟩:=Xi hD;simp only[Bool.and_eq_true] at hb;cases hD;have hnp:=YNB hb.2.2;refine⟨hb.2.1,_,rfl,?_,hb.1,h⟩;have hfn:DFn.fn ⟨np,F.n,(annot F.body l).1,F.rets⟩=F:=by
   cases F;simp only at hnp;simp only[DFn.fn,Yv,hnp]
  rw[hfn];exact XaV hF
 ·cases hD
end Go.Ah
end
section
namespace Go.Ah
theorem Zbh{σ:List ABlk}{b:Nat}{x:ABlk}(h:σ[b]?=some x):hget σ b=x:=by
 induction σ generalizing b with
 |nil=>simp at h
 |cons y σ ih=>cases b with
  |zero=>simpa[hget] using h
  |succ b=>simp at h; simpa[hget] using ih h
theorem Qa4{σ:List ABlk}{b:Nat}(h:b<σ.length):σ[b]?=some (hget σ b):=by
 rw[List.getElem?_eq_getElem h,Zbh (List.getElem?_eq_getElem h)]
def Xab(fp:List Nat)(n:Nat):Nat→List ABlk→List ABlk
 |_,[]=>[]
 |i,x::l=>(bif inL i fp then x.mapV (AVal.ren (ltM n)) else .dead)::Xab fp n (i+1) l
def maskR(fp:List Nat)(σ:List ABlk):List ABlk:=Xab fp σ.length 0 σ
theorem Qab(fp:List Nat)(n:Nat):∀(l:List ABlk) (i j:Nat),(Xab fp n i l)[j]?=(l[j]?).map λx=>bif inL (i+j) fp then x.mapV (AVal.ren (ltM n)) else .dead
 |[],i,j=>by simp[Xab]
 |x::l,i,0=>by simp[Xab]
 |x::l,i,j+1=>by
  simp only[Xab,List.getElem?_cons_succ];rw[Qab fp n l (i+1) j,show i+1+j=i+(j+1) by omega]
theorem Z4(fp:List Nat)(σ:List ABlk)(j:Nat):(maskR fp σ)[j]?=(σ[j]?).map λx=>bif inL j fp then x.mapV (AVal.ren (ltM σ.length)) else .dead:=by
 rw[maskR,Qab,Nat.zero_add]
theorem ZaG(F:Nat→ABlk):∀(keys:List Nat) (h:Hp) (b:Nat),hups h (keys.map λb=>(b,F b)) b=if b∈keys then some (F b) else h b
 |[],h,b=>by simp[hups]
 |x::keys,h,b=>by
  simp only[List.map_cons,hups];rw[ZaG F keys];by_cases h1:b∈keys
  ·simp[h1]
  ·rw[if_neg h1];by_cases h2:b=x
   ·subst h2; simp[hup]
   ·simp[hup,h1,h2]
section
variable {P:Program} {GL:Globs}
theorem Xak{f:FuncId}{F:MFn}(ok:FnOk P GL f F){xs xs':List AVal}(hn:xs.length=F.np)(σ:List ABlk)(fp ids:List Nat)(hfp:∀b∈fp,b∈ids)(hids:∀b∈ids,b<σ.length){v:AVal}{k:Nat}{τ τ':List ABlk}
 (hxs:renL (ltM σ.length) xs=xs')(hτ:maskR fp σ=τ)(h:Awp P GL F.n F.body (frame0 xs') τ (λe ρ s=>(e=.normal∨e=.ret)∧retV F.rets ρ s=some v∧s=τ'))(hk:τ'.length=σ.length+k) :
  ACall P GL f xs (hp σ) (v.ren (keepM ids σ.length k)) ids ((fp++List.range' σ.length k).map λb=>(b,(hget τ' b).mapV (AVal.ren (keepM ids σ.length k)))):=by
 intro w0 L g hq w vs r hx hrd hup;subst hxs; subst hτ
 let dm:CB:=⟨0,0,0,true⟩
 let c':Own:=λb=>if b<σ.length then some ((g.c b).getD dm) else none
 let lb:List Nat:=fp.filterMap λb=>match g.c b,σ[b]? with
  |some cb,some x=>bif x.live && !cb.virt then some cb.blk else none
  |_,_=>none
 have hknown:∀b∈ids,∃cb,g.c b=some cb∧c' b=some cb∧hq b=σ[b]?:=by
  intro b hb;have hl:=hids b hb;have e1:hq b=σ[b]?:=hrd b hb;obtain⟨cb,hcb⟩:=r.dom b σ[b] (by rw[e1]; simp[hl]);exact⟨cb,hcb,by simp only[c']; rw[if_pos hl,hcb]; rfl,e1⟩
 have hlb:∀b∈fp,∀cb y,g.c b=some cb→σ[b]?=some y→y.live=true→cb.virt=false→cb.blk∈lb:=by
  intro b hb cb y hcb hy hl hv;simp only[lb,List.mem_filterMap];exact⟨b,hb,by rw[hcb,hy]; simp[hl,hv]⟩
 have hlt:∀b x,(maskR fp σ)[b]?=some x→b<σ.length:=by
  intro b x e;rw[Z4] at e;cases hs:σ[b]? with
  |none=>rw[hs] at e; cases e
  |some y=>exact(YLG hs).1
 have hlive:∀b x,(maskR fp σ)[b]?=some x→x.live=true→b∈fp∧∃y,σ[b]?=some y∧x=y.mapV (AVal.ren (ltM σ.length)):=by
  intro b x e hl;rw[Z4] at e;cases hs:σ[b]? with
  |none=>rw[hs] at e; cases e
  |some y=>
   rw[hs] at e;simp only[Option.map_some,Option.some.injEq] at e;cases hi:inL b fp with
   |false=>rw[hi] at e; subst e; cases hl
   |true=>rw[hi] at e; exact⟨Z3.1 hi,y,rfl,e.symm⟩
 have hren:∀x u,g.den x u→Den g.M c' (x.ren (ltM σ.length)) u:=by
  intro x u d;refine d.ren (λb b' cb k1 k2=>?_);unfold ltM at k1;obtain⟨k0,k1⟩:=Xi k1;cases k1;have hl:b<σ.length:=YNL k0;simp only[c'];rw[if_pos hl,k2]; rfl
 have r0:Rep GL w ⟨lb,g.M⟩ ⟨g.M,c'⟩ (hp (maskR fp σ)) w:={
  keeps:=Keeps.refl _ _,stable:=r.stable,src:=λb o e=>.inl e,globs:=r.globs
  empt:=λb e=>by
   have e':(maskR fp σ)[b]?=none:=e;rw[Z4] at e';show c' b=none;simp only[c'];rw[if_neg];intro hb;simp[hb] at e'
  dom:=λb blk e=>by
   have:=hlt b blk e;exact⟨_,by show c' b=_; simp only[c']; rw[if_pos this]⟩
  own:=λb blk cb e hl ec hv=>by
   obtain⟨hb,y,hy,rfl⟩:=hlive b blk e hl;obtain⟨cb0,q1,q2,q3⟩:=hknown b (hfp b hb);have ec':c' b=some cb:=ec;rw[q2] at ec'; cases ec';rw[ABlk.mapV_live] at hl;obtain⟨p1,p2,o,p3,p4⟩:=r.own b y _ (by rw[q3]; exact hy) hl q1 hv;exact⟨p1,.inl (hlb b hb _ y q1 hy hl hv),o,p3,p4.mapV (p:=λ_=>True) (λx u _ d=>hren x u d) (ABlk.all_true _)⟩
  hollow:=λb blk cb e hl ec hv=>by
   obtain⟨hb,y,hy,rfl⟩:=hlive b blk e hl;obtain⟨cb0,q1,q2,q3⟩:=hknown b (hfp b hb);have ec':c' b=some cb:=ec;rw[q2] at ec'; cases ec';rw[ABlk.mapV_live] at hl;have:=r.hollow b y _ (by rw[q3]; exact hy) hl q1 hv;subst this; rfl
  inj:=λb b' blk blk' cb cb' e1 e2 l1 l2 c1 c2 v1 v2 hblk=>by
   obtain⟨hb,y,hy,rfl⟩:=hlive b blk e1 l1;obtain⟨hb',y',hy',rfl⟩:=hlive b' blk' e2 l2;obtain⟨cb0,q1,q2,q3⟩:=hknown b (hfp b hb);obtain⟨cb0',q1',q2',q3'⟩:=hknown b' (hfp b' hb');have c1':c' b=some cb:=c1;have c2':c' b'=some cb':=c2;rw[q2] at c1'; cases c1';rw[q2'] at c2'; cases c2';rw[ABlk.mapV_live] at l1 l2;exact r.inj b b' y y' _ _ (by rw[q3]; exact hy) (by rw[q3']; exact hy') l1 l2 q1 q1' v1 v2 hblk }
 have hx':DenL ⟨g.M,c'⟩ (renL (ltM σ.length) xs) vs:=by
  refine DenL.of_get (by rw[Qi]; exact hx.length) (λi y u e1 e2=>?_);obtain⟨x,q1,rfl⟩:=XH e1;exact hren x u (hx.get i x u q1 e2)
 obtain⟨fn,c,h1,h2,h3,h4,h5⟩:=ok.ok;have d0:=Qx hx' (n:=F.n) (by rw[Qi,hn]; exact ok.np);refine calls_of_wp h1 h2 ?_;rw[h3];refine wp_mono (h c h4 w ⟨lb,g.M⟩ _ _ w r0 d0) (λe a' w' hl=>?_);have fin:∀ g' ρ σ',(⟨g.M,c'⟩:Gm).Le g'→Rep GL w ⟨lb,g.M⟩ g' (hp σ') w'→DenF F.n g' ρ a'→(retV F.rets ρ σ'=some v∧σ'=τ')→∃ u,(results fn a'.tmps).run P w'=.ok u w'∧(∃ u',Ending.returned u=.returned u'∧∃ g2,g.Le g2 ∧
   Rep GL w0 L g2 (hups hq ((fp ++ List.range' σ.length k).map λb=>(b,(hget τ' b).mapV (AVal.ren (keepM ids σ.length k))))) w'∧g2.den (v.ren (keepM ids σ.length k)) u'):=by
  rintro g' ρ σ' hle hr hd ⟨hret,rfl⟩;obtain⟨u,k1,k2⟩:=ZO hr hd h5 hret
  let keys:=fp++List.range' σ.length k
  have hkeys:∀b,b∈keys↔b∈fp∨(σ.length≤b∧b<σ.length+k):=by
   intro b; simp only[keys,List.mem_append,List.mem_range'_1]
  let cF:Own:=λb=>if b∈keys then g'.c b else g.c b
  have hkl:∀b∈keys,b<σ'.length:=by
   intro b hb;rcases (hkeys b).1 hb with q|q
   ·have:=hids b (hfp b q); omega
   ·omega
  have hgc:∀b cb,g.c b=some cb→cF b=some cb:=by
   intro b cb e;simp only[cF];split
   ·rename_i hb;rcases (hkeys b).1 hb with q|q
    ·obtain⟨cb0,q1,q2,q3⟩:=hknown b (hfp b q);rw[q1] at e; cases e;exact hle.c b _ q2
    ·have hn:hq b=none:=by
      have:=hup (b,_) (List.mem_map.2 ⟨b,hb,rfl⟩);rw[this]; simp[hp]; omega
     rw[r.empt b hn] at e; cases e
   ·exact e
  have hren2:∀x u,g'.den x u→Den g'.M cF (x.ren (keepM ids σ.length k)) u:=by
   intro x u d;refine d.ren (λb b' cb e1 e2=>?_);unfold keepM at e1;obtain⟨e0,e1⟩:=Xi e1;cases e1;by_cases hb:b∈keys
   ·simp only[cF]; rw[if_pos hb]; exact e2
   ·simp only[Bool.or_eq_true,Bool.and_eq_true] at e0;rcases e0 with q|⟨q1,q2⟩
    ·obtain⟨cb0,p1,p2,p3⟩:=hknown b (List.contains_iff_mem.1 q);have:=hle.c b cb0 p2;rw[e2] at this; cases this;exact hgc b _ p1
    ·have:=YNL q1;have:b<σ.length+k:=YNL q2;exact(hb ((hkeys b).2 (.inr (by omega)))).elim
  have hF:∀b,hups hq (keys.map λb=>(b,(hget σ' b).mapV (AVal.ren (keepM ids σ.length k)))) b=if b∈keys then some ((hget σ' b).mapV (AVal.ren (keepM ids σ.length k))) else hq b:=ZaG _ keys hq
  have hlbown:∀q∈lb,∃b∈fp,∃cb y,g.c b=some cb∧hq b=some y∧y.live=true∧cb.virt=false∧q=cb.blk:=by
   intro q hq';simp only[lb,List.mem_filterMap] at hq';obtain⟨b,hb,e⟩:=hq';obtain⟨cb0,q1,_,q3⟩:=hknown b (hfp b hb);rw[q1] at e;cases hs:σ[b]? with
   |none=>rw[hs] at e; cases e
   |some y=>
    rw[hs] at e;obtain⟨e1,e2⟩:=Xi e;simp only[Bool.and_eq_true,Bool.not_eq_true'] at e1;cases e2;exact⟨b,hb,cb0,y,q1,by rw[q3]; exact hs,e1.1,e1.2,rfl⟩
  have hlbM:∀q∈lb,g.M q=none∧(q∈L.l∨w0.heap.size≤q):=by
   intro q hq';obtain⟨b,hb,cb,y,q1,q2,q3,q4,rfl⟩:=hlbown q hq';obtain⟨p1,p2,_⟩:=r.own b y cb q2 q3 q1 q4;exact⟨p1,p2⟩
  have hout:∀b blk cb,b∉keys→hq b=some blk→blk.live=true→g.c b=some cb→cb.virt=false→cb.blk∉lb:=by
   intro b blk cb hb e hl ec hv hin;obtain⟨b2,hb2,cb2,y,q1,q2,q3,q4,q5⟩:=hlbown _ hin;have:=r.inj b b2 blk y cb cb2 e q2 hl q3 ec q1 hv q4 q5;subst this;exact hb ((hkeys b).2 (.inl hb2))
  have hsz:=r.keeps.size;have hcF1:∀b,b∈keys→cF b=g'.c b:=λb hb=>by simp only[cF]; rw[if_pos hb]
  have hcF2:∀b,b∉keys→cF b=g.c b:=λb hb=>by simp only[cF]; rw[if_neg hb]
  have hat:∀ b,b∈keys→hp σ' b=some (hget σ' b):=λb hb=>Qa4 (hkl b hb);refine⟨u,k1,u,rfl,⟨g'.M,cF⟩,⟨hle.m,λb cb e=>hgc b cb e⟩,?_,hren2 v u k2⟩;exact {
   keeps:=r.keeps.trans' hr.keeps.os hr.keeps.tape hr.keeps.output hr.keeps.size (λj hj hjl=>hr.keeps.block j (by omega) (λhin=>by
    rcases (hlbM j hin).2 with q|q
    ·exact hjl q
    ·omega))
   stable:=hr.stable
   src:=λb o e=>by
    rcases hr.src b o e with q|q|q
    ·exact r.src b o q
    ·exact .inr (.inl (by omega))
    ·rcases (hlbM b q).2 with q|q
     ·exact .inr (.inr q)
     ·exact .inr (.inl q)
   globs:=λp hp'=>(r.globs p hp').mono hle.m (CLe.refl _)
   empt:=λb e=>by
    rw[hF] at e;split at e
    ·cases e
    ·rename_i hb;show cF b=none;rw[hcF2 b hb]; exact r.empt b e
   dom:=λb blk e=>by
    rw[hF] at e;show ∃cb,cF b=some cb;split at e
    ·rename_i hb;rw[hcF1 b hb]; exact hr.dom b _ (hat b hb)
    ·rename_i hb;rw[hcF2 b hb]; exact r.dom b blk e
   own:=λb blk cb e hl ec hv=>by
    rw[hF] at e;have ec':cF b=some cb:=ec;split at e
    ·rename_i hb;cases e;rw[ABlk.mapV_live] at hl;rw[hcF1 b hb] at ec';obtain⟨p1,p2,o,p3,p4⟩:=hr.own b _ cb (hat b hb) hl ec' hv;refine⟨p1,?_,o,p3,p4.mapV (p:=λ_=>True) (λx u _ d=>hren2 x u d) (ABlk.all_true _)⟩;rcases p2 with q|q
     ·exact(hlbM _ q).2
     ·exact .inr (by omega)
    ·rename_i hb;rw[hcF2 b hb] at ec';obtain⟨p1,p2,o,p3,p4⟩:=r.own b blk cb e hl ec' hv;have hlt':=r.lt_of_own e hl ec' hv;have hnin:=hout b blk cb hb e hl ec' hv;refine⟨?_,p2,o,by rw[hr.keeps.block _ hlt' hnin]; exact p3,p4.mono hle.m (λb cb e=>hgc b cb e)⟩;show g'.M cb.blk=none;cases hm:g'.M cb.blk with
     |none=>rfl
     |some x=>
      rcases hr.src _ _ hm with q|q|q
      ·have q:g.M cb.blk=some x:=q;rw[p1] at q; cases q
      ·omega
      ·exact(hnin q).elim
   hollow:=λb blk cb e hl ec hv=>by
    rw[hF] at e;have ec':cF b=some cb:=ec;split at e
    ·rename_i hb;cases e;rw[ABlk.mapV_live] at hl;rw[hcF1 b hb] at ec';rw[hr.hollow b _ cb (hat b hb) hl ec' hv]; rfl
    ·rename_i hb;rw[hcF2 b hb] at ec';exact r.hollow b blk cb e hl ec' hv
   inj:=λb b' blk blk' cb cb' e1 e2 l1 l2 c1 c2 v1 v2 hblk=>by
    rw[hF] at e1 e2;have c1':cF b=some cb:=c1;have c2':cF b'=some cb':=c2;have cross:∀b b' blk' cb cb',b∈keys→b'∉keys→(hget σ' b).live=true→g'.c b=some cb→cb.virt=false→hq b'=some blk'→blk'.live=true→g.c b'=some cb'→cb'.virt=false→cb.blk=cb'.blk→False:=by
     intro b b' blk' cb cb' hb hb' hl hc hv e' hl' hc' hv' he;obtain⟨_,p2,_⟩:=hr.own b _ cb (hat b hb) hl hc hv;have hlt':=r.lt_of_own e' hl' hc' hv';have hnin:=hout b' blk' cb' hb' e' hl' hc' hv';rcases p2 with q|q
     ·rw[he] at q; exact hnin q
     ·omega
    split at e1
    ·rename_i hb;cases e1;rw[ABlk.mapV_live] at l1;rw[hcF1 b hb] at c1';split at e2
     ·rename_i hb';cases e2;rw[ABlk.mapV_live] at l2;rw[hcF1 b' hb'] at c2';exact hr.inj b b' _ _ cb cb' (hat b hb) (hat b' hb') l1 l2 c1' c2' v1 v2 hblk
     ·rename_i hb';rw[hcF2 b' hb'] at c2';exact(cross b b' blk' cb cb' hb hb' l1 c1' v1 e2 l2 c2' v2 hblk).elim
    ·rename_i hb;rw[hcF2 b hb] at c1';split at e2
     ·rename_i hb';cases e2;rw[ABlk.mapV_live] at l2;rw[hcF1 b' hb'] at c2';exact(cross b' b blk cb' cb hb' hb l2 c2' v2 e1 l1 c1' v1 hblk.symm).elim
     ·rename_i hb';rw[hcF2 b' hb'] at c2';exact r.inj b b' blk blk' cb cb' e1 e2 l1 l2 c1' c2' v1 v2 hblk }
 cases e with
 |normal=>obtain⟨g',ρ,σ,k1,k2,k3,k4⟩:=hl; exact⟨k3.defers,fin g' ρ σ k1 k2 k3 k4.2⟩
 |ret=>obtain⟨g',ρ,σ,k1,k2,k3,k4⟩:=hl; exact⟨k3.defers,fin g' ρ σ k1 k2 k3 k4.2⟩
 |exit id=>obtain⟨g',ρ,σ,k1,k2,k3,k4⟩:=hl; rcases k4.1 with q|q<;>cases q
 |_=>exact hl.elim
end
end Go.Ah
end
section
namespace Go.Ah
def W(P:Program)(GL:Globs):Ans Prop where
 stop:=False
 call k xs σ K:=∃R,OpRel P GL k xs σ R∧∀v σ',R v σ'→K v σ'
 dcall k xs σ K:=∃v rd up σ',OpSem P GL k xs (hp σ) v rd up∧upL σ up=some σ'∧K v (rd,up.map (·.1)) σ'
 test v a b:=match v with
  |.bool c=>(c=true→a)∧(c=false→b)
  |_=>False
 loop F vs σ:=∃n,iterA False n F vs σ
theorem Ybz(P:Program)(GL:Globs):AnsOk P GL (W P GL) (λp=>p) where
 stop:=λh=>h
 call:=λh=>h
 dcall:=λh=>h
 test:=λ{v a b} h=>by
  simp only[W] at h;split at h
  ·exact⟨_,rfl,h⟩
  ·exact h.elim
 loop:=λh=>h
section
variable {P:Program} {GL:Globs}
theorem GOk.awp(hP:P.follows .mixedOrders=true){α:Type}{A:Ans α}{hold:α→Prop}(ok:AnsOk P GL A hold){f:FuncId}{np:Nat}{g:GFun}(hg:GOk P GL f np g){xs:List AVal}(hn:xs.length=np){σ:List ABlk}{ret:AVal→List ABlk→α}(h:hold (g A xs σ ret)) :
  ∃F,FnOk P GL f F∧F.np=np∧Awp P GL F.n F.body (frame0 xs) σ (λe ρ σ'=>(e=.normal∨e=.ret)∧∃v,retV F.rets ρ σ'=some v∧hold (ret v σ')):=by
 obtain⟨D,h1,h2,h3,h4⟩:=hg.ex;rw[h4 α A xs σ ret hn] at h;exact⟨D.fn,h2,h1,YaL hP ok h3 h⟩
theorem Xad(hP:P.follows .mixedOrders=true){f:FuncId}{np:Nat}{g:GFun}(hg:GOk P GL f np g){xs:List AVal}(hn:xs.length=np){v:AVal}(hv:v.ro=true)(h:g (W P GL) xs [] (λv' _=>v'=v)):PCall P GL f xs v:=by
 obtain⟨F,h1,h2,h3⟩:=hg.awp hP (Ybz P GL) hn h;refine XU h1 (hn.trans h2.symm) hv (h3.mono λe ρ σ k=>?_);obtain⟨k1,v',k2,rfl⟩:=k;exact⟨k1,k2⟩
def frz(σ:List ABlk)(v:AVal):Option AVal:=match v with
 |.tup vs=>match Ql σ 1000 vs with
  |some (ys,_)=>some (.tup ys)
  |none=>none
 |v=>match Ql σ 1000 [v] with
  |some ([y],_)=>some y
  |_=>none
theorem Qbp{σ:List ABlk}{v y:AVal}(hy:frz σ v=some y){w0:World}{L:Ln}{g:Gm}{w:World}{M2:Nat→Option Obj}(r:Rep GL w0 L g (hp σ) w)(cov:Cov g (hp σ) w M2){u:Value}(hd:g.den v u):Den M2 noOwn y u:=by
 unfold frz at hy;split at hy
 ·rename_i vs;split at hy
  ·rename_i ys rd hb;cases hy;have hbor:=XF _ _ _ _ hb rd (λ_ q=>q);cases hd with
   |tup _ _ us hs hd=>
    have hd2:=hbor GL w0 L g (hp σ) w M2 r cov (λ_ _=>rfl) us.toList (DenL.of_get (by simp[hs]) (λi x v e1 e2=>hd i x v e1 (by simpa using e2)));exact .tup _ _ _ (by have:=hd2.length; simpa using this.symm) (λi x v e1 e2=>hd2.get i x v e1 (by simpa using e2))
  ·cases hy
 ·split at hy
  ·rename_i y' rd hb;cases hy;have hbor:=XF _ _ _ _ hb rd (λ_ q=>q);exact(hbor GL w0 L g (hp σ) w M2 r cov (λ_ _=>rfl) [u] ⟨hd,trivial⟩).1
  ·cases hy
theorem ZJ{f:FuncId}{xs:List AVal}{v y:AVal}{bs:List ABlk}(h:NCall P GL f xs v bs)(hy:frz bs v=some y):PCall P GL f xs y:=by
 intro w M vs hM hg hx;refine(h w M vs hM hg hx).mono ?_;rintro e w' ⟨u,he,g',hle,r,hd⟩
 let M2:Nat→Option Obj:=λb=>if b<w.heap.size then g'.M b else w'.heap[b]?
 have cov:Cov g' (hp bs) w' M2:=by
  refine⟨λb o e=>?_,λb blk cb o e1 e2 e3 e4 e5=>?_⟩
  ·show (if b<w.heap.size then g'.M b else w'.heap[b]?)=some o;split
   ·exact e
   ·exact r.stable b o e
  ·obtain⟨_,hin,_⟩:=r.own b blk cb e1 e2 e3 e4;show (if cb.blk<w.heap.size then g'.M cb.blk else w'.heap[cb.blk]?)=some o;rcases hin with hin|hin
   ·simp at hin
   ·rw[if_neg (by omega)]; exact e5
 have hd2:=Qbp hy r cov hd;refine⟨u,he,r.keeps,M2,λb o e=>cov.1 b o (hle b o e),λb o e=>?_,λb o e=>?_,hd2⟩
 ·have e':(if b<w.heap.size then g'.M b else w'.heap[b]?)=some o:=e;split at e'
  ·exact r.stable b o e'
  ·exact e'
 ·have e':(if b<w.heap.size then g'.M b else w'.heap[b]?)=some o:=e;split at e'
  ·rcases r.src b o e' with q|q|q
   ·exact .inl q
   ·exact .inr q
   ·simp at q
  ·exact .inr (by omega)
theorem YU{k:MK}{xs:List AVal}{σ σ':List ABlk}{v:AVal}{rd:List Nat}{up:List (Nat×ABlk)}(h:OpSem P GL k xs (hp σ) v rd up)(hu:upL σ up=some σ'):OpRel P GL k xs σ (λv' s=>v'=v∧s=σ'):=by
 intro o os hc w0 L g w a r hx;have:=h o os hc w0 L g (hp σ) w a r hx (λ_ _=>rfl) (λ_ _=>rfl);rw[XP _ _ _ hu] at this;generalize (execOp a.eval o).run P w=res at this;cases res with
 |ok nx w'=>
  cases nx with
  |value u=>obtain⟨g',k1,k2,k3⟩:=this; exact⟨g',v,σ',⟨rfl,rfl⟩,k1,k2,k3⟩
  |skip=>obtain⟨g',k1,k2,k3⟩:=this; exact⟨g',σ',⟨k3.symm,rfl⟩,k1,k2⟩
  |enter f args=>
   refine Calls.mono this ?_;rintro e w'' ⟨u,he,g',k1,k2,k3⟩;exact⟨u,he,g',v,σ',⟨rfl,rfl⟩,k1,k2,k3⟩
  |_=>exact this.elim
 |_=>exact this.elim
theorem Zl{k:MK}{xs ys:List AVal}{f:FuncId}(hc:Xk k xs=some (f,ys))(hp':Qf P f=true){σ:List ABlk}{v:AVal}{rd:List Nat}{up:List (Nat×ABlk)}(h:ACall P GL f ys (hp σ) v rd up):OpSem P GL k xs (hp σ) v rd up:=by
 unfold Xk at hc;split at hc
 ·cases hc; exact Ybj h
 ·cases hc; exact Xa8 hp' h
 ·split at hc
  ·rename_i hl; cases hc; exact YaO hl h
  ·cases hc
 ·cases hc
theorem YaC{k:MK}{xs ys:List AVal}{f:FuncId}(hc:Xk k xs=some (f,ys))(hp':Qf P f=true){σ σ':List ABlk}{v:AVal}{rd:List Nat}{up:List (Nat×ABlk)}(h:ACall P GL f ys (hp σ) v rd up)(hu:upL σ up=some σ'){K:AVal→List ABlk→Prop}(hK:K v σ'):(W P GL).call k xs σ K:=
 ⟨_,YU (Zl hc hp' h) hu,by rintro _ _ ⟨rfl,rfl⟩; exact hK⟩
theorem YaR{k:MK}{xs ys:List AVal}{f:FuncId}(hc:Xk k xs=some (f,ys))(hp':Qf P f=true){σ σ':List ABlk}{v:AVal}{rd:List Nat}{up:List (Nat×ABlk)}(h:ACall P GL f ys (hp σ) v rd up)(hu:upL σ up=some σ'){K:AVal→List Nat×List Nat→List ABlk→Prop}(hK:K v (rd,up.map (·.1)) σ'):(W P GL).dcall k xs σ K:=
 ⟨v,rd,up,σ',Zl hc hp' h,hu,hK⟩
theorem Zak(hP:P.follows .mixedOrders=true){k:MK}{xs ys:List AVal}{f:FuncId}(hc:Xk k xs=some (f,ys)){np:Nat}{g:GFun}(hg:GOk P GL f np g)(hn:ys.length=np){σ:List ABlk}{K:AVal→List ABlk→Prop}(h:g (W P GL) ys σ K):(W P GL).call k xs σ K:=by
 obtain⟨F,h1,h2,h3⟩:=hg.awp hP (Ybz P GL) hn h;exact⟨K,Yad hc hg.plain h1 (hn.trans h2.symm) h3,λ_ _ q=>q⟩
theorem XX{k:MK}{xs ys:List AVal}{f:FuncId}{v:AVal}(h:PCall P GL f ys v)(hc:Xk k xs=some (f,ys))(hp':Qf P f=true)(hro:roL ys=true){σ:List ABlk}{K:AVal→List ABlk→Prop}(hK:K v σ):(W P GL).call k xs σ K:=
 YaC hc hp' (h.here hro (hp σ)) (YB σ) hK
theorem XaR{k:MK}{xs ys:List AVal}{f:FuncId}{v:AVal}(h:PCall P GL f ys v)(hc:Xk k xs=some (f,ys))(hp':Qf P f=true)(hro:roL ys=true){σ:List ABlk}{K:AVal→List Nat×List Nat→List ABlk→Prop}(hK:K v ([],[]) σ):(W P GL).dcall k xs σ K:=
 YaR hc hp' (h.here hro (hp σ)) (YB σ) hK
theorem QaR{ι:Type}(I:ι→List AVal→List ABlk→Prop)(μ:ι→Nat){F:(List AVal→List ABlk→Prop)→List AVal→List ABlk→Prop}(i0:ι){vs:List AVal}{σ:List ABlk}(h0:I i0 vs σ)
 (round:∀i vs σ again,I i vs σ→(∀j vs' σ',μ j<μ i→I j vs' σ'→again vs' σ')→F again vs σ):(W P GL).loop F vs σ:=by
 have key:∀(m:Nat) (i:ι) (vs:List AVal) (σ:List ABlk),μ i<m→I i vs σ→iterA False m F vs σ:=by
  intro m
  induction m with
  |zero=>intro i vs σ h; omega
  |succ m ih=>
   intro i vs σ h hI;exact round i vs σ _ hI (λj vs' σ' hlt hj=>ih j vs' σ' (by omega) hj)
 exact⟨_,key (μ i0+1) i0 vs σ (by omega) h0⟩
end
section
variable {P:Program} {GL:Globs}
theorem Xbs(c:Bool)(a b:Prop):(W P GL).test (.bool c) a b=((c=true→a)∧(c=false→b)):=rfl
end
section
variable {α:Type} (A:Ans α)
theorem rd_ok(v:AVal)(rd:List Nat)(K:AVal→α):A.rd (.ok v rd []) K=K v:=rfl
theorem pu_ok(v:AVal)(K:AVal→α):A.pu (.ok v [] []) K=K v:=rfl
theorem Zbz(v:AVal)(rd:List Nat)(up:List (Nat×ABlk))(σ:List ABlk)(K:AVal→List ABlk→α):A.wr (.ok v rd up) σ K=A.opt (upL σ up) (K v):=by
 show (match upL σ up with|some σ'=>K v σ'|none=>A.stop)=_;unfold Ans.opt; cases upL σ up<;>rfl
theorem Qbt(v:AVal)(rd:List Nat)(up:List (Nat×ABlk))(σ:List ABlk)(K:AVal→List Nat×List Nat→List ABlk→α):A.dr (.ok v rd up) σ K=A.opt (upL σ up) (K v (rd,up.map (·.1))):=by
 show (match upL σ up with|some σ'=>K v _ σ'|none=>A.stop)=_;unfold Ans.opt; cases upL σ up<;>rfl
theorem Zbi{β:Type}(v:β)(K:β→α):A.opt (some v) K=K v:=rfl
theorem Zbq(k:α):A.gd true k=k:=rfl
end
theorem Qs{n:Nat}:∀ {a b:List Nat},Xh n (a++b)=true→Xh n a=true∧Xh n b=true
 |[],_,h=>⟨rfl,h⟩
 |x::a,b,h=>by
  simp only[List.cons_append,Xh,Bool.and_eq_true] at h;obtain⟨h1,h2⟩:=Qs h.2;exact⟨by simp[Xh,h.1,h1],h2⟩
def tstC{α:Type}(stop:α)(v:AVal)(a b:α):α:=match v with
 |.bool true=>a
 |.bool false=>b
 |_=>stop
abbrev CG:=FuncId→List AVal→List ABlk→Option (AVal×List ABlk)
def XaD(cg:CG)(f:FuncId)(ys:List AVal)(σ:List ABlk):Option (AVal × List ABlk):=bif Xh σ.length (idsL ys) then (match cg f (renL (ltM σ.length) ys) (Xm σ) with
 | some (v,σ')=>(match Zv σ.length σ' with
  |some news=>some (v,news)
  | none=>none)
 | none=>none) else none
def Qbs:ABlk→List Nat
 |.box row=>idsL row
 |.rows _ rs=>rs.flatMap idsL
 |_=>[]
def Q4(σ:List ABlk):Nat→List Nat→List Nat→List Nat
 |0,_,seen=>seen
 |_+1,[],seen=>seen
 |n+1,b::r,seen=>bif inL b seen then Q4 σ n r seen else Q4 σ n (Qbs (hget σ b)++r) (b::seen)
def Qal(cg:CG)(f:FuncId)(ys:List AVal)(σ:List ABlk)(ids:List Nat):SRes:=bif Xh σ.length (idsL ys) && Xh σ.length ids then (match cg f (renL (ltM σ.length) ys) (maskR ids σ) with
 |some (v,τ)=>bif Nat.ble σ.length τ.length then .ok (v.ren (keepM ids σ.length (τ.length-σ.length))) ids ((ids++List.range' σ.length (τ.length-σ.length)).map λb=>(b,(hget τ b).mapV (AVal.ren (keepM ids σ.length (τ.length-σ.length))))) else .stop
 | none=>.stop) else .stop
def QaX(cg:CG)(k:MK)(xs:List AVal)(σ:List ABlk):SRes:=match Xk k xs with
 |none=>.stop
 | some (f,ys)=>bif roL ys then (match cg f ys [] with
   |some (v,bs)=>bif v.ro then .ok v [] [] else .ok (v.ren (Xw σ.length)) [] (Zk σ.length (Qu σ.length bs))
   | none=>.stop)
  else match XaD cg f ys σ with
  |some (v,news)=>bif v.ro then .ok (v.ren (keepM (idsL ys) σ.length 0)) (idsL ys) [] else .ok (v.ren (keepM (idsL ys) σ.length news.length)) (idsL ys) (Zk σ.length (news.map (ABlk.mapV (AVal.ren (keepM (idsL ys) σ.length news.length)))))
  |none=>match Ql σ 1000 ys with
   | some (zs,rd)=>(match cg f zs [] with
    |some (v,bs)=>bif v.flat&&v.ro then .ok v rd [] else bif v.nosh&&Yaq bs then .ok (v.ren (Xw σ.length)) rd (Zk σ.length (Qu σ.length bs)) else Qal cg f ys σ (Q4 σ 1000 (idsL ys) [])
    | none=>Qal cg f ys σ (Q4 σ 1000 (idsL ys) []))
   |none=>Qal cg f ys σ (Q4 σ 1000 (idsL ys) [])
def Cl(much:Nat)(cg:CG):Ans (Option (AVal×List ABlk)) where
 stop:=none
 call k xs σ K:=match Xk k xs with
  |some (f,ys)=>match cg f ys σ with
   |some (v,σ')=>K v σ'
   |none=>none
  |none=>none
 dcall k xs σ K:=match QaX cg k xs σ with
  |.ok v rd up=>match upL σ up with
   |some σ'=>K v (rd,up.map (·.1)) σ'
   |none=>none
  |.stop=>none
 test:=tstC none
 loop F vs σ:=iterA none much F vs σ
section
variable {P:Program} {GL:Globs}
def CGOk(P:Program)(GL:Globs)(cg:CG):Prop:=∀f xs σ v σ',cg f xs σ=some (v,σ')→Qf P f=true∧(∀k ys,Xk k ys=some (f,xs)→OpRel P GL k ys σ (λv' s=>v'=v∧s=σ')) ∧
 (σ=[]→NCall P GL f xs v σ'∧(v.ro=true→PCall P GL f xs v)) ∧
 (roL xs=false→∃F,FnOk P GL f F∧F.np=xs.length∧Awp P GL F.n F.body (frame0 xs) σ (λe ρ s=>(e=.normal∨e=.ret)∧∃v',retV F.rets ρ s=some v'∧v'=v∧s=σ'))
theorem CGOk.ncall{cg:CG}(h:CGOk P GL cg){f:FuncId}{xs:List AVal}{v:AVal}{bs:List ABlk}(hc:cg f xs []=some (v,bs)):NCall P GL f xs v bs:=((h f xs [] v bs hc).2.2.1 rfl).1
theorem CGOk.pcall{cg:CG}(h:CGOk P GL cg){f:FuncId}{xs:List AVal}{v:AVal}{bs:List ABlk}(hc:cg f xs []=some (v,bs))(hv:v.ro=true):PCall P GL f xs v:=((h f xs [] v bs hc).2.2.1 rfl).2 hv
theorem Q1{f:FuncId}{xs:List AVal}{σ σ':List ABlk}{v:AVal}{F:MFn}(hp':Qf P f=true)(h1:FnOk P GL f F)(h2:F.np=xs.length)(h3:Awp P GL F.n F.body (frame0 xs) σ (λe ρ s=>(e=.normal∨e=.ret)∧∃v',retV F.rets ρ s=some v'∧v'=v∧s=σ')) :
  Qf P f=true∧(∀k ys,Xk k ys=some (f,xs)→OpRel P GL k ys σ (λv' s=>v'=v∧s=σ'))∧(σ=[]→NCall P GL f xs v σ'∧(v.ro=true→PCall P GL f xs v)) ∧
  (roL xs=false→∃F,FnOk P GL f F∧F.np=xs.length∧Awp P GL F.n F.body (frame0 xs) σ (λe ρ s=>(e=.normal∨e=.ret)∧∃v',retV F.rets ρ s=some v'∧v'=v∧s=σ')):=by
 refine⟨hp',λk ys hc=>Yad hc hp' h1 h2.symm h3,λhσ=>?_,λ_=>⟨F,h1,h2,h3⟩⟩;subst hσ;refine⟨Qap h1 h2.symm (h3.mono λe ρ s k=>?_),λhv=>XU h1 h2.symm hv (h3.mono λe ρ s k=>?_)⟩
 ·obtain⟨k1,v',k2,rfl,rfl⟩:=k;exact⟨k1,k2,rfl⟩
 ·obtain⟨k1,v',k2,rfl,rfl⟩:=k;exact⟨k1,k2⟩
mutual
theorem AVal.ro_ren_ltM {n:Nat}:∀ {x:AVal},Xh n x.ids=true→(x.ren (ltM n)).ro=true→x.ro=true
 |.bptr b j,h,k=>by
  simp only[AVal.ids,Xh,Bool.and_true] at h
  simp[AVal.ren,ltM,h,AVal.ro] at k
 |.ptr b i j,h,k=>by
  simp only[AVal.ids,Xh,Bool.and_true] at h
  simp[AVal.ren,ltM,h,AVal.ro] at k
 |.sl b o l e,h,k=>by
  simp only[AVal.ids,Xh,Bool.and_true] at h
  simp[AVal.ren,ltM,h,AVal.ro] at k
 |.map b,h,k=>by
  simp only[AVal.ids,Xh,Bool.and_true] at h
  simp[AVal.ren,ltM,h,AVal.ro] at k
 |.iter b,h,k=>by
  simp only[AVal.ids,Xh,Bool.and_true] at h
  simp[AVal.ren,ltM,h,AVal.ro] at k
 |.func fn xs ys,h,k=>by
  simp only[AVal.ids] at h
  obtain⟨a,b⟩:=Qs h
  simp only[AVal.ren,AVal.ro,Bool.and_eq_true] at k ⊢
  exact⟨Zp a k.1,Zp b k.2⟩
 |.iface t v,h,k=>AVal.ro_ren_ltM (x:=v) h k
 |.agg cs,h,k=>Zp (xs:=cs) h k
 |.tup cs,h,k=>Zp (xs:=cs) h k
 |.when cs x,h,k=>AVal.ro_ren_ltM (x:=x) h k
 |.junk,_,_=>rfl
 |.bool _,_,_=>rfl
 |.int _ _,_,_=>rfl
 |.str _,_,_=>rfl
 |.nilp,_,_=>rfl
 |.rptr _ _,_,_=>rfl
 |.nils,_,_=>rfl
 |.cap0,_,_=>rfl
 |.rsl _ _ _ _,_,_=>rfl
 |.rmap _,_,_=>rfl
 |.nilmap,_,_=>rfl
 |.nilf,_,_=>rfl
 |.nili,_,_=>rfl
theorem Zp {n:Nat}:∀ {xs:List AVal},Xh n (idsL xs)=true→roL (renL (ltM n) xs)=true→roL xs=true
 |[],_,_=>rfl
 |x::xs,h,k=>by
  simp only[idsL] at h
  obtain⟨a,b⟩:=Qs h
  simp only[renL,roL,Bool.and_eq_true] at k ⊢
  exact⟨AVal.ro_ren_ltM a k.1,Zp b k.2⟩
end
theorem YO{n:Nat}{xs:List AVal}(h:Xh n (idsL xs)=true)(k:roL xs=false):roL (renL (ltM n) xs)=false:=by
 cases e:roL (renL (ltM n) xs) with
 |false=>rfl
 |true=>rw[Zp h e] at k; cases k
theorem Z2{cg:CG}(h:CGOk P GL cg){k:MK}{f:FuncId}{xs ys:List AVal}{σ:List ABlk}{ids:List Nat}(hc:Xk k xs=some (f,ys))(hnro:roL ys=false){v:AVal}{rd:List Nat}{up:List (Nat×ABlk)}(e:Qal cg f ys σ ids=.ok v rd up):OpSem P GL k xs (hp σ) v rd up:=by
 unfold Qal at e
 replace e:=Yd e
 obtain⟨hb,e⟩:=e;simp only[Bool.and_eq_true] at hb;split at e
 ·rename_i v' τ hc2
  replace e:=Yd e
  obtain⟨hle,e⟩:=e;obtain⟨hpl,_,_,hF⟩:=h f _ _ _ _ hc2;obtain⟨F,f1,f2,f3⟩:=hF (YO hb.1 hnro);cases e;have hn:ys.length=F.np:=by rw[f2,Qi]
  have:=YNL hle;exact Zl hc hpl (Xak f1 hn σ ids ids (λ_ q=>q) (Zz hb.2) rfl rfl (f3.mono λe ρ s k=>by
   obtain⟨k1,v'',k2,rfl,rfl⟩:=k;exact⟨k1,k2,rfl⟩) (by omega))
 ·cases e
theorem ZaY{cg:CG}(h:CGOk P GL cg){k:MK}{xs:List AVal}{σ:List ABlk}{v:AVal}{rd:List Nat}{up:List (Nat×ABlk)}(e:QaX cg k xs σ=.ok v rd up):OpSem P GL k xs (hp σ) v rd up:=by
 unfold QaX at e;split at e
 ·cases e
 ·rename_i f ys hc;have hnew:∀(bs:List ABlk) (i:Nat),i<bs.length→hp σ (σ.length+i)=none:=λbs i _=>by simp[hp]
  replace e:=Yr e
  rcases e with ⟨hro,e⟩|⟨hnro,e⟩
  ·split at e
   ·rename_i v' bs hv
    replace e:=Yr e
    rcases e with ⟨hvr,e⟩|⟨_,e⟩
    ·cases e; exact Zl hc (h f ys [] _ _ hv).1 ((h.pcall hv hvr).here hro _)
    ·cases e; exact Zl hc (h f ys [] _ _ hv).1 ((h.ncall hv).here hro (hnew bs))
   ·cases e
  ·split at e
   ·rename_i v' news hd;unfold XaD at hd;obtain⟨hbel,hd⟩:=Xi hd;split at hd
    ·rename_i v2 σ' hc2;split at hd
     ·rename_i news2 hs2;cases hd;obtain⟨hpl,_,_,hF⟩:=h f _ _ _ _ hc2;obtain⟨F,f1,f2,f3⟩:=hF (YO hbel hnro);have:=QV _ _ _ hs2;subst this;have hw:Awp P GL F.n F.body (frame0 (renL (ltM σ.length) ys)) (Xm σ) (λe ρ s=>(e=.normal∨e=.ret)∧retV F.rets ρ s=some v'∧s=Xm σ++news):=f3.mono λe ρ s k=>by
       obtain⟨k1,v'',k2,rfl,rfl⟩:=k;exact⟨k1,k2,rfl⟩
      have hn:ys.length=F.np:=by rw[f2,Qi]
      replace e:=Yr e
      rcases e with ⟨_,e⟩|⟨_,e⟩
      ·cases e;exact Zl hc hpl (YM f1 hn σ (idsL ys) (Zz hbel) (bs:=[]) (.inr rfl) hw)
      ·cases e;exact Zl hc hpl (YM f1 hn σ (idsL ys) (Zz hbel) (bs:=news) (.inl rfl) hw)
     ·cases hd
    ·cases hd
   split at e
   ·rename_i zs rd' hb;split at e
    ·rename_i v' bs hv
     replace e:=Yr e
     rcases e with ⟨hvr,e⟩|⟨_,e⟩
     ·simp only[Bool.and_eq_true] at hvr;cases e;exact Zl hc (h f zs [] _ _ hv).1 ((h.pcall hv hvr.2).lend (XF _ _ _ _ hb _ (λ_ q=>q)) hvr.1)
     ·replace e:=Yr e
      rcases e with ⟨hns,e⟩|⟨_,e⟩
      ·simp only[Bool.and_eq_true] at hns;cases e;exact Zl hc (h f zs [] _ _ hv).1 ((h.ncall hv).lend (XF _ _ _ _ hb _ (λ_ q=>q)) hns.1 hns.2 (hnew bs))
      ·exact Z2 h hc hnro e
    ·exact Z2 h hc hnro e
   ·exact Z2 h hc hnro e
theorem Ybs{cg:CG}(h:CGOk P GL cg)(much:Nat)(r:AVal×List ABlk):AnsOk P GL (Cl much cg) (λo=>o=some r) where
 stop:=λe=>by cases e
 call:=λ{k xs σ K} e=>by
  simp only[Cl] at e;split at e
  ·rename_i f ys hc;split at e
   ·rename_i v σ' hv;obtain⟨_,h1,_⟩:=h f ys σ v σ' hv;refine⟨λv' s=>v'=v∧s=σ',h1 k xs hc,?_⟩;rintro _ _ ⟨rfl,rfl⟩;exact e
   ·cases e
  ·cases e
 dcall:=λ{k xs σ K} e=>by
  simp only[Cl] at e;split at e
  ·rename_i v rd up hv;split at e
   ·rename_i σ' hu;exact⟨v,rd,up,σ',ZaY h hv,hu,e⟩
   ·cases e
  ·cases e
 test:=λ{v a b} e=>by
  simp only[Cl,tstC] at e;split at e
  ·exact⟨true,rfl,λ_=>e,(λq=>by cases q)⟩
  ·exact⟨false,rfl,(λq=>by cases q),λ_=>e⟩
  ·cases e
 loop:=λ{F vs σ} e=>⟨much,e⟩
def cgOf(much:Nat)(G:Nat→Option (Nat×GFun)):Nat→CG
 |0,_,_,_=>none
 |d+1,f,xs,σ=>match G f with
  |some (np,g)=>bif Nat.beq xs.length np then g (Cl much (cgOf much G d)) xs σ (λv σ=>some (v,σ)) else none
  |none=>none
theorem QaU(hP:P.follows .mixedOrders=true){much:Nat}{G:Nat→Option (Nat×GFun)}(hG:∀f np g,G f=some (np,g)→GOk P GL f np g):∀d,CGOk P GL (cgOf much G d)
 |0=>λf xs σ v σ' h=>by cases h
 |d+1=>λf xs σ v σ' h=>by
  unfold cgOf at h;split at h
  ·rename_i np g hg;obtain⟨hn,h⟩:=Xi h;have hn':=YNB hn;obtain⟨F,h1,h2,h3⟩:=(hG f np g hg).awp hP (Ybs (QaU hP hG d) much (v,σ')) hn' h;refine Q1 (hG f np g hg).plain h1 (h2.trans hn'.symm) (h3.mono λe ρ s k=>?_);obtain⟨k1,v',k2,k3⟩:=k;simp only[Option.some.injEq,Prod.mk.injEq] at k3;exact⟨k1,v',k2,k3.1,k3.2⟩
  ·cases h
end
theorem Xaf{P:Program}{GL:Globs}(hP:P.follows .mixedOrders=true){much:Nat}{G:Nat→Option (Nat×GFun)}(hG:∀f np g,G f=some (np,g)→GOk P GL f np g)(d:Nat){f:FuncId}{xs:List AVal}{y:AVal}(h:((cgOf much G d f xs []).bind λp=>frz p.2 p.1)=some y):PCall P GL f xs y:=by
 cases hc:cgOf much G d f xs [] with
 |none=>rw[hc] at h; cases h
 |some p=>
  obtain⟨v,bs⟩:=p;rw[hc] at h;exact ZJ ((QaU hP hG d).ncall hc) h
mutual
def eqA:AVal→AVal→Bool
 |.junk,.junk=>true
 |.bool a,.bool b=>a==b
 |.int k a,.int k' b=>ikEq k k'&&a==b
 |.str a,.str b=>a==b
 |.nilp,.nilp=>true
 |.nils,.nils=>true
 |.cap0,.cap0=>true
 |.rsl e n s r,.rsl e' n' s' r'=>(e==e'&&n==n')&&(Nat.beq s s'&&eqR r r')
 |.agg a,.agg b=>eqL a b
 |.nilmap,.nilmap=>true
 |.nilf,.nilf=>true
 |.nili,.nili=>true
 |_,_=>false
def eqL:List AVal→List AVal→Bool
 |[],[]=>true
 |x::xs,y::ys=>eqA x y&&eqL xs ys
 |_,_=>false
def eqR:List (List AVal)→List (List AVal)→Bool
 |[],[]=>true
 |x::xs,y::ys=>eqL x y&&eqR xs ys
 |_,_=>false
end
mutual
theorem Xbv:∀ {x y:AVal},eqA x y=true→x=y:=by
 intro x y h
 cases x<;>cases y<;>simp only[eqA,Bool.false_eq_true,Bool.and_eq_true] at h<;>first
  |rfl
  |(rw[eq_of_beq h])
  |(rw[eq_of_beq h.2,ZA h.1])
  |(rw[eq_of_beq h.1.1,eq_of_beq h.1.2,YNB h.2.1,Qbl h.2.2])
  |(rw[ZaF h])
theorem ZaF:∀ {x y:List AVal},eqL x y=true→x=y:=by
 intro x y h
 cases x<;>cases y<;>simp only[eqL,Bool.false_eq_true,Bool.and_eq_true] at h<;>first
  |rfl
  |(rw[Xbv h.1,ZaF h.2])
theorem Qbl:∀ {x y:List (List AVal)},eqR x y=true→x=y:=by
 intro x y h
 cases x<;>cases y<;>simp only[eqR,Bool.false_eq_true,Bool.and_eq_true] at h<;>first
  |rfl
  |(rw[ZaF h.1,Qbl h.2])
end
abbrev Known:=List (FuncId×List AVal×AVal)
def XaG(f:FuncId)(xs:List AVal):Known→Option AVal
 |[]=>none
 |(g,ys,v)::r=>match Nat.beq f g&&eqL xs ys with
  |true=>some v
  |false=>XaG f xs r
def KnOk(P:Program)(GL:Globs):Known→Prop
 |[]=>True
 |(f,xs,v)::r=>((Qf P f=true∧roL xs=true∧v.ro=true)∧PCall P GL f xs v)∧KnOk P GL r
section
variable {P:Program} {GL:Globs}
theorem Yao{f:FuncId}{xs:List AVal}{v:AVal}:∀ {kn:Known},KnOk P GL kn→XaG f xs kn=some v→Qf P f=true∧roL xs=true∧v.ro=true∧PCall P GL f xs v
 |[],_,h=>by cases h
 |(g,ys,u)::r,ok,h=>by
  unfold XaG at h;split at h
  ·rename_i hb;simp only[Bool.and_eq_true] at hb;have h1:=YNB hb.1;have h2:=ZaF hb.2;subst h1; subst h2;cases h;exact⟨ok.1.1.1,ok.1.1.2.1,ok.1.1.2.2,ok.1.2⟩
  ·exact Yao ok.2 h
theorem Q7{f:FuncId}{xs:List AVal}{v:AVal}(h:PCall P GL f xs v):NCall P GL f xs v []:=by
 intro w M vs hM hg hx;refine(h w M vs hM hg hx).mono ?_;rintro e w' ⟨u,he,k,M',hle,hst,hsrc,hd⟩;refine⟨u,he,⟨M',noOwn⟩,hle,?_,hd⟩;exact {
  keeps:=k
  stable:=hst
  src:=λb o e=>by
   rcases hsrc b o e with q|q
   ·exact .inl q
   ·exact .inr (.inl q)
  globs:=λp hp'=>(hg p hp').mono hle (CLe.refl _)
  empt:=λ_ _=>rfl
  dom:=λb blk e=>by simp[hp] at e
  own:=λb blk cb e=>by simp[hp] at e
  hollow:=λb blk cb e=>by simp[hp] at e
  inj:=λb b' blk blk' cb cb' e=>by simp[hp] at e }
def cgKn(much:Nat)(G:Nat→Option (Nat×GFun))(kn:Known):Nat→CG
 |0,_,_,_=>none
 |d+1,f,xs,σ=>match XaG f xs kn with
  |some v=>some (v,σ)
  |none=>match G f with
   |some (np,g)=>bif Nat.beq xs.length np then g (Cl much (cgKn much G kn d)) xs σ (λv σ=>some (v,σ)) else none
   |none=>none
theorem XaU(hP:P.follows .mixedOrders=true){much:Nat}{G:Nat→Option (Nat×GFun)}(hG:∀f np g,G f=some (np,g)→GOk P GL f np g){kn:Known}(hk:KnOk P GL kn):∀d,CGOk P GL (cgKn much G kn d)
 |0=>λf xs σ v σ' h=>by cases h
 |d+1=>λf xs σ v σ' h=>by
  unfold cgKn at h;split at h
  ·rename_i v0 hv;cases h;obtain⟨h1,h2,h3,h4⟩:=Yao hk hv;refine⟨h1,λk ys hc=>YU (Zl hc h1 (h4.here h2 (hp σ))) (YB σ),λhσ=>?_,λhro=>by rw[h2] at hro; cases hro⟩;subst hσ;exact⟨Q7 h4,λ_=>h4⟩
  split at h
  ·rename_i np g hg;obtain⟨hn,h⟩:=Xi h;have hn':=YNB hn;obtain⟨F,h1,h2,h3⟩:=(hG f np g hg).awp hP (Ybs (XaU hP hG hk d) much (v,σ')) hn' h;refine Q1 (hG f np g hg).plain h1 (h2.trans hn'.symm) (h3.mono λe ρ s k=>?_);obtain⟨k1,v',k2,k3⟩:=k;simp only[Option.some.injEq,Prod.mk.injEq] at k3;exact⟨k1,v',k2,k3.1,k3.2⟩
  ·cases h
theorem Ybd(hP:P.follows .mixedOrders=true){much:Nat}{G:Nat→Option (Nat×GFun)}(hG:∀f np g,G f=some (np,g)→GOk P GL f np g){kn:Known}(hk:KnOk P GL kn)(d:Nat){f:FuncId}{xs:List AVal}{y:AVal}(h:((cgKn much G kn d f xs []).bind λp=>frz p.2 p.1)=some y):PCall P GL f xs y:=by
 cases hc:cgKn much G kn d f xs [] with
 |none=>rw[hc] at h; cases h
 |some p=>
  obtain⟨v,bs⟩:=p;rw[hc] at h;exact ZJ ((XaU hP hG hk d).ncall hc) h
end
end Go.Ah
end
section
namespace Go.Ah
@[reducible] def h0(v:List AVal):AVal:=hdV v
@[reducible] def h1(v:List AVal):AVal:=hdV (tlV v)
@[reducible] def h2(v:List AVal):AVal:=hdV (tlV (tlV v))
@[reducible] def h3(v:List AVal):AVal:=hdV (tlV (tlV (tlV v)))
@[reducible] def h4(v:List AVal):AVal:=hdV (tlV (tlV (tlV (tlV v))))
@[reducible] def h5(v:List AVal):AVal:=hdV (tlV (tlV (tlV (tlV (tlV v)))))
@[reducible] def h6(v:List AVal):AVal:=hdV (tlV (tlV (tlV (tlV (tlV (tlV v))))))
@[reducible] def h7(v:List AVal):AVal:=hdV (tlV (tlV (tlV (tlV (tlV (tlV (tlV v)))))))
@[reducible] def h8(v:List AVal):AVal:=h7 (tlV v)
section
variable {P:Program} {GL:Globs} {f:FuncId} {l:List (Option (List Nat))} {g:GFun}
abbrev GEq(P:Program)(GL:Globs)(np:Nat)(f:FuncId)(l:List (Option (List Nat)))(g:GFun)(xs:List AVal):Prop:=
 ∀(α:Type) (A:Ans α) (σ:List ABlk) (ret:AVal→List ABlk→α),g A xs σ ret=dnFn A ((compD P GL np f l).getD default) xs σ ret
theorem XG{np:Nat}(h:(compD P GL np f l).isSome=true)(hg:∀(xs:List AVal),xs.length=np→GEq P GL np f l g xs):GOk P GL f np g:=by
 cases hD:compD P GL np f l with
 |none=>rw[hD] at h; cases h
 |some D=>
  refine Qbv hD (λα A xs σ ret hn=>?_);have:=hg xs hn α A σ ret
  rwa [hD] at this
theorem gok0(h:(compD P GL 0 f l).isSome=true)(hg:GEq P GL 0 f l g []):GOk P GL f 0 g:=XG h λxs hn=>by
 cases xs with
 |nil=>exact hg
 |cons x xs=>simp at hn
theorem gok1(h:(compD P GL 1 f l).isSome=true)(hg:∀x0,GEq P GL 1 f l g [x0]):GOk P GL f 1 g:=XG h λxs hn=>by
 match xs,hn with
 |[x0],_=>exact hg x0
theorem gok2(h:(compD P GL 2 f l).isSome=true)(hg:∀x0 x1,GEq P GL 2 f l g [x0,x1]):GOk P GL f 2 g:=XG h λxs hn=>by
 match xs,hn with
 |[x0,x1],_=>exact hg x0 x1
theorem gok3(h:(compD P GL 3 f l).isSome=true)(hg:∀x0 x1 x2,GEq P GL 3 f l g [x0,x1,x2]):GOk P GL f 3 g:=XG h λxs hn=>by
 match xs,hn with
 |[x0,x1,x2],_=>exact hg x0 x1 x2
theorem gok4(h:(compD P GL 4 f l).isSome=true)(hg:∀x0 x1 x2 x3,GEq P GL 4 f l g [x0,x1,x2,x3]):GOk P GL f 4 g:=XG h λxs hn=>by
 match xs,hn with
 |[x0,x1,x2,x3],_=>exact hg x0 x1 x2 x3
theorem gok6(h:(compD P GL 6 f l).isSome=true)(hg:∀x0 x1 x2 x3 x4 x5,GEq P GL 6 f l g [x0,x1,x2,x3,x4,x5]):GOk P GL f 6 g:=XG h λxs hn=>by
 match xs,hn with
 |[x0,x1,x2,x3,x4,x5],_=>exact hg x0 x1 x2 x3 x4 x5
end
def row0:List AVal:=(List.range 256).map λi=>AVal.int .u8 (match (Nat.ble 9 i&&Nat.ble i 13)||Nat.beq i 32 with|true=>1|false=>0)
def GL0:Globs:=[(0,row0)]
end Go.Ah
namespace Go.Ah
theorem gq0{P:Program}{GL:Globs}{f:FuncId}{g:GFun}(l:List (Option (List Nat)))(hg:GEq P GL 0 f l g [])(h:(compD P GL 0 f l).isSome=true:=by kernel_rfl):GOk P GL f 0 g:=gok0 h hg
theorem gq1{P:Program}{GL:Globs}{f:FuncId}{g:GFun}(l:List (Option (List Nat)))(hg:∀x0,GEq P GL 1 f l g [x0])(h:(compD P GL 1 f l).isSome=true:=by kernel_rfl):GOk P GL f 1 g:=gok1 h hg
theorem gq2{P:Program}{GL:Globs}{f:FuncId}{g:GFun}(l:List (Option (List Nat)))(hg:∀x0 x1,GEq P GL 2 f l g [x0,x1])(h:(compD P GL 2 f l).isSome=true:=by kernel_rfl):GOk P GL f 2 g:=gok2 h hg
theorem gq3{P:Program}{GL:Globs}{f:FuncId}{g:GFun}(l:List (Option (List Nat)))(hg:∀x0 x1 x2,GEq P GL 3 f l g [x0,x1,x2])(h:(compD P GL 3 f l).isSome=true:=by kernel_rfl):GOk P GL f 3 g:=gok3 h hg
theorem gq4{P:Program}{GL:Globs}{f:FuncId}{g:GFun}(l:List (Option (List Nat)))(hg:∀x0 x1 x2 x3,GEq P GL 4 f l g [x0,x1,x2,x3])(h:(compD P GL 4 f l).isSome=true:=by kernel_rfl):GOk P GL f 4 g:=gok4 h hg
theorem gq6{P:Program}{GL:Globs}{f:FuncId}{g:GFun}(l:List (Option (List Nat)))(hg:∀x0 x1 x2 x3 x4 x5,GEq P GL 6 f l g [x0,x1,x2,x3,x4,x5])(h:(compD P GL 6 f l).isSome=true:=by kernel_rfl):GOk P GL f 6 g:=gok6 h hg
abbrev jv(n:Int):AVal:=.int .i64 n
abbrev Xd:=Xb false 1
@[simp] abbrev Ans.gof{α:Type}(A:Ans α)(c:AVal)(r:SRes)(K:AVal→α):α:=A.gr c false (λk=>A.rd r k) K
@[simp] abbrev Ans.got{α:Type}(A:Ans α)(c:AVal)(r:SRes)(K:AVal→α):α:=A.gr c true (λk=>A.rd r k) K
@[simp] abbrev Ans.a{α:Type}(A:Ans α)(x:AVal)(σ:List ABlk)(K:AVal→α):α:=A.rd (Xb false 1 [x] σ) K
@[simp] abbrev Ans.c{α:Type}(A:Ans α)(x y z:AVal)(σ:List ABlk)(K:AVal→α):α:=A.rd (XB [x,y,z] σ) K
@[simp] abbrev Ans.b{α:Type}(A:Ans α)(o:BinOp)(x y:AVal)(σ:List ABlk)(K:AVal→α):α:=A.rd (Yi o false [x,y] σ) K
@[simp] abbrev Ans.r{α:Type}(A:Ans α)(F:List AVal→List ABlk→SRes)(x:AVal)(σ:List ABlk)(K:AVal→α):α:=A.rd (F [x] σ) K
@[simp] abbrev Ans.s{α:Type}(A:Ans α)(F:List AVal→List ABlk→SRes)(x y:AVal)(σ:List ABlk)(K:AVal→α):α:=A.rd (F [x,y] σ) K
@[simp] abbrev Ans.fa{α:Type}(A:Ans α)(c:AVal)(x:AVal)(σ:List ABlk)(K:AVal→α):α:=A.gof c (Xb false 1 [x] σ) K
@[simp] abbrev Ans.fc{α:Type}(A:Ans α)(c:AVal)(x y z:AVal)(σ:List ABlk)(K:AVal→α):α:=A.gof c (XB [x,y,z] σ) K
@[simp] abbrev Ans.fb{α:Type}(A:Ans α)(c:AVal)(o:BinOp)(x y:AVal)(σ:List ABlk)(K:AVal→α):α:=A.gof c (Yi o false [x,y] σ) K
@[simp] abbrev Ans.fr{α:Type}(A:Ans α)(c:AVal)(F:List AVal→List ABlk→SRes)(x:AVal)(σ:List ABlk)(K:AVal→α):α:=A.gof c (F [x] σ) K
@[simp] abbrev Ans.fs{α:Type}(A:Ans α)(c:AVal)(F:List AVal→List ABlk→SRes)(x y:AVal)(σ:List ABlk)(K:AVal→α):α:=A.gof c (F [x,y] σ) K
@[simp] abbrev Ans.ta{α:Type}(A:Ans α)(c:AVal)(x:AVal)(σ:List ABlk)(K:AVal→α):α:=A.got c (Xb false 1 [x] σ) K
@[simp] abbrev Ans.tc{α:Type}(A:Ans α)(c:AVal)(x y z:AVal)(σ:List ABlk)(K:AVal→α):α:=A.got c (XB [x,y,z] σ) K
@[simp] abbrev Ans.tb{α:Type}(A:Ans α)(c:AVal)(o:BinOp)(x y:AVal)(σ:List ABlk)(K:AVal→α):α:=A.got c (Yi o false [x,y] σ) K
@[simp] abbrev Ans.tr{α:Type}(A:Ans α)(c:AVal)(F:List AVal→List ABlk→SRes)(x:AVal)(σ:List ABlk)(K:AVal→α):α:=A.got c (F [x] σ) K
@[simp] abbrev Ans.ts{α:Type}(A:Ans α)(c:AVal)(F:List AVal→List ABlk→SRes)(x y:AVal)(σ:List ABlk)(K:AVal→α):α:=A.got c (F [x,y] σ) K
@[simp] abbrev Ans.w1{α:Type}(A:Ans α)(F:List AVal→List ABlk→SRes)(x:AVal)(σ:List ABlk)(K:AVal→List ABlk→α):α:=A.wr (F [x] σ) σ K
@[simp] abbrev Ans.ws{α:Type}(A:Ans α)(F:List AVal→List ABlk→SRes)(x y:AVal)(σ:List ABlk)(K:AVal→List ABlk→α):α:=A.wr (F [x,y] σ) σ K
@[simp] abbrev Ans.k{α:Type}(A:Ans α)(n:FuncId)(xs:List AVal)(σ:List ABlk)(K:AVal→List ABlk→α):α:=A.call (.call n) xs σ K
abbrev zq0:List AVal:=[(.int .i64 0),(.int .i64 0),(.int .i8 0),(.bool false),(.int .i8 0),.nils,(.int .i64 0),(.int .i64 0),(.int .i64 0),(.int .i64 0),.nils,.nils,.nils,.nils,.nils,(.int .i64 0),(.int .i64 0),(.int .i64 0),.nils,.nils,.nils,.nils,.nils]
abbrev zq1:List AVal:=[(.int .i8 0),(.int .i64 0),(.int .i64 0),(.int .i64 0),(.int .i64 0),(.int .i64 0),.nils]
abbrev zq2:List AVal:=[(.int .i64 0),(.int .i64 0),(.bool false)]
abbrev zq3:List AVal:=[(.int .i64 0),(.int .i64 0),(.int .i64 0),(.bool false)]
abbrev zq4:List AVal:=[(.int .i8 0),(.int .i8 0),(.int .i8 0),(.int .i8 0)]
abbrev zq5:List AVal:=[(.int .i8 0),(.int .i64 0),(.int .i8 0),.nils]
abbrev zq6:List AVal:=[(.int .i64 0),(.int .i64 0),(.int .i64 0)]
end Go.Ah
end
section
namespace Go.Ah
section
variable (σ:List ABlk)
attribute [simp] Xbs rd_ok pu_ok Zbz Qbt Zbi Zbq hdV tlV
@[simp] theorem W_stop'(P:Program)(GL:Globs):(W P GL).stop=False:=rfl
@[simp] theorem YbA{α:Type}(f:(List AVal→List ABlk→α)→α)(k:List AVal→List ABlk→α):joinK f k=f k:=rfl
@[simp] theorem gx_bool{α:Type}(A:Ans α)(b w:Bool)(r:α)(s:List (Bool×Bool)→α):A.gx (.bool b) w r s=A.test (.bool b) (bif w then r else s [(true,w)]) (bif w then s [(false,w)] else r):=rfl
@[simp] theorem gr_eq{α:Type}(A:Ans α)(c:AVal)(w:Bool)(r:(AVal→α)→α)(K:AVal→α):A.gr c w r K=A.gx c w (r K) (λcs=>K (udf cs)):=rfl
@[simp] theorem gw_eq{α:Type}(A:Ans α)(c:AVal)(w:Bool)(r:(AVal→List ABlk→α)→α)(σ:List ABlk)(K:AVal→List ABlk→α):A.gw c w r σ K=A.gx c w (r K) (λcs=>K (udf cs) σ):=rfl
@[simp] theorem gl_eq{α:Type}(A:Ans α)(c:AVal)(w:Bool)(r:(AVal→List Nat×List Nat→List ABlk→α)→α)(σ:List ABlk)(K:AVal→List Nat×List Nat→List ABlk→α):A.gl c w r σ K=A.gx c w (r K) (λcs=>K (udf cs) ([],[]) σ):=rfl
@[simp] theorem gx_when{α:Type}(A:Ans α)(cs:List (Bool×Bool))(q w:Bool)(r:α)(s:List (Bool×Bool)→α):A.gx (.when cs (.bool q)) w r s=match X9.holdNot cs with
  |true=>s (cs++[(q,w)])
  |false=>A.stop:=rfl
attribute [simp] X9.holdNot
@[simp] theorem e_mv(x:AVal):Qe [x] σ=.ok x [] []:=rfl
@[simp] theorem e_pick(b:Bool)(x y:AVal):XB [.bool b,x,y] σ=.ok (bif b then x else y) [] []:=by cases b<;>rfl
@[simp] theorem Zbs(e n:Bool)(s:Nat)(rows:List (List AVal)):Zc [.rsl e n s rows] σ=.ok (.int .i64 rows.length) [] []:=rfl
@[simp] theorem Zbp:Zc [.nils] σ=.ok (.int .i64 0) [] []:=rfl
@[simp] theorem Qbo:Zc [.cap0] σ=.ok (.int .i64 0) [] []:=rfl
@[simp] theorem Ybu(b o n:Nat)(e:Bool):Zc [.sl b o n e] σ=.ok (.int .i64 n) [] []:=rfl
@[simp] theorem ZbA(s:List UInt8):Qp [.str s] σ=.ok (.int .i64 s.length) [] []:=rfl
@[simp] theorem e_lenA(n:Nat)(x:AVal):Xa7 n [x] σ=.ok (.int .i64 n) [] []:=rfl
@[simp] theorem Zbw(k:IntKind):ikEq k k=true:=by cases k<;>rfl
section
variable (ib:Bool) (k:IntKind) (a b:Int)
@[simp] theorem ZaM:Yi .add ib [.int k a,.int k b] σ=.ok (.int k (k.wrap (a+b))) [] []:=by simp[Yi,binI]
@[simp] theorem Ybp:Yi .sub ib [.int k a,.int k b] σ=.ok (.int k (k.wrap (a-b))) [] []:=by simp[Yi,binI]
@[simp] theorem e_mul:Yi .mul ib [.int k a,.int k b] σ=.ok (.int k (k.wrap (a*b))) [] []:=by simp[Yi,binI]
@[simp] theorem e_eql:Yi .eql ib [.int k a,.int k b] σ=.ok (.bool (decide (a=b))) [] []:=by
 simp[Yi,binI]; exact Bool.eq_iff_iff.2 (by simp)
@[simp] theorem e_neq:Yi .neq ib [.int k a,.int k b] σ=.ok (.bool (decide (a≠b))) [] []:=by
 simp[Yi,binI]; exact Bool.eq_iff_iff.2 (by simp)
@[simp] theorem e_lss:Yi .lss ib [.int k a,.int k b] σ=.ok (.bool (decide (a<b))) [] []:=by simp[Yi,binI]
@[simp] theorem e_leq:Yi .leq ib [.int k a,.int k b] σ=.ok (.bool (decide (a≤b))) [] []:=by simp[Yi,binI]
@[simp] theorem e_gtr:Yi .gtr ib [.int k a,.int k b] σ=.ok (.bool (decide (b<a))) [] []:=by simp[Yi,binI]
@[simp] theorem e_geq:Yi .geq ib [.int k a,.int k b] σ=.ok (.bool (decide (b≤a))) [] []:=by simp[Yi,binI]
end
@[simp] theorem e_eqlS(ib:Bool)(a b:List UInt8):Yi .eql ib [.str a,.str b] σ=.ok (.bool (a==b)) [] []:=rfl
@[simp] theorem e_neqS(ib:Bool)(a b:List UInt8):Yi .neq ib [.str a,.str b] σ=.ok (.bool (!(a==b))) [] []:=rfl
@[simp] theorem e_eqlB(a b:Bool):Yi .eql true [.bool a,.bool b] σ=.ok (.bool (a==b)) [] []:=rfl
@[simp] theorem e_neqB(a b:Bool):Yi .neq true [.bool a,.bool b] σ=.ok (.bool (!(a==b))) [] []:=rfl
@[simp] theorem e_not(b:Bool):Xp .not [.bool b] σ=.ok (.bool (!b)) [] []:=rfl
@[simp] theorem e_neg(k:IntKind)(n:Int):Xp .neg [.int k n] σ=.ok (.int k (k.wrap (0-n))) [] []:=rfl
@[simp] theorem e_conv(k k':IntKind)(n:Int):Zae k [.int k' n] σ=.ok (.int k (k.wrap n)) [] []:=rfl
@[simp] theorem Zbv(t:TypeId)(x:AVal):Zn t [x] σ=.ok (.iface t x) [] []:=rfl
@[simp] theorem Xbu(fn:Fn)(xs:List AVal):Xe fn 0 xs σ=.ok (.func fn [] xs) [] []:=by
 simp[Xe,takeN,dropN]
@[simp] theorem Qbu(fn:Fn)(x:AVal)(xs:List AVal):Xe fn 1 (x::xs) σ=.ok (.func fn [x] xs) [] []:=by
 simp[Xe,takeN,dropN]
@[simp] theorem e_min2(k k':IntKind)(a b:Int):XV [.int k a,.int k' b] σ=.ok (.int k (min a b)) [] []:=by
 simp only[XV]; congr 2; omega
@[simp] theorem e_max2(k k':IntKind)(a b:Int):Z6 [.int k a,.int k' b] σ=.ok (.int k (max a b)) [] []:=by
 simp only[Z6]; congr 2; omega
@[simp] theorem e_nil_b(b j:Nat):Ya [.bptr b j] σ=.ok (.bptr b j) [] []:=rfl
@[simp] theorem e_nil_p(b i j:Nat):Ya [.ptr b i j] σ=.ok (.ptr b i j) [] []:=rfl
@[simp] theorem e_nil_r(row:List AVal)(j:Nat):Ya [.rptr row j] σ=.ok (.rptr row j) [] []:=rfl
@[simp] theorem e_nil_f(f:FuncId)(a b:List AVal):Ya [.func (.func f) a b] σ=.ok (.func (.func f) a b) [] []:=rfl
@[simp] theorem e_fa_b(o b j:Nat):Za o [.bptr b j] σ=.ok (.bptr b (j+o)) [] []:=rfl
@[simp] theorem e_fa_p(o b i j:Nat):Za o [.ptr b i j] σ=.ok (.ptr b i (j+o)) [] []:=rfl
@[simp] theorem e_fa_r(o:Nat)(row:List AVal)(j:Nat):Za o [.rptr row j] σ=.ok (.rptr row (j+o)) [] []:=rfl
@[simp] theorem e_field(agg:Bool)(o n:Nat)(cs:List AVal):Q5 agg o n [.agg cs] σ=(match partA agg o n cs with
   |some v=>.ok v [] []
   | none=>.stop):=rfl
attribute [simp] partA takeN dropN nth
@[simp] theorem Zbu(i:Nat)(vs:List AVal):Zb i [.tup vs] σ=(match nth vs i with
   |some v=>.ok v [] []
   | none=>.stop):=rfl
@[simp] theorem Xbz(len esz b j:Nat)(k:IntKind)(i:Nat):Xc len esz [.bptr b j,.int k (@OfNat.ofNat Int i _)] σ=bif Nat.blt i len then .ok (.bptr b (j+i*esz)) [] [] else .stop:=rfl
@[simp] theorem Qbz(len esz:Nat)(row:List AVal)(j:Nat)(k:IntKind)(i:Nat):Xc len esz [.rptr row j,.int k (@OfNat.ofNat Int i _)] σ=bif Nat.blt i len then .ok (.rptr row (j+i*esz)) [] [] else .stop:=rfl
theorem e_ixS(e n:Bool)(s:Nat)(rows:List (List AVal))(k:IntKind)(i:Nat)(row:List AVal)(h:rows[i]?=some row):Qa s [.rsl e n s rows,.int k (i:Int)] σ=.ok (.rptr row 0) [] []:=by
 show (bif Nat.beq s s then (match nth rows i with
   |some row=>SRes.ok (.rptr row 0) [] []
   | none=>.stop) else .stop)=_
 rw[Nat.beq_refl,ZD,h]; rfl
theorem YaY{α:Type}(f:α→List AVal)(e n:Bool)(s:Nat)(l:List α)(k:IntKind)(i:Nat)(h:i<l.length):Qa s [.rsl e n s (l.map f),.int k (i:Int)] σ=.ok (.rptr (f l[i]) 0) [] []:=
 e_ixS σ e n s _ k i _ (by simp[h])
theorem e_ixO(b o len:Nat)(ex:Bool)(s:Nat)(rows:List (List AVal))(k:IntKind)(i:Nat)(h:i<len)(hb:hget σ b=.rows s rows):Qa s [.sl b o len ex,.int k (i:Int)] σ=.ok (.ptr b (o+i) 0) [b] []:=by
 show (bif Nat.blt i len then (match hget σ b with
   |.rows s' _=>bif Nat.beq s' s then SRes.ok (.ptr b (o+i) 0) [b] [] else .stop
   | _=>.stop) else .stop)=_
 rw[show Nat.blt i len=true from Nat.ble_eq_true_of_le h,hb];simp
@[simp] theorem Zbe(agg:Bool)(n:Nat)(row:List AVal)(j:Nat):Xb agg n [.rptr row j] σ=(match partA agg j n row with
   |some v=>.ok v [] []
   | none=>.stop):=rfl
@[simp] theorem Qbd(agg:Bool)(n b j:Nat):Xb agg n [.bptr b j] σ=(match hget σ b with
   |.box row=>match partA agg j n row with
    |some v=>.ok v [b] []
    |none=>.stop
   | _=>.stop):=rfl
attribute [simp] hget upL Yn splice cellsOf AVal.cell
@[simp] theorem e_alloc(z:List AVal):Yc z [] σ=.ok (.bptr σ.length 0) [] [(σ.length,.box z)]:=rfl
@[simp] theorem e_box(x:AVal):Xg [x] σ=(match cellsOf x with
   |some cs=>.ok (.bptr σ.length 0) [] [(σ.length,.box cs)]
   | none=>.stop):=rfl
@[simp] theorem XaY(n b j:Nat)(x:AVal):Xa n [.bptr b j,x] σ=(match hget σ b with
   |.box row=>match cellsOf x with
    | some cs=>bif Nat.beq cs.length n then (match splice j cs row with
     |some row'=>.ok .junk [] [(b,.box row')]
     | none=>.stop) else .stop
    |none=>.stop
   | _=>.stop):=rfl
end
end Go.Ah
end
section
namespace Go.Ah
structure RenOk (σ σ2:List ABlk) (m:Nat→Option Nat):Prop where
 inj:∀b b' k,m b=some k→m b'=some k→b=b'
 img:∀b k,m b=some k→∃blk,σ[b]?=some blk∧σ2[k]?=some (blk.mapV (AVal.ren m))
 cov:∀k,k<σ2.length→∃b,m b=some k
theorem Rep.renum{GL:Globs}{w0:World}{L:Ln}{g:Gm}{w:World}{σ σ2:List ABlk}{m:Nat→Option Nat}(r:Rep GL w0 L g (hp σ) w)(ok:RenOk σ σ2 m) :
  ∃c2,(∀x v,g.den x v→Den g.M c2 (x.ren m) v)∧Rep GL w0 L ⟨g.M,c2⟩ (hp σ2) w:=by
 classical
 let c2:Own:=λk=>if h:∃b,m b=some k then g.c (Classical.choose h) else none
 have hc2:∀b k,m b=some k→c2 k=g.c b:=by
  intro b k e;have h:∃b,m b=some k:=⟨b,e⟩;show (if h:∃b,m b=some k then g.c (Classical.choose h) else none)=_;rw[dif_pos h,ok.inj _ _ _ (Classical.choose_spec h) e]
 have hden:∀x v,g.den x v→Den g.M c2 (x.ren m) v:=λx v d=>Den.ren d λb b' cb e1 e2=>by rw[hc2 b b' e1]; exact e2
 have back:∀k blk,hp σ2 k=some blk→∃b blk0,m b=some k∧hp σ b=some blk0∧blk=blk0.mapV (AVal.ren m):=by
  intro k blk e;have hk:k<σ2.length:=(YLG e).1;obtain⟨b,hb⟩:=ok.cov k hk;obtain⟨blk0,e1,e2⟩:=ok.img b k hb;refine⟨b,blk0,hb,e1,?_⟩;have e':σ2[k]?=some blk:=e;rw[e2] at e';exact(Option.some.inj e').symm
 refine⟨c2,hden,?_⟩;exact {
  keeps:=r.keeps
  stable:=r.stable
  src:=r.src
  globs:=r.globs
  empt:=λk e=>by
   show (if h:∃b,m b=some k then g.c (Classical.choose h) else none)=none;rw[dif_neg];rintro⟨b,hb⟩;obtain⟨blk0,e1,e2⟩:=ok.img b k hb;have e':σ2[k]?=none:=e;rw[e2] at e'; cases e'
  dom:=λk blk e=>by
   obtain⟨b,blk0,h1,h2,_⟩:=back k blk e;obtain⟨cb,hcb⟩:=r.dom b blk0 h2;exact⟨cb,by show c2 k=_; rw[hc2 b k h1]; exact hcb⟩
  own:=λk blk cb e hl ec hv=>by
   obtain⟨b,blk0,h1,h2,rfl⟩:=back k blk e;rw[ABlk.mapV_live] at hl;have ec':g.c b=some cb:=by rw[←hc2 b k h1]; exact ec
   obtain⟨q1,q2,o,q3,q4⟩:=r.own b blk0 cb h2 hl ec' hv;exact⟨q1,q2,o,q3,q4.mapV (p:=λ_=>True) (λx v _ d=>hden x v d) (ABlk.all_true _)⟩
  hollow:=λk blk cb e hl ec hv=>by
   obtain⟨b,blk0,h1,h2,rfl⟩:=back k blk e;rw[ABlk.mapV_live] at hl;have ec':g.c b=some cb:=by rw[←hc2 b k h1]; exact ec
   have:=r.hollow b blk0 cb h2 hl ec' hv;subst this;rfl
  inj:=λk k' x x' cb1 cb2 e1 e2 l1 l2 c1 c2' v1 v2 hblk=>by
   obtain⟨b,y,h1,h2,rfl⟩:=back k x e1;obtain⟨b',y',h1',h2',rfl⟩:=back k' x' e2;rw[ABlk.mapV_live] at l1 l2;have ec1:g.c b=some cb1:=by rw[←hc2 b k h1]; exact c1
   have ec2:g.c b'=some cb2:=by rw[←hc2 b' k' h1']; exact c2'
   have:=r.inj b b' y y' cb1 cb2 h2 h2' l1 l2 ec1 ec2 v1 v2 hblk;subst this;rw[h1] at h1';exact Option.some.inj h1' }
def Tidy(σ:List ABlk)(v:AVal)(σ2:List ABlk)(v2:AVal):Prop:=
 ∀(GL:Globs) (w0:World) (L:Ln) (g:Gm) (w:World),Rep GL w0 L g (hp σ) w→∀u,g.den v u→∃c2,Rep GL w0 L ⟨g.M,c2⟩ (hp σ2) w∧Den g.M c2 v2 u
theorem Tidy.refl(σ:List ABlk)(v:AVal):Tidy σ v σ v:=λ_ _ _ g _ r _ d=>⟨g.c,r,d⟩
theorem Tidy.trans{σ σ2 σ3:List ABlk}{v v2 v3:AVal}(h:Tidy σ v σ2 v2)(k:Tidy σ2 v2 σ3 v3):Tidy σ v σ3 v3:=by
 intro GL w0 L g w r u d;obtain⟨c2,r2,d2⟩:=h GL w0 L g w r u d;obtain⟨c3,r3,d3⟩:=k GL w0 L ⟨g.M,c2⟩ w r2 u d2;exact⟨c3,r3,d3⟩
theorem Tidy.ren{σ σ2:List ABlk}{m:Nat→Option Nat}(ok:RenOk σ σ2 m)(v:AVal):Tidy σ v σ2 (v.ren m):=by
 intro GL w0 L g w r u d;obtain⟨c2,h1,h2⟩:=r.renum ok;exact⟨c2,h2,h1 v u d⟩
theorem Tidy.weak{σ:List ABlk}{v v2:AVal}(h:∀(M:Nat→Option Obj) (c:Own) (u:Value),Den M c v u→Den M c v2 u):Tidy σ v σ v2:=λ_ _ _ g _ r u d=>⟨g.c,r,h _ _ _ d⟩
theorem Ybq(σ:List ABlk)(b:ABlk):hup (hp σ) σ.length b=hp (σ++[b]):=by
 funext n
 simp only[hup,hp];by_cases h:n=σ.length
 ·subst h; simp
 ·rw[if_neg h];by_cases h2:n<σ.length
  ·rw[List.getElem?_append_left h2]
  ·rw[List.getElem?_eq_none (by omega),List.getElem?_eq_none (by simp; omega)]
theorem Tidy.ghost{σ:List ABlk}{v:AVal}(sz:Nat)(h:v=.nils∨v=.cap0):Tidy σ v (σ++[.rows sz []]) (.sl σ.length 0 0 false):=by
 intro GL w0 L g w r u d;have r2:=r.ghost (XN σ) sz;rw[Ybq] at r2;have hs:∃a,u=.slice a 0 0:=by
  rcases h with rfl|rfl
  ·cases d; exact⟨_,rfl⟩
  ·cases d; exact⟨_,rfl⟩
 obtain⟨a,rfl⟩:=hs;exact⟨_,r2,.slv _ _ _ _ _ (Qh _ _ _) rfl⟩
theorem Tidy.one{σ:List ABlk}{b:Nat}{blk:ABlk}(hb:σ[b]?=some blk)(m:Nat→Option Nat)(hm:∀n,m n=if n=b then some 0 else none)(v:AVal):Tidy σ v [blk.mapV (AVal.ren m)] (v.ren m):=by
 have key:∀x k,m x=some k→x=b∧k=0:=by
  intro x k e;rw[hm] at e;split at e
  ·cases e; exact⟨by assumption,rfl⟩
  ·cases e
 refine Tidy.ren ⟨λx y k e1 e2=>?_,λx k e=>?_,λk hk=>⟨b,?_⟩⟩ v
 ·rw[(key x k e1).1,(key y k e2).1]
 ·obtain⟨rfl,rfl⟩:=key x k e;exact⟨blk,hb,by simp⟩
 ·simp at hk; subst hk; rw[hm]; simp
section
variable {P:Program} {GL:Globs}
theorem Xah{f:FuncId}{F:MFn}(ok:FnOk P GL f F){xs:List AVal}(hn:xs.length=F.np){v:AVal}{bs:List ABlk}
 (h:Awp P GL F.n F.body (frame0 xs) [] (λe ρ σ=>(e=.normal∨e=.ret)∧∃v',retV F.rets ρ σ=some v'∧Tidy σ v' bs v)):NCall P GL f xs v bs:=by
 intro w M vs hM hg hx;have r0:=Rep.start (GL:=GL) w M hM hg;have hh:hp []=noHp:=by funext b; simp[hp,noHp]
 rw[←hh] at r0;refine(YD ok hn h w ⟨[],M⟩ ⟨M,noOwn⟩ w vs r0 hx).mono ?_;rintro e w' ⟨u,he,g',x,σ',hR,hle,r,d⟩;obtain⟨c2,r2,d2⟩:=hR GL w ⟨[],M⟩ g' w' r u d;exact⟨u,he,⟨g'.M,c2⟩,hle.m,r2,d2⟩
theorem XK(hP:P.follows .mixedOrders=true){f:FuncId}{np:Nat}{g:GFun}(hg:GOk P GL f np g){xs:List AVal}(hn:xs.length=np){v:AVal}{bs:List ABlk}(h:g (W P GL) xs [] (λv' σ=>Tidy σ v' bs v)):NCall P GL f xs v bs:=by
 obtain⟨F,h1,h2,h3⟩:=hg.awp hP (Ybz P GL) hn h;exact Xah h1 (hn.trans h2.symm) h3
theorem Y7:∀(bs σ:List ABlk),upL σ (Zk σ.length bs)=some (σ++bs)
 |[],σ=>by simp[Zk,upL]
 |b::bs,σ=>by
  have:=Y7 bs (σ++[b]);rw[List.length_append,List.length_singleton] at this;simp only[Zk,upL,Nat.beq_refl,cond_true];rw[this]; simp
def Za5(n:Nat):List ABlk→List Nat
 |[]=>[]
 |_::bs=>n::Za5 (n+1) bs
theorem Ybb{k:MK}{xs ys:List AVal}{f:FuncId}{v:AVal}{bs:List ABlk}(h:NCall P GL f ys v bs)(hc:Xk k xs=some (f,ys))(hp':Qf P f=true)(hro:roL ys=true){σ:List ABlk}{K:AVal→List ABlk→Prop}(hK:K (v.ren (Xw σ.length)) (σ++Qu σ.length bs)):(W P GL).call k xs σ K:=
 YaC hc hp' (h.here hro (λi _=>by simp[hp])) (Y7 _ σ) hK
end
attribute [simp] AVal.ren renL Xw Qu ABlk.mapV Za5 AVal.ro roL AVal.flat flatL
end Go.Ah
end
section
namespace Go.Ah
theorem Ybe{σ:List ABlk}{b:Nat}{x:ABlk}(h:hget σ b=x)(hx:x≠.dead):σ[b]?=some x:=ZK h hx
theorem Xba{α:Type}{b:Nat}{x:α}:∀ {σ:List α},b<σ.length→Yn b x σ=some (σ.set b x):=by
 intro σ h
 induction σ generalizing b with
 |nil=>simp at h
 |cons y σ ih=>cases b with
  |zero=>simp[Yn]
  |succ b=>simp at h; simp[Yn,ih h]
end Go.Ah
end
section
namespace Go.Ah
section
variable {P:Program} {GL:Globs}
theorem Yf{r:SRes}{K:AVal→Prop}{v:AVal}{rd:List Nat}(h:r=.ok v rd [])(hK:K v):(W P GL).rd r K:=by rw[h]; exact hK
theorem Zbl{r:SRes}{K:AVal→Prop}{v:AVal}(h:r=.ok v [] [])(hK:K v):(W P GL).pu r K:=by rw[h]; exact hK
theorem XaB{r:SRes}{σ σ':List ABlk}{K:AVal→List ABlk→Prop}{v:AVal}{rd:List Nat}{up:List (Nat×ABlk)}(h:r=.ok v rd up)(hu:upL σ up=some σ')(hK:K v σ'):(W P GL).wr r σ K:=by rw[h,Zbz,hu]; exact hK
theorem XS{r:SRes}{σ σ':List ABlk}{K:AVal→List Nat×List Nat→List ABlk→Prop}{v:AVal}{rd:List Nat}{up:List (Nat×ABlk)}(h:r=.ok v rd up)(hu:upL σ up=some σ')(hK:K v (rd,up.map (·.1)) σ'):(W P GL).dr r σ K:=by rw[h,Qbt,hu]; exact hK
theorem ZB{c:Bool}{a b:Prop}(ht:c=true→a)(hf:c=false→b):(W P GL).test (.bool c) a b:=⟨ht,hf⟩
theorem Qba{a b:Prop}(h:a):(W P GL).test (.bool true) a b:=⟨λ_=>h,(λe=>by cases e)⟩
theorem ZP{a b:Prop}(h:b):(W P GL).test (.bool false) a b:=⟨(λe=>by cases e),λ_=>h⟩
theorem Ybx{b:Bool}{k:Prop}(h:b=true)(hK:k):(W P GL).gd b k:=by rw[h]; exact hK
theorem Yl{w:Bool}{r:(AVal→Prop)→Prop}{K:AVal→Prop}(h:r K):(W P GL).gr (.bool w) w r K:=by
 cases w
 ·exact⟨(λe=>by cases e),λ_=>h⟩
 ·exact⟨λ_=>h,(λe=>by cases e)⟩
theorem YP{c w:Bool}{r:(AVal→Prop)→Prop}{K:AVal→Prop}(hc:c = !w)(h:K (udf [(c,w)])):(W P GL).gr (.bool c) w r K:=by
 subst hc;cases w
 ·exact⟨λ_=>h,(λe=>by cases e)⟩
 ·exact⟨(λe=>by cases e),λ_=>h⟩
end
def pos:List Nat→Nat→Option Nat
 |[],_=>none
 |x::l,n=>match Nat.beq x n with
  |true=>some 0
  |false=>match pos l n with
   |some k=>some (k+1)
   |none=>none
end Go.Ah
end
section
namespace Go.Ah
section
variable {P:Program} {GL:Globs}
theorem Xaq(hP:P.follows .mixedOrders=true){f:FuncId}{np:Nat}{g:GFun}(hg:GOk P GL f np g){xs:List AVal}(hn:xs.length=np){y:AVal}(h:g (W P GL) xs [] (λv' σ=>∃rd,Bor (hp σ) rd v' y)):PCall P GL f xs y:=by
 obtain⟨F,h1,h2,h3⟩:=hg.awp hP (Ybz P GL) hn h;intro w M vs hM hg hx;have r0:=Rep.start (GL:=GL) w M hM hg;have hh:hp []=noHp:=by funext b; simp[hp,noHp]
 rw[←hh] at r0;refine(YD h1 (hn.trans h2.symm) h3 w ⟨[],M⟩ ⟨M,noOwn⟩ w vs r0 hx).mono ?_;rintro e w' ⟨u,he,g',x,σ',⟨rd,hR⟩,hle,r,d⟩
 let M2:Nat→Option Obj:=λb=>if b<w.heap.size then g'.M b else w'.heap[b]?
 have cov:Cov g' (hp σ') w' M2:=by
  refine⟨λb o e=>?_,λb blk cb o e1 e2 e3 e4 e5=>?_⟩
  ·show (if b<w.heap.size then g'.M b else w'.heap[b]?)=some o;split
   ·exact e
   ·exact r.stable b o e
  ·obtain⟨_,hin,_⟩:=r.own b blk cb e1 e2 e3 e4;show (if cb.blk<w.heap.size then g'.M cb.blk else w'.heap[cb.blk]?)=some o;rcases hin with hin|hin
   ·simp at hin
   ·rw[if_neg (by omega)]; exact e5
 have hd2:=hR GL w ⟨[],M⟩ g' (hp σ') w' M2 r cov (λ_ _=>rfl) u d;refine⟨u,he,r.keeps,M2,λb o e=>cov.1 b o (hle.m b o e),λb o e=>?_,λb o e=>?_,hd2⟩
 ·have e':(if b<w.heap.size then g'.M b else w'.heap[b]?)=some o:=e;split at e'
  ·exact r.stable b o e'
  ·exact e'
 ·have e':(if b<w.heap.size then g'.M b else w'.heap[b]?)=some o:=e;split at e'
  ·rcases r.src b o e' with q|q|q
   ·exact .inl q
   ·exact .inr q
   ·simp at q
  ·exact .inr (by omega)
theorem Bor.tup{h0:Hp}{rd:List Nat}{xs ys:List AVal}(h1:BorL h0 rd xs ys):Bor h0 rd (.tup xs) (.tup ys):=by
 intro GL w0 L g h w M2 r hM hrd v d;cases d with
 |tup _ _ vs hs hd=>
  obtain⟨hl,hd'⟩:=h1.get r hM hrd (vs:=vs.toList) (by simp[hs]) (λi x v e1 e2=>hd i x v e1 (by simpa using e2));exact .tup _ _ _ (by simpa[hs] using hl.symm) (λi x v e1 e2=>hd' i x v e1 (by simpa using e2))
theorem Bor.weak{h0:Hp}{rd:List Nat}{x y z:AVal}(h:Bor h0 rd x y)(k:∀(M:Nat→Option Obj) (u:Value),Den M noOwn y u→Den M noOwn z u):Bor h0 rd x z:=
 λGL w0 L g h' w M2 r hM hrd v d=>k M2 v (h GL w0 L g h' w M2 r hM hrd v d)
theorem Den.rsl_weak{M:Nat→Option Obj}{c:Own}{e n:Bool}{sz:Nat}{rows:List (List AVal)}{u:Value}(h:Den M c (.rsl e n sz rows) u):Den M c (.rsl false false sz rows) u:=by
 cases h with
 |rsl _ _ _ _ _ a cap blk off f q1 q2 q3 q4 q5 q6 q7 q8=>exact .rsl _ _ _ _ _ a cap blk off f (λh=>by cases h) (λh=>by cases h) q3 q4 q5 q6 q7 q8
theorem Den.nils_rsl{M:Nat→Option Obj}{c:Own}{u:Value}(sz:Nat)(h:Den M c .nils u):Den M c (.rsl false false sz []) u:=by
 cases h with
 |nils=>exact .rsl _ _ _ _ [] none 0 0 0 (λ_ _=>undef) (λh=>by cases h) (λh=>by cases h) (λh=>(h rfl).elim) (λ_=>rfl) (by simp) (by simp) (by simp) (by simp)
theorem BorL.ro{h0:Hp}{rd:List Nat}:∀ {l:List AVal},roL l=true→BorL h0 rd l l
 |[],_=>BorL.nil
 |x::l,h=>by
  simp only[roL,Bool.and_eq_true] at h;exact BorL.cons (Bor.ro h.1) (BorL.ro h.2)
theorem Bor.own{σ:List ABlk}{rd:List Nat}{b off len sz:Nat}{ex:Bool}{rs rows:List (List AVal)}(hb:hget σ b=.rows sz rs)(hin:b∈rd)(hle:off+len≤rs.length)(hc:cut off (off+len) rs=rows)(hro:∀r∈rs,roL r=true):Bor (hp σ) rd (.sl b off len ex) (.rsl false false sz rows):=by
 refine Bor.weak (y:=.rsl ex false sz rows) ?_ (λM u d=>d.rsl_weak);have hb':hp σ b=some (.rows sz rs):=Ybe hb (by simp);subst hc;refine Bor.sl hb' hin hle (Zs hle▸by omega) (λi row row' q1 q2=>?_);have hi:i<len:=by
  have:=(YLG q2).1;rw[Zs hle] at this; omega
 have:(cut off (off+len) rs)[i]?=rs[off+i]?:=by
  unfold cut;rw[List.getElem?_drop,List.getElem?_take_of_lt (by omega)]
 rw[this,q1] at q2; cases q2;exact BorL.ro (hro _ (List.mem_of_getElem? q1))
theorem QaW(l:List (List AVal))(n:Nat)(h:n=l.length):cut 0 (0+n) l=l:=by subst h; simp[cut]
end
end Go.Ah
end
section
namespace Go.Ah
section
variable {H:Type}
def DL(M:Nat→Option Obj)(xs:List AVal)(cs:List Value):Prop:=xs.length=cs.length∧∀(i:Nat) (x:AVal) (v:Value),xs[i]?=some x→cs[i]?=some v→Den M noOwn x v
theorem DL.nil{M:Nat→Option Obj}:DL M [] []:=⟨rfl,λi x v h=>by simp at h⟩
theorem DL.one{M:Nat→Option Obj}{x:AVal}{v:Value}(h:Den M noOwn x v):DL M [x] [v]:=by
 refine⟨rfl,λi y u h1 h2=>?_⟩;cases i with
 |zero=>simp at h1 h2; subst h1; subst h2; exact h
 |succ i=>simp at h1
theorem DL.append{M:Nat→Option Obj}{xs ys:List AVal}{cs ds:List Value}(h:DL M xs cs)(k:DL M ys ds):DL M (xs++ys) (cs++ds):=by
 refine⟨by simp[h.1,k.1],λi x v h1 h2=>?_⟩;by_cases hi:i<xs.length
 ·rw[List.getElem?_append_left hi] at h1;rw[List.getElem?_append_left (by rw[←h.1]; exact hi)] at h2;exact h.2 i x v h1 h2
 ·rw[List.getElem?_append_right (by omega)] at h1;rw[List.getElem?_append_right (by rw[←h.1]; omega),←h.1] at h2;exact k.2 _ x v h1 h2
def Tri{α β γ:Type}(R:α→β→γ→Prop):List α→List β→List γ→Prop
 |[],[],[]=>True
 |a::us,b::bs,c::cs=>R a b c∧Tri R us bs cs
 |_,_,_=>False
def Two{α β:Type}(R:α→β→Prop):List α→List β→Prop
 |[],[]=>True
 |a::us,b::bs=>R a b∧Two R us bs
 |_,_=>False
theorem Tri.cons{α β γ:Type}{R:α→β→γ→Prop}{a:α}{us:List α}{bs:List β}{cs:List γ}(h:Tri R (a::us) bs cs):∃b bs' c cs',bs=b::bs'∧cs=c::cs'∧R a b c∧Tri R us bs' cs':=by
 match bs,cs,h with
 |b::bs,c::cs,h=>exact⟨b,bs,c,cs,rfl,rfl,h.1,h.2⟩
theorem Tri.nil{α β γ:Type}{R:α→β→γ→Prop}{bs:List β}{cs:List γ}(h:Tri R [] bs cs):bs=[]∧cs=[]:=by
 match bs,cs,h with
 |[],[],_=>exact⟨rfl,rfl⟩
theorem Two.cons{α β:Type}{R:α→β→Prop}{a:α}{us:List α}{bs:List β}(h:Two R (a::us) bs):∃b bs',bs=b::bs'∧R a b∧Two R us bs':=by
 match bs,h with
 |b::bs,h=>exact⟨b,bs,rfl,h.1,h.2⟩
theorem Two.length{α β:Type}{R:α→β→Prop}:∀ {us:List α} {bs:List β},Two R us bs→us.length=bs.length
 |[],[],_=>rfl
 |_::_,_::_,h=>by simp[Two.length h.2]
 |[],_::_,h=>h.elim
 |_::_,[],h=>h.elim
theorem Two.get{α β:Type}{R:α→β→Prop}:∀ {us:List α} {bs:List β},Two R us bs→∀(i:Nat) a b,us[i]?=some a→bs[i]?=some b→R a b
 |a::us,b::bs,h,0,x,y,h1,h2=>by simp at h1 h2; subst h1; subst h2; exact h.1
 |a::us,b::bs,h,i+1,x,y,h1,h2=>Two.get h.2 i x y (by simpa using h1) (by simpa using h2)
 |[],_,_,i,x,y,h1,_=>by simp at h1
 |_::_,[],h,_,_,_,_,_=>h.elim
def Typed(P:Program):Nat→TypeId→List AVal→DataW H→Prop
 |0,_,_,_=>False
 |fuel+1,t,xs,d=>match P.underlying t with
  |some .bool=>∃b,xs=[.bool b]∧d=.lit (.bool b)
  |some (.int k)=>∃n,xs=[.int k n]∧(Lit.int k n).wf=true∧d=.lit (.int k n)
  |some .string=>∃s,xs=[.str s]∧d=.lit (.string s)
  |some (.slice e)=>∃rows,xs=[.rsl false false (P.cellsOf e) rows]∧((rows=[]∧d=.nil)∨∃es sp,d=.slice es sp∧Two (Typed P fuel e) rows es)
  |some (.struct fs)=>∃parts ds,xs=parts.flatten∧d=.agg ds∧Tri (Typed P fuel) (fs.toList.map (·.type)) parts ds
  |some (.array n e)=>∃parts ds,xs=parts.flatten∧d=.agg ds∧parts.length=n∧Two (Typed P fuel e) parts ds
  |_=>False
def tiles(P:Program):Nat→List Field→Option Nat
 |o,[]=>some o
 |o,f::r=>bif Nat.beq f.offset o then tiles P (o+P.cellsOf f.type) r else none
def tyOk(P:Program)(S:List TypeId)(t:TypeId):Bool:=match P.underlying t with
 |some .bool=>Nat.beq (P.cellsOf t) 1
 |some (.int _)=>Nat.beq (P.cellsOf t) 1
 |some .string=>Nat.beq (P.cellsOf t) 1
 |some (.slice e)=>Nat.beq (P.cellsOf t) 1&&(Nat.blt 0 (P.cellsOf e)&&S.contains e)
 | some (.struct fs)=>(match tiles P 0 fs.toList with
  |some n=>Nat.beq n (P.cellsOf t)
  | none=>false) && fs.toList.all λf=>S.contains f.type
 |some (.array n e)=>Nat.beq (P.cellsOf t) (n*P.cellsOf e)&&S.contains e
 |_=>false
variable {enc:TypeId×Value→H} {P:Program} {w:World} {base:Nat} {spare:Nat→Bool} {held:Bool}
theorem YZ{α β:Type}{f:α→Option β}:∀ {l:List α} {r:List β},l.mapM f=some r→Two (λa b=>f a=some b) l r
 |[],r,h=>by simp at h; subst h; trivial
 |a::l,r,h=>by
  rw[List.mapM_cons] at h;cases ha:f a with
  |none=>simp[ha] at h
  |some b=>
   cases hl:l.mapM f with
   |none=>simp[ha,hl] at h
   |some bs=>simp[ha,hl] at h; subst h; exact⟨ha,YZ hl⟩
def Tells(enc:TypeId×Value→H)(P:Program)(w:World)(base:Nat)(spare:Nat→Bool)(held:Bool)(fuel:Nat)(t:TypeId)(cs:List Value)(d:DataW H):Prop:=∃ps,DataW.trod enc P w base spare held fuel t cs=some (d,ps)
def Fine(enc:TypeId×Value→H)(P:Program)(w:World)(base:Nat)(spare:Nat→Bool)(held:Bool)(fuel:Nat)(t:TypeId):Prop:=
 ∀cs d,Tells enc P w base spare held fuel t cs d→cs.length=P.cellsOf t∧∃xs,DL (λb=>w.heap[b]?) xs cs∧Typed P fuel t xs d
theorem ZaU{a:Addr}{v:Value}(h:w.cell? a=some v):a.spot=none∧mcell (λb=>w.heap[b]?) a.block a.off=some v:=by
 unfold World.cell? at h;show _∧(match w.heap[a.block]? with
  |some (.cells c _ _)=>c[a.off]?
  | _=>none)=some v
 cases hb:w.heap[a.block]? with
 |none=>rw[hb] at h; cases h
 |some o=>
  rw[hb] at h;cases o with
  |cells c t fr=>
   simp only at h;split at h
   ·cases h
   ·rename_i hs;exact⟨by simpa using hs,h⟩
  |_=>cases h
theorem Qak(a:Addr)(n:Nat):(a.add n).block=a.block:=by unfold Addr.add; split<;>rfl
theorem ZaS(a:Addr)(n:Nat):(a.add n).off=a.off+n:=by unfold Addr.add; split<;>simp_all
theorem Y2{fuel:Nat}{cs:List Value}:∀ {fs:List Field} {o n:Nat} {xs:List (DataW H×List MemPlace)},tiles P o fs=some n→n≤cs.length→(∀f∈fs,Fine enc P w base spare held fuel f.type) →
  Two (λ(f:Field) y=>DataW.trod enc P w base spare held fuel f.type ((cs.drop f.offset).take (P.cellsOf f.type))=some y) fs xs→o≤n ∧
  ∃parts,DL (λb=>w.heap[b]?) parts.flatten ((cs.take n).drop o)∧Tri (Typed P fuel) (fs.map (·.type)) parts (xs.map (·.1))
 |[],o,n,xs,ht,hn,hf,h=>by
  simp only[tiles,Option.some.injEq] at ht;subst ht
  match xs,h with
  |[],_=>
   refine⟨Nat.le_refl _,[],?_,trivial⟩;have:(cs.take o).drop o=[]:=by simp
   rw[this]; exact DL.nil
 |f::fs,o,n,xs,ht,hn,hf,h=>by
  simp only[tiles] at ht;cases hb:Nat.beq f.offset o with
  |false=>rw[hb] at ht; cases ht
  |true=>
   rw[hb] at ht;have ho:=YNB hb;obtain⟨y,ys,rfl,h1,h2⟩:=h.cons;obtain⟨hle,parts,hd,h3⟩:=Y2 ht hn (λg hg=>hf g (List.mem_cons_of_mem _ hg)) h2;obtain⟨hl,p,hp,hy⟩:=hf f (List.mem_cons_self ..) _ _ ⟨y.2,h1⟩;refine⟨by omega,p::parts,?_,hy,h3⟩;have e:(cs.take n).drop o=(cs.drop f.offset).take (P.cellsOf f.type)++(cs.take n).drop (o+P.cellsOf f.type):=by
    have e1:(cs.take n).drop o=((cs.take n).drop o).take (P.cellsOf f.type)++((cs.take n).drop o).drop (P.cellsOf f.type):=(List.take_append_drop _ _).symm;rw[e1,List.drop_drop,ho]
    congr 1
    rw[List.drop_take,List.take_take]
    congr 1
    omega
   rw[List.flatten_cons,e];exact hp.append hd
theorem Xaa{fuel:Nat}{e:TypeId}{cs:List Value}(hf:Fine enc P w base spare held fuel e):∀ {n o:Nat} {xs:List (DataW H×List MemPlace)},(o+n)*P.cellsOf e≤cs.length →
  Two (λ(i:Nat) y=>DataW.trod enc P w base spare held fuel e ((cs.drop (i*P.cellsOf e)).take (P.cellsOf e))=some y) (List.range' o n) xs →
  ∃parts,DL (λb=>w.heap[b]?) parts.flatten ((cs.take ((o+n)*P.cellsOf e)).drop (o*P.cellsOf e))∧parts.length=n∧Two (Typed P fuel e) parts (xs.map (·.1))
 |0,o,xs,hn,h=>by
  match xs,h with
  |[],_=>
   refine⟨[],?_,rfl,trivial⟩;have:(cs.take ((o+0)*P.cellsOf e)).drop (o*P.cellsOf e)=[]:=by simp
   rw[this]; exact DL.nil
 |n+1,o,xs,hn,h=>by
  rw[List.range'_succ] at h;obtain⟨y,ys,rfl,h1,h2⟩:=h.cons;have hn':(o+1+n)*P.cellsOf e≤cs.length:=by rw[show o+1+n=o+(n+1) by omega]; exact hn
  obtain⟨parts,hd,h3,h4⟩:=Xaa hf hn' h2;obtain⟨hl,p,hp,hy⟩:=hf _ _ ⟨y.2,h1⟩;refine⟨p::parts,?_,by simp[h3],hy,h4⟩;have hs:(o+1)*P.cellsOf e=o*P.cellsOf e+P.cellsOf e:=by rw[Nat.add_mul,Nat.one_mul]
  have hm:(o+1)*P.cellsOf e≤(o+(n+1))*P.cellsOf e:=Nat.mul_le_mul_right _ (by omega);have e1:(cs.take ((o+(n+1))*P.cellsOf e)).drop (o*P.cellsOf e)=(cs.drop (o*P.cellsOf e)).take (P.cellsOf e)++(cs.take ((o+1+n)*P.cellsOf e)).drop ((o+1)*P.cellsOf e):=by
   rw[show o+1+n=o+(n+1) by omega,hs];have e2:(cs.take ((o+(n+1))*P.cellsOf e)).drop (o*P.cellsOf e)=((cs.take ((o+(n+1))*P.cellsOf e)).drop (o*P.cellsOf e)).take (P.cellsOf e)++((cs.take ((o+(n+1))*P.cellsOf e)).drop (o*P.cellsOf e)).drop (P.cellsOf e):=(List.take_append_drop _ _).symm;rw[e2,List.drop_drop]
   congr 1
   rw[List.drop_take,List.take_take]
   congr 1
   omega
  rw[List.flatten_cons,e1];exact hp.append hd
theorem Zar{fuel:Nat}{e:TypeId}{a:Addr}(hf:Fine enc P w base spare held fuel e)(hpos:0<P.cellsOf e):∀ {n o:Nat} {xs:List (DataW H×List MemPlace)},
  Two (λ(i:Nat) y=>(w.cells? base (a.add (i*P.cellsOf e)) (P.cellsOf e)).bind (DataW.trod enc P w base spare held fuel e)=some y) (List.range' o n) xs →
  ∃(rows:List (List AVal)) (f:Nat→Nat→Value),rows.length=n∧Two (Typed P fuel e) rows (xs.map (·.1))∧(n≠0→o=0→a.spot=none)∧(∀(i:Nat) (row:List AVal),rows[i]?=some row→row.length=P.cellsOf e) ∧
   (∀i j,i<n→j<P.cellsOf e→mcell (λb=>w.heap[b]?) a.block (a.off+((o+i)*P.cellsOf e+j))=some (f i j))∧(∀(i:Nat) (row:List AVal) (j:Nat) (x:AVal),rows[i]?=some row→row[j]?=some x→Den (λb=>w.heap[b]?) noOwn x (f i j))
 |0,o,xs,h=>by
  match xs,h with
  |[],_=>exact⟨[],λ_ _=>undef,rfl,trivial,λh _=>(h rfl).elim,by simp,by intro i j hi; omega,by simp⟩
 |n+1,o,xs,h=>by
  rw[List.range'_succ] at h;obtain⟨y,ys,rfl,h1,h2⟩:=h.cons;obtain⟨rows,f,q1,q2,q3,q4,q5,q6⟩:=Zar hf hpos h2;obtain⟨cs,hc,hy⟩:=Option.bind_eq_some_iff.1 h1;obtain⟨_,hl,hcell⟩:=World.cells?_some hc;obtain⟨_,xs0,hd,hty⟩:=hf cs y.1 ⟨y.2,hy⟩;have hat:∀j,j<P.cellsOf e→∃v,cs[j]?=some v∧mcell (λb=>w.heap[b]?) a.block (a.off+o*P.cellsOf e+j)=some v:=by
   intro j hj;obtain⟨v,hv⟩:∃v,cs[j]?=some v:=⟨cs[j]'(by omega),by simp[show j<cs.length by omega]⟩;have:=hcell j hj;rw[hv] at this;obtain⟨m1,m2⟩:=ZaU this;rw[Qak,Qak,ZaS,ZaS] at m2;exact⟨v,hv,m2⟩
  refine⟨xs0::rows,λi j=>match i with|0=>(cs[j]?).getD undef|i+1=>f i j,by simp[q1],⟨hty,q2⟩,λ_ ho=>?_,?_,?_,?_⟩
  ·have:=hcell 0 hpos;rw[show cs[0]?=some (cs[0]'(by omega)) by simp[show 0<cs.length by omega]] at this;have:=(ZaU this).1;subst ho;simpa[Addr.add] using this
  ·intro i row hr;cases i with
   |zero=>simp at hr; subst hr; rw[hd.1,hl]
   |succ i=>exact q4 i row (by simpa using hr)
  ·intro i j hi hj;cases i with
   |zero=>
    obtain⟨v,e1,e2⟩:=hat j hj;simp only[e1,Option.getD_some,Nat.add_zero];rw[←Nat.add_assoc]; exact e2
   |succ i=>
    have:=q5 i j (by omega) hj;rw[show o+(i+1)=o+1+i by omega];exact this
  ·intro i row j x hr hx;cases i with
   |zero=>
    simp at hr; subst hr;have hj:j<cs.length:=by rw[←hd.1]; exact(YLG hx).1
    have hv:cs[j]?=some cs[j]:=by simp[hj]
    simp only[hv,Option.getD_some];exact hd.2 j x _ hx hv
   |succ i=>exact q6 i row j x (by simpa using hr) hx
theorem Yau{S:List TypeId}(hS:S.all (tyOk P S)=true):∀(fuel:Nat) (t:TypeId),t∈S→Fine enc P w base spare held fuel t
 |0,t,_=>by
  rintro cs d ⟨ps,h⟩;simp[DataW.trod] at h
 |fuel+1,t,ht=>by
  rintro cs d ⟨ps,h⟩;have hok:=List.all_eq_true.1 hS t ht;have ih:=λt ht=>Yau hS fuel t ht;unfold tyOk at hok;unfold DataW.trod at h;split at h
  case h_1=>
   rename_i hu;rw[hu] at hok;cases h;exact⟨(YNB hok).symm,_,DL.one (.bool _ _),by unfold Typed; rw[hu]; exact⟨_,rfl,rfl⟩⟩
  case h_2=>
   rename_i hu;rw[hu] at hok;split at h
   ·rename_i hk;obtain⟨rfl,hw⟩:=hk;cases h;exact⟨(YNB hok).symm,_,DL.one (.int _ _ _),by unfold Typed; rw[hu]; exact⟨_,rfl,hw,rfl⟩⟩
   ·cases h
  case h_4=>
   rename_i hu;rw[hu] at hok;split at h
   ·cases h;exact⟨(YNB hok).symm,_,DL.one (.str _ _),by unfold Typed; rw[hu]; exact⟨_,rfl,rfl⟩⟩
   ·cases h
  case h_7=>
   rename_i e hu;rw[hu] at hok;simp only[Bool.and_eq_true] at hok;cases h;refine⟨(YNB hok.1).symm,_,DL.one (Den.nils_rsl (P.cellsOf e) (.nils _)),?_⟩;unfold Typed; rw[hu]; exact⟨[],rfl,.inl ⟨rfl,rfl⟩⟩
  case h_8=>
   rename_i e a len cap hu;rw[hu] at hok;simp only[Bool.and_eq_true] at hok;obtain⟨k1,k2,k3⟩:=hok;have hpos:0<P.cellsOf e:=YNL k2;simp only at h;split at h
   ·rename_i hc;obtain⟨els,he,h⟩:=Option.bind_eq_some_iff.1 h;obtain⟨rest,hr,h⟩:=Option.map_eq_some_iff.1 h;cases h;rw[List.range_eq_range'] at he;obtain⟨rows,f,q1,q2,q3,q4,q5,q6⟩:=Zar (ih e (List.contains_iff_mem.1 k3)) hpos (YZ he);refine⟨(YNB k1).symm,[.rsl false false (P.cellsOf e) rows],DL.one ?_,?_⟩
    ·rw[←q1];refine .rsl _ false false (P.cellsOf e) rows (some a) cap a.block a.off f (λh=>by cases h) (λh=>by cases h) (λhne=>?_) (λh=>by cases h) (by rw[q1]; exact hc.2.1) q4 (λi j hi hj=>?_) q6
     ·have hn:len≠0:=λe=>hne (List.length_eq_zero_iff.1 (q1.trans e));have:=q3 hn rfl;cases a; simp at this; subst this; rfl
     ·have:=q5 i j (by omega) hj;rw[Nat.zero_add] at this; exact this
    ·unfold Typed; rw[hu]; exact⟨rows,rfl,.inr ⟨_,_,rfl,q2⟩⟩
   ·cases h
  case h_9=>
   rename_i fs hu;rw[hu] at hok;simp only[Bool.and_eq_true] at hok;obtain⟨k1,k2⟩:=hok;split at h
   ·rename_i hl;obtain⟨xs,hx,h⟩:=Option.map_eq_some_iff.1 h;cases h;cases ht:tiles P 0 fs.toList with
    |none=>rw[ht] at k1; cases k1
    |some n=>
     rw[ht] at k1;have hn:=YNB k1;obtain⟨_,parts,hd,h3⟩:=Y2 ht (by omega) (λg hg=>ih _ (List.contains_iff_mem.1 (List.all_eq_true.1 k2 g hg))) (YZ hx);refine⟨hl,parts.flatten,?_,?_⟩
     ·rw[List.drop_zero,List.take_of_length_le (by omega)] at hd; exact hd
     ·unfold Typed; rw[hu]; exact⟨parts,_,rfl,rfl,h3⟩
   ·cases h
  case h_10=>
   rename_i n e hu;rw[hu] at hok;simp only[Bool.and_eq_true] at hok;obtain⟨k1,k2⟩:=hok;have hn:=YNB k1;split at h
   ·rename_i hl;obtain⟨xs,hx,h⟩:=Option.map_eq_some_iff.1 h;cases h;rw[List.range_eq_range'] at hx;obtain⟨parts,hd,h3,h4⟩:=Xaa (ih e (List.contains_iff_mem.1 k2)) (o:=0) (n:=n) (by rw[Nat.zero_add]; omega) (YZ hx);refine⟨hl,parts.flatten,?_,?_⟩
    ·rw[Nat.zero_mul,List.drop_zero,Nat.zero_add,List.take_of_length_le (by omega)] at hd; exact hd
    ·unfold Typed; rw[hu]; exact⟨parts,_,rfl,rfl,h3,h4⟩
   ·cases h
  all_goals first|(rename_i hu; rw[hu] at hok; exact absurd (show false=true from hok) (by decide))|cases h
end
end Go.Ah
end
section
namespace Go.Ah.Tz
@[reducible] def iv(n:Int):AVal:=.int .i64 n
def cel(n:Int):List AVal:=[iv n]
@[reducible] def rowV(l:List Int):AVal:=.rsl false false 1 (l.map cel)
theorem QP{n:Nat}(h:(n:Int)<4611686018427387904):IntKind.i64.wrap ((n:Int)+1)=((n+1:Nat):Int):=by
 rw[IntWalk.i64_in _ (by omega)]; simp
theorem Yai{α:Type}{f:α→List AVal}{l:List α}{m:Nat→Option Nat}(h:∀x,(f x).map (AVal.ren m)=f x):(l.map f).map (λr=>r.map (AVal.ren m))=l.map f:=by
 rw[List.map_map]; apply List.map_congr_left; intro x _; exact h x
theorem Zbo(m:Nat→Option Nat)(x:Int):(cel x).map (AVal.ren m)=cel x:=rfl
theorem Xbi(m:Nat→Option Nat)(l:List Int):(ABlk.rows 1 (l.map cel)).mapV (AVal.ren m)=.rows 1 (l.map cel):=by
 simp only[ABlk.mapV,Yai (Zbo m)]
theorem ld{σ:List ABlk}{b j n:Nat}{agg:Bool}{row:List AVal}{v:AVal}(hb:hget σ b=.box row)(hv:partA agg j n row=some v):Xb agg n [.bptr b j] σ=.ok v [b] []:=by
 rw[Qbd,hb]; simp only[hv]
theorem stv{σ:List ABlk}{b j n:Nat}{x:AVal}{cs row row':List AVal}(hb:hget σ b=.box row)(hc:cellsOf x=some cs)(hn:Nat.beq cs.length n=true)(hs:splice j cs row=some row'):Xa n [.bptr b j,x] σ=.ok .junk [] [(b,.box row')]:=by
 rw[XaY,hb]; simp only[hc,hn,cond_true,hs]
theorem wrapI{n:Int}(h1:-9223372036854775808≤n)(h2:n≤9223372036854775807):IntKind.i64.wrap n=n:=IntWalk.i64_in _ ⟨h1,h2⟩
theorem ldr{σ:List ABlk}{j n:Nat}{agg:Bool}{row:List AVal}{v:AVal}(hv:partA agg j n row=some v):Xb agg n [.rptr row j] σ=.ok v [] []:=by
 rw[Zbe,hv]
theorem Ybr{f:(List AVal→List ABlk→Prop)→Prop}{k:List AVal→List ABlk→Prop}(h:f k):joinK f k:=by unfold joinK; exact h
theorem Xaj{f:(List AVal→List ABlk→Prop)→Prop}{k:List AVal→List ABlk→Prop}(h:∀k',k'=k→f k'):joinK f k:=Ybr (h k rfl)
theorem NCall.case1{P:Program}{GL:Globs}{f:FuncId}{e:Bool}{sz:Nat}{v:AVal}{bs:List ABlk}(h1:NCall P GL f [.nils] v bs)(h2:NCall P GL f [.rsl e true sz []] v bs):NCall P GL f [.rsl e false sz []] v bs:=by
 intro w M vs hM hg hx
 match vs,hx with
 |[u],⟨hu,_⟩=>
  have hu':Den M noOwn (.rsl e false sz []) u:=hu;cases hu' with
  |rsl _ _ _ _ _ a cap blk off f q1 q2 q3 q4 q5 q6 q7 q8=>
   cases a with
   |none=>
    have:=q4 rfl;subst this;exact h1 w M _ hM hg ⟨.nils _,trivial⟩
   |some p=>exact h2 w M _ hM hg ⟨.rsl _ e true sz [] (some p) cap blk off f q1 (λ_=>rfl) q3 q4 q5 q6 q7 q8,trivial⟩
def RI(σ:List ABlk)(rd:List Nat)(v:AVal)(l:List Int):Prop:=Bor (hp σ) rd v (rowV l)
theorem Zbt:∀ {l:List Int},∀r∈l.map cel,roL r=true:=by
 intro l r hr;obtain⟨x,_,rfl⟩:=List.mem_map.1 hr; rfl
theorem RI.own{σ:List ABlk}{rd:List Nat}{b:Nat}{ex:Bool}{l:List Int}{n:Nat}(hb:hget σ b=.rows 1 (l.map cel))(hin:b∈rd)(hn:n=l.length):RI σ rd (.sl b 0 n ex) l:=
 Bor.own hb hin (by simp[hn]) (QaW _ _ (by simp[hn])) Zbt
theorem ldp{σ:List ABlk}{b i j n sz:Nat}{agg:Bool}{rs:List (List AVal)}{row:List AVal}{v:AVal}(hb:hget σ b=.rows sz rs)(hi:rs[i]?=some row)(hv:partA agg j n row=some v):Xb agg n [.ptr b i j] σ=.ok v [b] []:=by
 show (match hget σ b with
   |.rows _ rs=>match nth rs i with
    |some row=>match partA agg j n row with
     |some v=>SRes.ok v [b] []
     |none=>.stop
    |none=>.stop
   | _=>.stop)=_
 rw[hb];simp only[ZD,hi,hv]
theorem XaE{σ:List ABlk}{b m:Nat}{L:List Int}(hb:hget σ b=.rows 1 (L.map cel))(hm:m<L.length)(x:Int):Xa 1 [.ptr b m 0,iv x] σ=.ok .junk [] [(b,.rows 1 ((L.set m x).map cel))]:=by
 have hl:m<(L.map cel).length:=by simpa using hm
 have h1:nth (L.map cel) m=some (cel L[m]):=by rw[ZD,List.getElem?_map,List.getElem?_eq_getElem hm]; rfl
 have h2:Yn m [iv x] (L.map cel)=some ((L.set m x).map cel):=by
  rw[Xba hl,List.map_set]; rfl
 show (match hget σ b with
   |.rows sz rs=>match nth rs m with
    |some row=>match cellsOf (iv x) with
     | some cs=>bif Nat.beq cs.length 1 then (match splice 0 cs row with
      |some row'=>match Yn m row' rs with
       |some rs'=>SRes.ok .junk [] [(b,.rows sz rs')]
       |none=>.stop
      | none=>.stop) else .stop
     |none=>.stop
    |none=>.stop
   | _=>.stop)=_
 rw[hb];simp only[h1];show (match Yn m [iv x] (L.map cel) with
  |some rs'=>SRes.ok .junk [] [(b,.rows 1 rs')]
  | none=>.stop)=_
 rw[h2]
theorem Ybv{ib:Bool}{σ:List ABlk}{a:Int}{n:Nat}(h:0<n):Yi .rem ib [iv a,iv (n:Int)] σ=.ok (iv (a.tmod n)) [] []:=by
 have h0:Nat.beq n 0=false:=by
  cases e:Nat.beq n 0 with
  |false=>rfl
  |true=>have:=YNB e; omega
 have e:binX .rem .i64 .i64 a (Int.ofNat n)=(bif Nat.beq n 0 then none else bif ikEq .i64 .i64 then some (.int .i64 (a.tmod (.ofNat n))) else none):=rfl;show (match binX .rem .i64 .i64 a (Int.ofNat n) with
  |some v=>SRes.ok v [] []
  | none=>.stop)=_
 rw[e,h0]; rfl
theorem Xbr{n:Nat}(h:0<n)(hn:n≤2000000000)(a:Int):∃j:Nat,j<n∧(IntKind.i64.wrap (a.tmod n+n)).tmod n=(j:Int):=by
 have h1:=Int.tmod_lt_of_pos a (b:=(n:Int)) (by omega);have h2:=Int.lt_tmod_of_pos a (b:=(n:Int)) (by omega);rw[wrapI (by omega) (by omega)];have h3:=Int.tmod_nonneg (a:=a.tmod n+n) n (by omega);have h4:=Int.tmod_lt_of_pos (a.tmod n+n) (b:=(n:Int)) (by omega);exact⟨((a.tmod n+n).tmod n).toNat,by omega,by omega⟩
theorem ZaR(L:List Int)(i j:Nat)(hi:i<L.length)(hj:j<L.length)(x:Int):((L.set i L[j]).set j L[i]).count x=L.count x:=by
 have hj':j<(L.set i L[j]).length:=by simpa using hj
 rw[List.count_set hj',List.count_set hi];have h1:(L.set i L[j])[j]=L[j]:=by
  rw[List.getElem_set]; split<;>simp_all
 rw[h1];have p1:(if (L[i]==x)=true then 1 else 0)≤L.count x:=by
  split
  ·rename_i h;have:L[i]=x:=by simpa using h
   exact List.one_le_count_iff.2 (this▸List.getElem_mem hi)
  ·exact Nat.zero_le _
 by_cases e1:L[i]==x<;>by_cases e2:L[j]==x<;>simp only[e1,e2,if_true,if_false,Bool.false_eq_true] at p1 ⊢ <;> omega
def SameCt(L D:List Int):Prop:=L.length=D.length∧∀x,L.count x=D.count x
theorem SameCt.swap{L D:List Int}(h:SameCt L D){i j:Nat}(hi:i<L.length)(hj:j<L.length):SameCt ((L.set i L[j]).set j L[i]) D:=
 ⟨by simpa using h.1,λx=>by rw[ZaR L i j hi hj,h.2]⟩
theorem Zaf(l:List Int)(j:Nat)(h:j<l.length)(x:Int):(l.take (j+1)).count x=(l.take j).count x+(if l[j]==x then 1 else 0):=by
 rw[List.take_succ_eq_append_getElem h,List.count_append,List.count_singleton]
end Go.Ah.Tz
end
section
namespace Go.Ah.Tz
open Go.Proofs.Tryz (prog)
theorem hP:prog.follows .mixedOrders=true:=by kernel_rfl
end Go.Ah.Tz
end
section
namespace Go.Ah.Tz
open Go.Proofs.Tryz (prog)
set_option maxRecDepth 100000
abbrev GQ(f:FuncId)(n:Nat)(g:GFun):Prop:=GOk prog GL0 f n g
abbrev PC(f:FuncId)(xs:List AVal)(v:AVal):Prop:=PCall prog GL0 f xs v
noncomputable abbrev VV:Ans Prop:=W prog GL0
def g3:GFun:=λA xs d h=>match xs with
 |[x0,x1,x2]=>
 A.r Zc x0 d λu=>A.b .gtr u (jv 300) d λi=>A.fr i Qe x1 d λv=>A.fr i Zc v d λw=>A.fb i .gtr w (jv 300) d λy=>A.c i (.bool true) y d λz=>
 A.test z (A.k 4 [] d λt6 d=>h t6 d) (A.k 5 [x0,x1,x2] d λn d=>A.r (Zb 0) n d λo=>A.r (Zb 1) n d λl=>A.r Zc o d λa0=>A.r Zc x0 d λa1=>
 A.b .neq a0 a1 d λm=>A.fr m Qe l d λa2=>A.fb m .lss a2 (jv 0) d λa3=>A.c m (.bool true) a3 d λf=>A.fr f Qe l d λa4=>A.fb f .gtr a4 (jv 0) d λa5=>
 A.fr f Qe a5 d λg=>A.tr g Qe l d λa6=>A.tr g Qe x1 d λa7=>A.tr g Zc a7 d λa8=>A.tb g .geq a6 a8 d λa9=>A.fc f g a9 (.bool false) d λb0=>
 A.c f (.bool true) b0 d λb1=>A.test b1 (h (.bool false) d) (A.loop (λb2 j d=>A.r Zc x0 d λb3=>A.b .lss (h0 j) b3 d λb4=>A.test b4 (A.loop (λb5 e d=>
 A.r Zc x0 d λb6=>A.b .lss (h0 e) b6 d λb7=>A.test b7 (joinK (λp=>A.s (Qa 1) x0 (h0 e) d λb8=>A.a b8 d λb9=>A.s (Qa 1) x0 (h0 j) d λc0=>
 A.a c0 d λc1=>A.b .eql b9 c1 d λc2=>joinK (λq=>A.test c2 (A.b .add (h1 e) (jv 1) d λc3=>q [c3] d) (q [(h1 e)] d)) (λt d=>A.s (Qa 1) o (h0 e) d λc4=>
 A.a c4 d λc5=>A.s (Qa 1) x0 (h0 j) d λc6=>A.a c6 d λc7=>A.b .eql c5 c7 d λc8=>A.test c8 (A.b .sub (h0 t) (jv 1) d λc9=>p [c9] d) (p [(h0 t)] d))) (λd0 d=>
 A.b .add (h0 e) (jv 1) d λd1=>b5 [d1,(h0 d0)] d)) (A.b .neq (h1 e) (jv 0) d λd2=>A.test d2 (h (.bool false) d) (A.b .add (h0 j) (jv 1) d λd3=>b2 [d3] d))) [jv 0,jv 0] d) (
 A.k 4 [] d λd4 d=>h d4 d)) [jv 0] d))
 |_=>A.stop
theorem g3_ok:GQ 3 3 g3:=gq3 [none,none,none,some [9],none,none,none,some [11,10],none,some [10],some [10],none,none] λ_ _ _ _ _ _ _=>by kernel_rfl
def g4:GFun:=λA xs a a0=>match xs with
 |[]=>
 A.wr (Xf 1 3 zq6 [(0,1),(1,1),(2,1)] [jv 1,jv 2,jv 3] a) a λt0 a=>A.wr (Xf 1 2 [jv 0,jv 0] [(0,1),(1,1)] [jv 0,jv 1] a) a λt1 a=>
 A.k 5 [t0,t1,jv 0] a λt2 a=>A.r (Zb 0) t2 a λl=>A.r (Zb 1) t2 a λt4=>A.k 7 [] a λt5 a=>A.rd (Qb [.nils,.nils] [] [] a) λt6=>
 A.k 6 [t5,t6,.nils] a λp a=>A.r (Zb 0) p a λt8=>A.r (Zb 1) p a λt9=>A.r (Zb 2) p a λa1=>A.wr (Yc zq0 [] a) a λq a=>
 A.ws (Xa 23) q t8 a λ_ a=>A.k 7 [] a λa2 a=>A.k 8 [] a λa3 a=>A.wr (Xf 1 3 zq6 [(0,1),(1,1),(2,1)] [jv 3,jv 1,jv 4] a) a λa4 a=>
 A.k 6 [a2,a3,a4] a λs a=>A.r (Zb 0) s a λa5=>A.r (Zb 1) s a λg8=>A.r (Zb 2) s a λa6=>A.wr (Yc zq0 [] a) a λm a=>
 A.ws (Xa 23) m a5 a λ_ a=>A.dcall (.call 7) [] a λa7 a8 a=>A.dr (Xb true 23 [m] a) a λa9 b0 a=>A.pu (Qb [.int .i8 0,jv 0,jv 0,jv 0,.nils,.nils] [(0,1),(3,1)] [.int .i8 4,jv (-1)] a) λb1=>
 A.dcall (.call 9) [a7,a9,b1] a λt b2 a=>A.pu (Zb 0 [t] a) λb3=>A.pu (Zb 1 [t] a) λg9=>A.pu (Zb 2 [t] a) λb4=>A.dr (Yc zq0 [] a) a λu b5 a=>
 A.dr (Xa 23 [u,b3] a) a λ_ b6 a=>A.gd (Qd [[],[],[],[0,1,2],[0,1,2,3],[0,1,2,3,4],[0,1,2,3,4],[0,1,2,3,4],[],[0,1,2,3,4,5,8],[0,1,2,3,4,5,6,8,9],[0,1,2,3,4,5,6,7,8,9,10]] [a8,b0,([],[]),b2,([],[]),([],[]),([],[]),([],[]),b5,b6,([],[]),([],[])]) <|
 A.r Zc l a λb7=>A.b .eql b7 (jv 3) a λh=>A.tr h Qe l a λb8=>A.ts h (Qa 1) b8 (jv 0) a λb9=>A.ta h b9 a λc0=>A.tb h .eql c0 (jv 3) a λc1=>
 A.c h c1 (.bool false) a λi=>A.tr i Qe l a λc2=>A.ts i (Qa 1) c2 (jv 1) a λc3=>A.ta i c3 a λc4=>A.tb i .eql c4 (jv 2) a λc5=>A.c i c5 (.bool false) a λj=>
 A.tr j Qe l a λc6=>A.ts j (Qa 1) c6 (jv 2) a λc7=>A.ta j c7 a λc8=>A.tb j .eql c8 (jv 1) a λc9=>A.c j c9 (.bool false) a λv=>A.tr v Qe t4 a λd0=>
 A.tb v .eql d0 (jv 0) a λd1=>A.c v d1 (.bool false) a λw=>A.tr w Qe a1 a λd2=>A.tb w .eql d2 (jv 0) a λd3=>A.c w d3 (.bool false) a λf=>A.tr f (Za 7) q a λd4=>
 A.ts f (Xc 2 8) d4 (jv 0) a λd5=>A.tr f (Za 0) d5 a λd6=>A.ta f d6 a λd7=>A.tb f .eql d7 (jv 19) a λd8=>A.c f d8 (.bool false) a λg=>
 A.tr g (Za 7) q a λd9=>A.ts g (Xc 2 8) d9 (jv 0) a λe0=>A.tr g (Za 1) e0 a λe1=>A.ta g e1 a λe2=>A.tb g .eql e2 (jv 1) a λe3=>
 A.c g e3 (.bool false) a λy=>A.tr y Qe a6 a λe4=>A.tb y .eql e4 (jv 0) a λe5=>A.c y e5 (.bool false) a λd=>A.tr d (Za 7) m a λe6=>
 A.ts d (Xc 2 8) e6 (jv 0) a λe7=>A.tr d (Za 4) e7 a λe8=>A.ta d e8 a λe9=>A.tr d Zc e9 a λf0=>A.tb d .eql f0 (jv 5) a λf1=>
 A.c d f1 (.bool false) a λe=>A.tr e (Za 7) m a λf2=>A.ts e (Xc 2 8) f2 (jv 1) a λf3=>A.tr e (Za 4) f3 a λf4=>A.ta e f4 a λf5=>
 A.tr e Zc f5 a λf6=>A.tb e .eql f6 (jv 4) a λf7=>A.c e f7 (.bool false) a λz=>A.tr z Qe b4 a λf8=>A.tb z .eql f8 (jv 0) a λf9=>A.c z f9 (.bool false) a λn=>
 A.tr n (Za 2) u a λg0=>A.ta n g0 a λg1=>A.tb n .eql g1 (.int .i8 2) a λg2=>A.c n g2 (.bool false) a λo=>A.tr o (Za 4) u a λg3=>
 A.ta o g3 a λg5=>A.tb o .eql g5 (.int .i8 2) a λg6=>A.c o g6 (.bool false) a λg7=>a0 g7 a
 |_=>A.stop
theorem g4_ok:GQ 4 0 g4:=gq0 [] λ_ _ _ _=>by kernel_rfl
def g5:GFun:=λA xs c i=>match xs with
 |[x0,x1,x2]=>
 A.wr (Yc [jv 0] [] c) c λf c=>A.ws (Xa 1) f (jv 0) c λ_ c=>A.r Zc x1 c λj=>A.b .gtr j (jv 0) c λl=>joinK (λg=>A.test l (A.r Zc x1 c λm=>
 A.k 10 [x2,m] c λn c=>A.ws (Xa 1) f n c λ_ c=>g [] c) (g [] c)) (λv4 c=>A.k 11 [x1,f] c λo c=>A.k 12 [x0] c λd c=>A.r Zc d c λp=>
 A.b .sub p (jv 1) c λq=>A.loop (λs e c=>A.b .gtr (h0 e) (jv 0) c λt=>A.test t (A.call .callv [o] c λu c=>A.b .add (h0 e) (jv 1) c λv=>A.k 10 [u,v] c λh c=>
 A.dr (Qa 1 [d,h] c) c λw y c=>A.dr (Xd [w] c) c λz a0 c=>A.dr (Qa 1 [d,(h0 e)] c) c λa1 a2 c=>A.dr (Xd [a1] c) c λa3 a4 c=>
 A.dr (Qa 1 [d,(h0 e)] c) c λa5 a6 c=>A.dr (Xa 1 [a5,z] c) c λ_ a7 c=>A.dr (Qa 1 [d,h] c) c λa8 a9 c=>A.dr (Xa 1 [a8,a3] c) c λ_ b0 c=>
 A.gd (Qd [[],[],[],[],[],[],[4,5],[4,5,6],[],[],[8,9],[8,9,10],[0,1,4,5,6,7,8,9,10,11],[0,1,4,5,6,7,8,9,10,11,12],[0,1,2,3,4,5,6,7,8,9,10,11,12,13],[0,1,2,3,4,5,6,7,8,9,10,11,12,13,14]] [([],[]),([],[]),([],[]),([],[]),([],[]),([],[]),y,a0,([],[]),([],[]),a2,a4,a6,a7,a9,b0]) <|
 A.b .sub (h0 e) (jv 1) c λb1=>s [b1] c) (A.a f c λb2=>i (.tup [d,b2]) c)) [q] c)
 |_=>A.stop
theorem g5_ok:GQ 5 3 g5:=gq3 [some [],none,some [11],none,none] λ_ _ _ _ _ _ _=>by kernel_rfl
def g6:GFun:=λA xs d f=>match xs with
 |[x0,x1,x2]=>
 A.w1 Xg x0 d λn d=>A.w1 Xg x1 d λi d=>A.wr (Yc zq0 [] d) d λe d=>A.r (Xb true 2) n d λu=>A.k 13 [u] d λv d=>A.r (Q5 false 0 1) v d λw=>
 A.b .neq w (jv 0) d λy=>A.test y (A.rd (Qb zq0 [] [] d) λz=>A.ws (Xa 23) e z d λ_ d=>A.opt (cellV true 23 e d) λr8=>f (.tup [r8,.nils,jv 170]) d) (
 A.r (Xb true 2) i d λt9=>A.loop (λa0 o d=>A.b .lss (h0 o) (jv 2) d λa1=>A.test a1 (A.s (Yw false 2 1) t9 (h0 o) d λa2=>A.r (Xe (.func 15) 0) n d λa3=>
 A.k 14 [a2,a3] d λa4 d=>A.test a4 (A.rd (Qb zq0 [] [] d) λa5=>A.ws (Xa 23) e a5 d λ_ d=>A.opt (cellV true 23 e d) λr17=>f (.tup [r17,.nils,jv 2]) d) (
 A.b .add (h0 o) (jv 1) d λa6=>a0 [a6] d)) (A.s (Xc 2 1) i (jv 0) d λa7=>A.a a7 d λa8=>A.r Zc a8 d λa9=>A.s (Xc 2 1) i (jv 1) d λb0=>
 A.a b0 d λb1=>A.r Zc b1 d λb2=>A.s Z6 a9 b2 d λb3=>A.b .gtr b3 (jv 60) d λj=>A.fr j Qe x2 d λb4=>A.fr j Zc b4 d λb5=>A.fb j .gtr b5 (jv 256) d λb6=>
 A.c j (.bool true) b6 d λb7=>A.test b7 (A.rd (Qb zq0 [] [] d) λb8=>A.ws (Xa 23) e b8 d λ_ d=>A.opt (cellV true 23 e d) λr32=>f (.tup [r32,.nils,jv 3]) d) (
 A.rd (Qb zq0 [(0,1),(6,1)] [jv 1,jv 1] d) λb9=>A.wr (Yc zq0 [] d) d λg d=>A.ws (Xa 23) g b9 d λ_ d=>A.r (Xb true 2) i d λc0=>
 A.loop (λc1 h d=>A.b .lss (h0 h) (jv 2) d λc2=>A.test c2 (A.s (Yw false 2 1) c0 (h0 h) d λc3=>A.k 5 [c3,x2,(h1 h)] d λq d=>A.r (Zb 0) q d λl=>
 A.r (Zb 1) q d λc4=>A.r Zc l d λc5=>A.s XV (jv 4) c5 d λp=>A.dr (Yz 1 [l,p] d) d λc6 c7 d=>A.dr (Yx 1 [l,p] d) d λc8 c9 d=>
 A.dcall (.call 12) [c8] d λd0 d1 d=>A.dr (Yx 1 [l,p] d) d λd2 d3 d=>A.dcall (.call 12) [d2] d λd4 d5 d=>A.pu (Qb [jv 0,jv 0,jv 0,.nils,.nils,.nils,.nils,.nils] [(0,1),(3,1),(4,1),(7,1)] [jv 20,c6,d0,d4] d) λd6=>
 A.pu (Za 7 [g] d) λd7=>A.pu (Xc 2 8 [d7,(h0 h)] d) λd8=>A.dr (Xa 8 [d8,d6] d) d λ_ d9 d=>A.gd (Qd [[],[],[],[1,2],[],[],[4,5],[4,5,6],[],[],[8,9],[4,5,6,7,8,9,10],[1,2,3,4,5,6,7,8,9,10,11],[],[0,1,2,3,4,5,6,7,8,9,10,11,12,13],[0,1,2,3,4,5,6,7,8,9,10,11,12,13,14]] [([],[]),([],[]),([],[]),c7,([],[]),([],[]),c9,d1,([],[]),([],[]),d3,d5,([],[]),([],[]),([],[]),d9]) <|
 A.b .add (h0 h) (jv 1) d λe0=>c1 [e0,c4] d) (A.r (Xb true 2) n d λe1=>A.r (Xb true 23) g d λe2=>A.k 16 [e1,e2,jv 1000] d λm d=>A.r (Zb 0) m d λe3=>
 A.r (Zb 1) m d λe4=>A.r (Zb 2) m d λe8=>A.r (Zb 3) m d λt=>A.ws (Xa 23) g e3 d λ_ d=>A.b .neq t (jv 0) d λe5=>A.test e5 (
 A.rd (Qb zq0 [] [] d) λe6=>A.ws (Xa 23) e e6 d λ_ d=>A.opt (cellV true 23 e d) λr69=>f (.tup [r69,.nils,t]) d) (A.r (Xb true 23) g d λe7=>
 A.ws (Xa 23) e e7 d λ_ d=>A.opt (cellV true 23 e d) λr71=>f (.tup [r71,e4,jv 0]) d))) [jv 0,jv 0] d))) [jv 0] d)
 |_=>A.stop
theorem g6_ok:GQ 6 3 g6:=gq3 [none,none,some [25],none,none,none,none,none,some [49,12],none,none,none] λ_ _ _ _ _ _ _=>by kernel_rfl
def g7:GFun:=λA xs a c=>match xs with
 |[]=>
 A.wr (Yc [.nils,.nils] [] a) a λb a=>A.rd (Qb [.str [],.bool false,jv 0,jv 0,jv 0,jv 0,jv 0,jv 0,.nils,.nils,.nils,jv 0] [(0,1),(1,1),(2,1),(3,1),(4,1),(5,1)] [(.str [73,109,112]),.bool true,jv 1,jv 2,jv 3,jv 1] a) λd=>
 A.rd (Qb [.str [],.bool false,jv 0,jv 0,jv 0,jv 0,jv 0,jv 0,.nils,.nils,.nils,jv 0] [(0,1),(1,1),(2,1),(3,1),(4,1),(6,1)] [(.str [69,108,102]),.bool true,jv 2,jv 1,jv 1,jv 1] a) λe=>
 A.rd (Qb zq5 [(1,1)] [jv 3] a) λf=>A.rd (Qb [.int .i8 0,.int .i8 0,.int .i8 0,jv 0,.int .i8 0,.nils,.str [],.int .i8 0,.int .i8 0,.str [],.nils,.nils,.nils,.nils] [(0,1),(1,1),(2,4)] [.int .i8 0,.int .i8 2,f] a) λg=>
 A.wr (Xf 14 1 [.int .i8 0,.int .i8 0,.int .i8 0,jv 0,.int .i8 0,.nils,.str [],.int .i8 0,.int .i8 0,.str [],.nils,.nils,.nils,.nils] [(0,14)] [g] a) a λh a=>
 A.rd (Qb [.str [],.bool false,jv 0,jv 0,jv 0,jv 0,jv 0,jv 0,.nils,.nils,.nils,jv 0] [(0,1),(2,1),(8,1)] [(.str [66,111,108,116]),jv 1,h] a) λi=>
 A.wr (Xf 12 3 [.str [],.bool false,jv 0,jv 0,jv 0,jv 0,jv 0,jv 0,.nils,.nils,.nils,jv 0,.str [],.bool false,jv 0,jv 0,jv 0,jv 0,jv 0,jv 0,.nils,.nils,.nils,jv 0,.str [],.bool false,jv 0,jv 0,jv 0,jv 0,jv 0,jv 0,.nils,.nils,.nils,jv 0] [(0,12),(12,12),(24,12)] [d,e,i] a) a λj a=>
 A.rd (Qb [.str [],jv 0,jv 0,jv 0,.nils,.nils,jv 0] [(0,1),(2,1),(3,1)] [(.str [115,116,100]),jv 60,jv 60] a) λl=>A.wr (Xf 7 1 [.str [],jv 0,jv 0,jv 0,.nils,.nils,jv 0] [(0,7)] [l] a) a λm a=>
 A.rd (Qb [.nils,.nils] [(0,1),(1,1)] [j,m] a) λn=>A.ws (Xa 2) b n a λ_ a=>A.opt (cellV true 2 b a) λr11=>c r11 a
 |_=>A.stop
theorem g7_ok:GQ 7 0 g7:=gq0 [] λ_ _ _ _=>by kernel_rfl
def g8:GFun:=λA xs a c=>match xs with
 |[]=>
 A.wr (Yc [.nils,.nils] [] a) a λb a=>A.wr (Xf 1 6 [jv 0,jv 0,jv 0,jv 0,jv 0,jv 0] [(0,1),(1,1),(2,1),(3,1),(4,1),(5,1)] [jv 0,jv 1,jv 2,jv 0,jv 1,jv 2] a) a λd a=>
 A.wr (Xf 1 4 [jv 0,jv 0,jv 0,jv 0] [(0,1),(1,1),(2,1),(3,1)] [jv 2,jv 1,jv 0,jv 0] a) a λe a=>A.rd (Qb [.nils,.nils] [(0,1),(1,1)] [d,e] a) λf=>
 A.ws (Xa 2) b f a λ_ a=>A.opt (cellV true 2 b a) λr4=>c r4 a
 |_=>A.stop
theorem g8_ok:GQ 8 0 g8:=gq0 [] λ_ _ _ _=>by kernel_rfl
def g9:GFun:=λA xs c f=>match xs with
 |[x0,x1,x2]=>
 A.w1 Xg x0 c λh c=>A.w1 Xg x1 c λi c=>A.w1 Xg x2 c λg c=>A.wr (Yc zq0 [] c) c λe c=>A.r (Xb true 2) h c λn=>A.r (Xb true 23) i c λo=>
 A.r (Xb true 6) g c λp=>A.k 17 [n,o,p] c λj c=>A.b .neq j (jv 0) c λq=>A.test q (A.rd (Qb zq0 [] [] c) λt=>A.ws (Xa 23) e t c λ_ c=>
 A.opt (cellV true 23 e c) λr10=>f (.tup [r10,.nils,j]) c) (A.dr (Xb true 2 [h] c) c λu v c=>A.dr (Xb true 23 [i] c) c λw y c=>A.dcall (.call 18) [w] c λz a0 c=>
 A.dr (Xb true 6 [g] c) c λa1 a2 c=>A.pu (Qb [.nils,.nils,jv 0,jv 0,.int .i8 0,.bool false,.int .i8 0,.nils,jv 0,jv 0,jv 0,jv 0,.nils,.nils,.nils,.nils,.nils,jv 0,jv 0,jv 0,.nils,.nils,.nils,.nils,.nils,.int .i8 0,jv 0,jv 0,jv 0,.nils,.nils,.nils,jv 0] [(0,2),(2,23),(25,6),(32,1)] [u,z,a1,jv 1000] c) λa3=>
 A.dr (Xg [a3] c) c λd a4 c=>A.gd (Qd [[],[],[1],[],[0,1,2,3],[0,1,2,3,4],[0,1,2,3,4,5]] [v,y,a0,a2,([],[]),a4,([],[])]) <|
 A.pu (Ya [d] c) λa5=>A.pu (Za 2 [a5] c) λa6=>A.pu (Za 7 [a6] c) λa7=>A.pu (Xc 2 8 [a7,jv 0] c) λa8=>A.pu (Za 7 [a8] c) λa9=>
 A.dr (Xa 1 [a9,.nils] c) c λ_ b0 c=>A.pu (Ya [d] c) λb1=>A.pu (Za 2 [b1] c) λb2=>A.pu (Za 7 [b2] c) λb3=>A.pu (Xc 2 8 [b3,jv 1] c) λb4=>
 A.pu (Za 7 [b4] c) λb5=>A.dr (Xa 1 [b5,.nils] c) c λ_ b6 c=>A.gd (Qd [[],[],[0],[0,2],[0,2,3],[0,2,3,4],[0,2,3,4,5],[0,2,3,4,5,6],[1],[1,8],[1,8,9],[0,1,2,3,4,5,6,7,8,9,10],[0,1,2,3,4,5,6,7,8,9,10,11],[0,1,2,3,4,5,6,7,8,9,10,11,12]] [([],[]),([],[]),([],[]),([],[]),([],[]),([],[]),([],[]),b0,([],[]),([],[]),([],[]),([],[]),([],[]),b6]) <|
 A.r (Xe (.func 19) 1) d c λb7=>A.r (Xe (.func 20) 1) d c λb8=>A.r (Xe (.func 21) 1) d c λb9=>A.r (Xe (.func 22) 1) d c λc0=>
 A.r (Xe (.func 23) 1) d c λc1=>A.rd (Qb [.nilf,.nilf,.nilf,.nilf,.nilf] [(0,1),(1,1),(2,1),(3,1),(4,1)] [b7,b8,b9,c0,c1] c) λc2=>
 A.wr (Yc [.nilf,.nilf,.nilf,.nilf,.nilf] [] c) c λl c=>A.ws (Xa 5) l c2 c λ_ c=>A.r (Za 0) g c λc3=>A.a c3 c λc4=>A.s (Xc 5 1) l c4 c λc5=>
 A.a c5 c λc6=>A.call .callv [c6] c λm c=>A.b .neq m (jv 0) c λc7=>A.test c7 (A.rd (Qb zq0 [] [] c) λc8=>A.ws (Xa 23) e c8 c λ_ c=>
 A.opt (cellV true 23 e c) λr48=>f (.tup [r48,.nils,m]) c) (A.pu (Ya [d] c) λc9=>A.pu (Za 2 [c9] c) λd0=>A.dr (Xb true 23 [d0] c) c λd1 d2 c=>
 A.pu (Ya [d] c) λd3=>A.pu (Za 31 [d3] c) λd4=>A.dr (Xd [d4] c) c λd5 d6 c=>A.dr (Xa 23 [e,d1] c) c λ_ d7 c=>A.gd (Qd [[],[0],[0,1],[0,1,2],[],[4],[4,5],[4,5,6],[0,1,2,3],[0,1,2,3,4,5,6,7,8],[0,1,2,3,4,5,6,7,8,9]] [([],[]),([],[]),([],[]),d2,([],[]),([],[]),([],[]),d6,d7,([],[]),([],[])]) <|
 A.opt (cellV true 23 e c) λr58=>f (.tup [r58,d5,jv 0]) c))
 |_=>A.stop
theorem g9_ok:GQ 9 3 g9:=gq3 [none,none] λ_ _ _ _ _ _ _=>by kernel_rfl
def g10:GFun:=λA xs a c=>match xs with
 |[x0,x1]=>
 A.b .rem x0 x1 a λd=>A.b .add d x1 a λe=>A.b .rem e x1 a λf=>c f a
 |_=>A.stop
theorem g10_ok:GQ 10 2 g10:=gq2 [] λ_ _ _ _ _ _=>by kernel_rfl
def g11:GFun:=λA xs a b=>match xs with
 |[x0,x1]=>
 A.w1 Xg x0 a λc a=>A.w1 Xg x1 a λd a=>A.s (Xe (.func 24) 0) c d a λe=>b e a
 |_=>A.stop
theorem g11_ok:GQ 11 2 g11:=gq2 [] λ_ _ _ _ _ _=>by kernel_rfl
def g12:GFun:=λA xs a b=>match xs with
 |[x0]=>
 A.s (ZL .slice false false) x0 .nils a λc=>A.test c (b .nils a) (A.rd (XO 1 [] a) λd=>A.wr (Zg 1 8 [d,x0] a) a λe a=>b e a)
 |_=>A.stop
theorem g12_ok:GQ 12 1 g12:=gq1 [none] λ_ _ _ _ _=>by kernel_rfl
def g13:GFun:=λA xs c h=>match xs with
 |[x0]=>
 A.w1 Xg x0 c λe c=>A.wr (Yc [jv 0,jv 0] [] c) c λd c=>A.r (Xe (.func 25) 0) e c λi=>A.r (Xe (.func 27) 0) e c λj=>A.r (Xe (.func 29) 0) e c λl=>
 A.rd (Qb [.nilf,.nilf,.nilf] [(0,1),(1,1),(2,1)] [i,j,l] c) λm=>A.loop (λn f c=>A.b .lss (h0 f) (jv 3) c λo=>A.test o (A.s (Yw false 3 1) m (h0 f) c λp=>
 A.call .callv [p] c λq c=>A.wr (Yc [jv 0,jv 0] [] c) c λg c=>A.ws (Xa 2) g q c λ_ c=>A.r (Za 0) g c λt=>A.a t c λu=>
 A.b .neq u (jv 0) c λv=>A.test v (A.r (Xb true 2) g c λw=>A.ws (Xa 2) d w c λ_ c=>A.opt (cellV true 2 d c) λr16=>h r16 c) (A.b .add (h0 f) (jv 1) c λy=>
 n [y] c)) (A.rd (Qb [jv 0,jv 0] [] [] c) λz=>A.ws (Xa 2) d z c λ_ c=>A.opt (cellV true 2 d c) λr19=>h r19 c)) [jv 0] c
 |_=>A.stop
theorem g13_ok:GQ 13 1 g13:=gq1 [none,some [10],none,none,none] λ_ _ _ _ _=>by kernel_rfl
def g14:GFun:=λA xs a c=>match xs with
 |[x0,x1]=>
 A.k 31 [x0,x1] a λd a=>A.b .geq d (jv 0) a λe=>c e a
 |_=>A.stop
theorem g14_ok:GQ 14 2 g14:=gq2 [] λ_ _ _ _ _ _=>by kernel_rfl
def g15:GFun:=λA xs a e=>match xs with
 |[x0,x1]=>
 A.b .lss x0 (jv 0) a λd=>A.fr d Qe x0 a λf=>A.fr d (Za 0) x1 a λg=>A.fa d g a λh=>A.fr d Zc h a λi=>A.fb d .geq f i a λj=>
 A.c d (.bool true) j a λl=>e l a
 |_=>A.stop
theorem g15_ok:GQ 15 2 g15:=gq2 [] λ_ _ _ _ _ _=>by kernel_rfl
def g16:GFun:=λA xs d i=>match xs with
 |[x0,x1,x2]=>
 A.w1 Xg x0 d λj d=>A.w1 Xg x1 d λe d=>A.wr (Yc zq0 [] d) d λf d=>A.s Z6 x2 (jv 0) d λt3=>A.s XV t3 (jv 1000) d λt=>A.r (Za 2) e d λt5=>
 A.a t5 d λt6=>A.b .eql t6 (.int .i8 1) d λm=>A.gw m false (λk=>A.k 32 [j,e] d k) d λt8 d=>A.fr m (Xp .not) t8 d λt9=>A.c m (.bool true) t9 d λa1=>
 A.test a1 (A.rd (Qb zq0 [] [] d) λa2=>A.ws (Xa 23) f a2 d λ_ d=>A.opt (cellV true 23 f d) λr12=>i (.tup [r12,.nils,jv 0,jv 170]) d) (
 A.r (Xb true 23) e d λa3=>A.k 18 [a3] d λa4 d=>A.ws (Xa 23) e a4 d λ_ d=>A.r (Za 2) e d λa5=>A.a a5 d λa6=>A.b .eql a6 (.int .i8 2) d λa7=>
 A.test a7 (A.r (Xb true 23) e d λa8=>A.ws (Xa 23) f a8 d λ_ d=>A.opt (cellV true 23 f d) λr19=>i (.tup [r19,.nils,t,jv 0]) d) (A.r (Za 1) e d λa9=>
 A.a a9 d λb0=>A.r (Za 7) e d λb1=>A.s (Xc 2 8) b1 b0 d λg=>A.r Ya g d λb2=>A.r (Za 2) b2 d λb3=>A.a b3 d λb4=>
 A.b .add b4 (jv 1) d λb5=>A.s XV b5 (jv 10) d λb6=>A.r Ya g d λb7=>A.r (Za 2) b7 d λb8=>A.ws (Xa 1) b8 b6 d λ_ d=>
 A.r Ya g d λb9=>A.r (Za 2) b9 d λc0=>A.a c0 d λc1=>A.r Ya g d λc2=>A.r (Za 1) c2 d λc3=>A.ws (Xa 1) c3 c1 d λ_ d=>
 A.r (Za 3) e d λc4=>A.ws (Xa 1) c4 (.bool false) d λ_ d=>A.r Ya g d λc5=>A.r (Za 6) c5 d λc6=>A.a c6 d λc7=>A.r Zc c7 d λc8=>
 A.loop (λc9 n d=>A.b .lss (h0 n) c8 d λd0=>A.test d0 (A.r Ya g d λd1=>A.r (Za 6) d1 d λd2=>A.a d2 d λd3=>A.s (Qa 4) d3 (h0 n) d λd4=>
 A.r (Za 3) d4 d λd5=>A.ws (Xa 1) d5 (.bool false) d λ_ d=>A.b .add (h0 n) (jv 1) d λd6=>c9 [d6] d) (A.r (Xb true 2) j d λd7=>A.r (Xb true 23) e d λd8=>
 A.r (Za 1) e d λd9=>A.a d9 d λe0=>A.k 33 [d7,d8,e0] d λo d=>A.r (Zb 0) o d λe1=>A.r (Zb 1) o d λe2=>A.r (Zb 2) o d λu=>
 A.wr (Yc zq0 [] d) d λp d=>A.wr (Yc zq1 [] d) d λv d=>A.ws (Xa 23) p e1 d λ_ d=>A.ws (Xa 7) v e2 d λ_ d=>A.b .neq u (jv 0) d λe3=>
 A.test e3 (A.rd (Qb zq0 [] [] d) λe4=>A.ws (Xa 23) f e4 d λ_ d=>A.opt (cellV true 23 f d) λr62=>i (.tup [r62,.nils,jv 0,u]) d) (A.r (Za 1) e d λe5=>
 A.a e5 d λe6=>A.r (Za 7) p d λe7=>A.s (Xc 2 8) e7 e6 d λe8=>A.r (Za 6) e8 d λe9=>A.a e9 d λw=>A.r Zc w d λf0=>
 A.loop (λf1 h d=>A.b .lss (h0 h) f0 d λf2=>A.test f2 (joinK (λy=>A.s (Qa 4) w (h0 h) d λf3=>A.r (Xb true 4) f3 d λf4=>A.wr (Yc zq3 [] d) d λq d=>
 A.ws (Xa 4) q f4 d λ_ d=>A.r (Za 0) j d λf5=>A.a f5 d λf6=>A.r (Za 1) q d λf7=>A.a f7 d λf8=>A.s (Qa 12) f6 f8 d λf9=>
 A.r (Za 10) f9 d λg0=>A.a g0 d λg1=>A.r Zc g1 d λg2=>A.b .gtr g2 (jv 0) d λg3=>A.test g3 (A.r (Za 1) q d λg4=>A.a g4 d λg5=>
 A.r (Za 1) e d λg6=>A.a g6 d λg7=>A.rd (Qb zq2 [(0,1),(1,1),(2,1)] [g5,g7,.bool true] d) λg8=>A.wr (Xf 3 1 zq2 [(0,3)] [g8] d) d λg9 d=>
 A.wr (Zg 3 24 [(h1 h),g9] d) d λi0 d=>y [i0] d) (y [(h1 h)] d)) (λi1 d=>A.b .add (h0 h) (jv 1) d λi2=>f1 [i2,(h0 i1)] d)) (A.r (Xb true 2) j d λi3=>
 A.r (Xb true 23) p d λi4=>A.k 34 [i3,i4,(h1 h),t] d λl d=>A.r (Zb 0) l d λi5=>A.r (Zb 1) l d λi6=>A.r (Zb 2) l d λi7=>
 A.r (Zb 3) l d λz=>A.wr (Yc zq0 [] d) d λa0 d=>A.ws (Xa 23) a0 i5 d λ_ d=>A.b .neq z (jv 0) d λi9=>A.test i9 (A.rd (Qb zq0 [] [] d) λj0=>
 A.ws (Xa 23) f j0 d λ_ d=>A.opt (cellV true 23 f d) λr105=>i (.tup [r105,.nils,jv 0,z]) d) (A.dr (Xb true 23 [a0] d) d λj1 j2 d=>A.pu (Za 1 [e] d) λj3=>
 A.dr (Xd [j3] d) d λj4 j5 d=>A.pu (Za 0 [e] d) λj6=>A.dr (Xd [j6] d) d λj7 j8 d=>A.pu (Qb zq1 [(0,1),(1,1),(5,1)] [.int .i8 0,j4,j7] d) λj9=>
 A.dr (Xb true 7 [v] d) d λl0 l1 d=>A.dr (Xf 7 2 [.int .i8 0,jv 0,jv 0,jv 0,jv 0,jv 0,.nils,.int .i8 0,jv 0,jv 0,jv 0,jv 0,jv 0,.nils] [(0,7),(7,7)] [j9,l0] d) d λl2 l3 d=>
 A.dr (Zg 7 72 [l2,i6] d) d λl4 l5 d=>A.dr (Xa 23 [f,j1] d) d λ_ l6 d=>A.gd (Qd [[],[],[1],[],[3],[1,2,3,4],[],[1,2,3,4,5,6],[],[1,2,3,4,5,6,7,8],[],[0,1,2,3,4,5,6,7,8,9],[0,1,2,3,4,5,6,7,8,9,11],[0,1,2,3,4,5,6,7,8,9,10,11,12],[0,1,2,3,4,5,6,7,8,9,10,11,12,13]] [j2,([],[]),j5,([],[]),j8,([],[]),l1,l3,([],[]),l5,([],[]),l6,([],[]),([],[]),([],[])]) <|
 A.opt (cellV true 23 f d) λr122=>i (.tup [r122,l4,i7,jv 0]) d))) [jv 0,.nils] d))) [jv 0] d))
 |_=>A.stop
theorem g16_ok:GQ 16 3 g16:=gq3 [none,none,none,some [65],none,none,none,none,some [96,15],none,some [15],none,none] λ_ _ _ _ _ _ _=>by kernel_rfl
def g17:GFun:=λA xs c d=>match xs with
 |[x0,x1,x2]=>
 A.w1 Xg x0 c λf c=>A.w1 Xg x1 c λe c=>A.w1 Xg x2 c λg c=>A.r (Xb true 2) f c λh=>A.r (Xb true 23) e c λi=>A.k 35 [h,i] c λj c=>
 A.b .neq j (jv 0) c λl=>A.test l (d (jv 170) c) (A.r (Za 2) e c λm=>A.a m c λn=>A.b .eql n (.int .i8 2) c λo=>A.test o (d (jv 211) c) (
 A.k 36 [f,e,g] c λp c=>d p c))
 |_=>A.stop
theorem g17_ok:GQ 17 3 g17:=gq3 [none,none,none] λ_ _ _ _ _ _ _=>by kernel_rfl
def g18:GFun:=λA xs c h=>match xs with
 |[x0]=>
 A.w1 Xg x0 c λe c=>A.wr (Yc zq0 [] c) c λg c=>A.r (Za 5) e c λi=>A.a i c λj=>A.k 12 [j] c λl c=>A.r (Za 5) e c λm=>
 A.ws (Xa 1) m l c λ_ c=>A.loop (λn f c=>A.b .lss (h0 f) (jv 2) c λo=>A.test o (A.r (Za 7) e c λp=>A.s (Xc 2 8) p (h0 f) c λd=>
 A.pu (Ya [d] c) λq=>A.pu (Za 3 [q] c) λt=>A.dr (Xd [t] c) c λu v c=>A.dcall (.call 12) [u] c λw y c=>A.pu (Ya [d] c) λz=>
 A.pu (Za 4 [z] c) λa0=>A.dr (Xd [a0] c) c λa1 a2 c=>A.dcall (.call 12) [a1] c λa3 a4 c=>A.pu (Ya [d] c) λa5=>A.pu (Za 5 [a5] c) λa6=>
 A.dr (Xd [a6] c) c λa7 a8 c=>A.dcall (.call 12) [a7] c λa9 b0 c=>A.pu (Ya [d] c) λb1=>A.pu (Za 7 [b1] c) λb2=>A.dr (Xd [b2] c) c λb3 b4 c=>
 A.dcall (.call 12) [b3] c λb5 b6 c=>A.pu (Ya [d] c) λb7=>A.pu (Za 6 [b7] c) λb8=>A.dr (Xd [b8] c) c λb9 c0 c=>A.dcall (.call 37) [b9] c λc1 c2 c=>
 A.pu (Ya [d] c) λc3=>A.pu (Za 3 [c3] c) λc4=>A.dr (Xa 1 [c4,w] c) c λ_ c5 c=>A.pu (Ya [d] c) λc6=>A.pu (Za 4 [c6] c) λc7=>
 A.dr (Xa 1 [c7,a3] c) c λ_ c8 c=>A.pu (Ya [d] c) λc9=>A.pu (Za 5 [c9] c) λd0=>A.dr (Xa 1 [d0,a9] c) c λ_ d1 c=>A.pu (Ya [d] c) λd2=>
 A.pu (Za 7 [d2] c) λd3=>A.dr (Xa 1 [d3,b5] c) c λ_ d4 c=>A.pu (Ya [d] c) λd5=>A.pu (Za 6 [d5] c) λd6=>A.dr (Xa 1 [d6,c1] c) c λ_ d7 c=>
 A.gd (Qd [[],[],[],[],[],[],[5],[5,6],[5,6,7],[5,6,7,8],[],[10],[10,11],[10,11,12],[5,6,7,8,9,10,11,12,13],[],[15],[15,16],[15,16,17],[5,6,7,8,9,10,11,12,13,14,15,16,17,18],[],[20],[20,21],[20,21,22],[5,6,7,8,9,10,11,12,13,14,15,16,17,18,19,20,21,22,23],[],[25],[25,26],[25,26,27],[5,6,7,8,9,10,11,12,13,14,15,16,17,18,19,20,21,22,23,24,25,26,27,28],[0,5,6,7,8,9,10,11,12,13,14,15,16,17,18,19,20,21,22,23,24,25,26,27,28,29],[0,5,6,7,8,9,10,11,12,13,14,15,16,17,18,19,20,21,22,23,24,25,26,27,28,29,30],[0,5,6,7,8,9,10,11,12,13,14,15,16,17,18,19,20,21,22,23,24,25,26,27,28,29,30,31],[0,1,5,6,7,8,9,10,11,12,13,14,15,16,17,18,19,20,21,22,23,24,25,26,27,28,29,30,31,32],[0,1,5,6,7,8,9,10,11,12,13,14,15,16,17,18,19,20,21,22,23,24,25,26,27,28,29,30,31,32,33],[0,1,5,6,7,8,9,10,11,12,13,14,15,16,17,18,19,20,21,22,23,24,25,26,27,28,29,30,31,32,33,34],[0,1,2,5,6,7,8,9,10,11,12,13,14,15,16,17,18,19,20,21,22,23,24,25,26,27,28,29,30,31,32,33,34,35],[0,1,2,5,6,7,8,9,10,11,12,13,14,15,16,17,18,19,20,21,22,23,24,25,26,27,28,29,30,31,32,33,34,35,36],[0,1,2,5,6,7,8,9,10,11,12,13,14,15,16,17,18,19,20,21,22,23,24,25,26,27,28,29,30,31,32,33,34,35,36,37],[0,1,2,3,5,6,7,8,9,10,11,12,13,14,15,16,17,18,19,20,21,22,23,24,25,26,27,28,29,30,31,32,33,34,35,36,37,38],[0,1,2,3,5,6,7,8,9,10,11,12,13,14,15,16,17,18,19,20,21,22,23,24,25,26,27,28,29,30,31,32,33,34,35,36,37,38,39],[0,1,2,3,5,6,7,8,9,10,11,12,13,14,15,16,17,18,19,20,21,22,23,24,25,26,27,28,29,30,31,32,33,34,35,36,37,38,39,40],[0,1,2,3,4,5,6,7,8,9,10,11,12,13,14,15,16,17,18,19,20,21,22,23,24,25,26,27,28,29,30,31,32,33,34,35,36,37,38,39,40,41],[0,1,2,3,4,5,6,7,8,9,10,11,12,13,14,15,16,17,18,19,20,21,22,23,24,25,26,27,28,29,30,31,32,33,34,35,36,37,38,39,40,41,42],[0,1,2,3,4,5,6,7,8,9,10,11,12,13,14,15,16,17,18,19,20,21,22,23,24,25,26,27,28,29,30,31,32,33,34,35,36,37,38,39,40,41,42,43]] [([],[]),([],[]),([],[]),([],[]),([],[]),([],[]),([],[]),([],[]),v,y,([],[]),([],[]),([],[]),a2,a4,([],[]),([],[]),([],[]),a8,b0,([],[]),([],[]),([],[]),b4,b6,([],[]),([],[]),([],[]),c0,c2,([],[]),([],[]),c5,([],[]),([],[]),c8,([],[]),([],[]),d1,([],[]),([],[]),d4,([],[]),([],[]),d7]) <|
 A.b .add (h0 f) (jv 1) c λd8=>n [d8] c) (A.r (Xb true 23) e c λd9=>A.ws (Xa 23) g d9 c λ_ c=>A.opt (cellV true 23 g c) λr58=>h r58 c)) [jv 0] c
 |_=>A.stop
theorem g18_ok:GQ 18 1 g18:=gq1 [none,some [9],none,none] λ_ _ _ _ _=>by kernel_rfl
def g23:GFun:=λA xs c d=>match xs with
 |[x0]=>
 A.r Ya x0 c λe=>A.r (Za 25) e c λf=>A.r (Za 1) f c λg=>A.a g c λh=>A.b .eql h (jv 0) c λi=>A.test i (A.k 45 [x0,.int .i8 2] c λj c=>
 d j c) (A.k 45 [x0,.int .i8 1] c λl c=>d l c)
 |_=>A.stop
theorem g23_ok:GQ 23 1 g23:=gq1 [none] λ_ _ _ _ _=>by kernel_rfl
def g24:GFun:=λA xs c d=>match xs with
 |[x0,x1]=>
 A.a x0 c λe=>A.r Zc e c λf=>A.b .eql f (jv 0) c λg=>A.test g (d (jv 0) c) (A.a x0 c λh=>A.a x1 c λi=>A.r Ya i c λj=>A.a j c λl=>
 A.s (Qa 1) h l c λm=>A.a m c λn=>A.dr (Xd [x1] c) c λo p c=>A.dr (Xd [x1] c) c λq t c=>A.pu (Ya [q] c) λu=>A.dr (Xd [u] c) c λv w c=>
 A.pu (Yi .add false [v,jv 1] c) λy=>A.dr (Xd [x0] c) c λz a0 c=>A.pu (Zc [z] c) λa1=>A.dcall (.call 10) [y,a1] c λa2 a3 c=>A.pu (Ya [o] c) λa4=>
 A.dr (Xa 1 [a4,a2] c) c λ_ a5 c=>A.gd (Qd [[],[],[1],[1,2],[1,2,3],[],[5],[1,2,3,4,5,6],[0,1,2,3,4,5,6,7],[0,1,2,3,4,5,6,7,8]] [p,t,([],[]),w,([],[]),a0,([],[]),a3,([],[]),a5]) <|
 d n c)
 |_=>A.stop
theorem g24_ok:GQ 24 2 g24:=gq2 [none] λ_ _ _ _ _ _=>by kernel_rfl
end Go.Ah.Tz
end
section
namespace Go.Ah.Tz
open Go.Proofs.Tryz (prog)
set_option maxRecDepth 100000
attribute [local irreducible] Ans.rd Ans.pu Ans.wr Ans.dr Ans.gr Ans.gw Ans.gl Ans.gd Ans.opt joinK W
set_option maxHeartbeats 4000000
def modF(x:Int)(n:Nat):Int:=(IntKind.i64.wrap (x.tmod n+n)).tmod n
theorem Yah{n:Nat}(h:0<n)(hn:n≤2000000000)(x:Int):∃j:Nat,j<n∧modF x n=(j:Int):=Xbr h hn x
theorem c10(x:Int)(n:Nat)(h:0<n):PC 10 [iv x,iv n] (iv (modF x n)):=by
 refine Xad hP g10_ok rfl rfl ?_;unfold g10;exact Yf (Ybv h) (Yf (ZaM ..) (Yf (Ybv h) rfl))
theorem c12(l:List Int)(hl:l.length≤1000000000):NCall prog GL0 12 [rowV l] (.sl 0 0 l.length false) [.rows 1 (l.map cel)]:=by
 cases l with
 |nil=>
  refine NCall.case1 ?_ ?_
  ·refine XK hP g12_ok rfl ?_;unfold g12;exact Yf rfl (Qba (Tidy.ghost 1 (.inl rfl)))
  ·refine XK hP g12_ok rfl ?_;unfold g12;exact Yf rfl (ZP (Yf rfl (XaB rfl rfl (Tidy.trans (Tidy.weak λM c u d=>Qy (.rsl true true 1 []) ⟨M,c⟩ u d) (Tidy.ghost 1 (.inr rfl))))))
 |cons x l=>
  refine XK hP g12_ok rfl ?_;unfold g12;refine Yf rfl (ZP (Yf rfl ?_));refine XaB (v:=.sl 0 0 (x :: l).length false) (rd:=[]) (up:=[(0,.rows 1 ((x :: l).map cel))]) ?_ rfl (Tidy.refl _ _);show (match QE 1 [] (rowV (x :: l)) with
   |some (ys,rd)=>bif Qv ys&&Nat.ble ((2*(([]:List (List AVal)).length+ys.length)+192)*8) (2 ^ 48) then SRes.ok (.sl 0 0 (([]:List (List AVal)).length+ys.length) false) rd ([]++[(0,ABlk.rows 1 ([]++ys))]) else SRes.stop
   | none=>.stop)=_
  have h1:QE 1 [] (rowV (x::l))=some ((x::l).map cel,[]):=rfl;have h2:∀q:List Int,Qv (q.map cel)=true:=by
   intro q; induction q with
   |nil=>rfl
   |cons y q ih=>simp only[List.map_cons,Qv,ih,Bool.and_true]; rfl
  have h3:Nat.ble ((2*(([]:List (List AVal)).length+((x::l).map cel).length)+192)*8) (2 ^ 48)=true:=Nat.ble_eq_true_of_le (by simp only[List.length_map,List.length_nil]; omega);simp only[h1,h2,h3,Bool.and_self,cond_true];simp
theorem w12{l:List Int}(hl:l.length≤1000000000){σ:List ABlk}{K:AVal→List ABlk→Prop}(hK:K (.sl σ.length 0 l.length false) (σ++[.rows 1 (l.map cel)])):VV.call (.call 12) [rowV l] σ K:=by
 refine Ybb (c12 l hl) rfl g12_ok.plain rfl ?_;simp only[Qu,List.map_cons,List.map_nil,Xbi,AVal.ren,Xw,Nat.zero_add];exact hK
def AtOk(d:List Int)(a:Int):Prop:=0≤a∧(a=0∨a<d.length)∧(d≠[]→a<d.length)
theorem AtOk.zero(d:List Int):AtOk d 0:=⟨by omega,.inl rfl,λh=>by cases d with|nil=>exact(h rfl).elim|cons x l=>simp⟩
theorem AtOk.nat{d:List Int}{j:Nat}(h:j<d.length):AtOk d (j:Int):=⟨by omega,.inr (by omega),λ_=>by omega⟩
def drawF(d:List Int)(a:Int):Int×Int:=if d.length=0 then (0,a) else ((d[a.toNat]?).getD 0,modF (a+1) d.length)
theorem YaE{d:List Int}(hd:d.length≤1000000000){a:Int}(h:AtOk d a):AtOk d (drawF d a).2:=by
 unfold drawF;split
 ·exact h
 ·obtain⟨j,j1,j2⟩:=Yah (n:=d.length) (by omega) (by omega) (a+1);simp only[j2]; exact AtOk.nat j1
theorem draw(d:List Int)(hd:d.length≤1000000000){a:Int}(ha:AtOk d a){r:ABlk}{K:AVal→List ABlk→Prop}(hK:K (iv (drawF d a).1) [.box [iv (drawF d a).2],.box [rowV d],.box [.bptr 0 0],r]) :
  VV.call .callv [.func (.func 24) [] [.bptr 1 0,.bptr 2 0]] [.box [iv a],.box [rowV d],.box [.bptr 0 0],r] K:=by
 refine Zak hP rfl g24_ok rfl ?_;show g24 VV [.bptr 1 0,.bptr 2 0] _ K;unfold g24;refine Yf (v:=rowV d) (ld (row:=[rowV d]) rfl rfl) (Yf (v:=iv d.length) (rd:=[]) (by simp[Zc]) (Yf (e_eql ..) (ZB (λh=>?_) (λh=>?_))))
 ·have h:d.length=0:=by simpa using h
  have e:drawF d a=(0,a):=by unfold drawF; rw[if_pos h]
  rw[e] at hK;exact hK
 have h:0<d.length:=by
  have:d.length≠0:=by simpa using h
  omega
 obtain⟨a1,a2,a3⟩:=ha;have a4:=a3 (List.length_pos_iff.1 h);obtain⟨k,rfl⟩:∃k:Nat,a=k:=⟨a.toNat,by omega⟩;have hk:k<d.length:=by omega
 have e:drawF d k=(d[k],modF ((k+1:Nat):Int) d.length):=by unfold drawF; rw[if_neg (by omega)]; simp[hk]
 rw[e] at hK;refine Yf (v:=rowV d) (ld (row:=[rowV d]) rfl rfl) (Yf (v:=.bptr 0 0) (ld (row:=[.bptr 0 0]) rfl rfl) (Yf rfl (Yf (v:=iv k) (ld (row:=[iv k]) rfl rfl) (Yf (YaY _ cel _ _ _ d _ k hk) (Yf (v:=iv d[k]) (ldr rfl) ?_)))));refine XS (v:=.bptr 0 0) (ld (row:=[.bptr 0 0]) rfl rfl) rfl (XS (v:=.bptr 0 0) (ld (row:=[.bptr 0 0]) rfl rfl) rfl (Zbl rfl (XS (v:=iv k) (ld (row:=[iv k]) rfl rfl) rfl (Zbl (ZaM ..) ?_))));rw[QP (n:=k) (by omega)];refine XS (v:=rowV d) (ld (row:=[rowV d]) rfl rfl) rfl (Zbl (v:=iv d.length) (by simp[Zc]) ?_);refine XaR (c10 ((k+1:Nat):Int) d.length h) rfl g10_ok.plain rfl (Zbl rfl (XS (stv (row:=[iv k]) rfl rfl rfl rfl) rfl (Ybx (by kernel_rfl) ?_)));exact hK
def swp(L:List Int)(i j:Nat):List Int:=(L.set i ((L[j]?).getD 0)).set j ((L[i]?).getD 0)
theorem Xbm{L D:List Int}(h:SameCt L D){i j:Nat}(hi:i<L.length)(hj:j<L.length):SameCt (swp L i j) D:=by
 have e:swp L i j=(L.set i L[j]).set j L[i]:=by simp[swp,hi,hj]
 rw[e]; exact h.swap hi hj
def shufF(d:List Int):Nat→List Int→Int→List Int×Int
 |0,L,a=>(L,a)
 |i+1,L,a=>shufF d i (swp L (i+1) (modF (drawF d a).1 (i+2)).toNat) (drawF d a).2
theorem XaJ{d D:List Int}(hd:d.length≤1000000000)(hD:D.length≤1000000000):∀(i:Nat) (L:List Int) (a:Int),SameCt L D→AtOk d a→(i=0∨i<L.length)→SameCt (shufF d i L a).1 D∧AtOk d (shufF d i L a).2
 |0,L,a,h1,h2,_=>⟨h1,h2⟩
 |i+1,L,a,h1,h2,h3=>by
  have hl:=h1.1;obtain⟨j,j1,j2⟩:=Yah (n:=i+2) (by omega) (by omega) (drawF d a).1;have hj:(modF (drawF d a).1 (i+2)).toNat<L.length:=by rw[j2]; simp; omega
  exact XaJ hd hD i _ _ (Xbm h1 (by omega) hj) (YaE hd h2) (by simp[swp]; omega)
def begF(d:List Int)(from_:Int):Int:=if d.length=0 then 0 else modF from_ d.length
theorem XaT{d:List Int}(hd:d.length≤1000000000)(f:Int):AtOk d (begF d f):=by
 unfold begF;split
 ·exact AtOk.zero d
 ·obtain⟨j,j1,j2⟩:=Yah (n:=d.length) (by omega) (by omega) f;rw[j2]; exact AtOk.nat j1
def shuffle(deck d:List Int)(f:Int):List Int×Int:=shufF d (deck.length-1) deck (begF d f)
theorem Qae{deck d:List Int}(hk:deck.length≤1000000000)(hd:d.length≤1000000000)(f:Int):SameCt (shuffle deck d f).1 deck∧AtOk d (shuffle deck d f).2:=
 XaJ hd hk _ _ _ ⟨rfl,λ_=>rfl⟩ (XaT hd f) (by omega)
theorem c5(deck d:List Int)(hk:deck.length≤1000000000)(hd:d.length≤1000000000)(f:Int):PC 5 [rowV deck,rowV d,iv f] (.tup [rowV (shuffle deck d f).1,iv (shuffle deck d f).2]):=by
 refine Xaq hP g5_ok rfl ?_;unfold g5;refine XaB (v:=.bptr 0 0) rfl rfl (XaB (v:=.junk) (rd:=[]) (up:=[(0,.box [iv 0])]) rfl rfl ?_);refine Yf (v:=iv d.length) (rd:=[]) (by simp[Zc]) (Yf rfl ?_);refine Xaj λkj hkj=>?_;have kk:kj [] [.box [iv (begF d f)]]:=by
  rw[hkj]; clear hkj kj;refine Zak hP rfl g11_ok rfl ?_;show g11 VV [rowV d,.bptr 0 0] _ _;unfold g11;refine XaB (v:=.bptr 1 0) rfl rfl (XaB (v:=.bptr 2 0) rfl rfl (Yf rfl ?_));refine w12 hk ?_;show VV.rd (Zc [.sl 3 0 deck.length false] _) _;refine Yf (v:=iv deck.length) (rd:=[]) rfl (Yf (Ybp ..) ?_);rw[wrapI (by omega) (by omega)];have hok:=Qae hk hd f;have hbeg:SameCt deck deck:=⟨rfl,λ_=>rfl⟩;refine QaR (ι:=Nat) (λi vs σ=>∃(L:List Int) (a:Int),vs=[iv (if i=0 then (deck.length:Int)-1-(deck.length-1:Nat) else i)]∧σ=[.box [iv a],.box [rowV d],.box [.bptr 0 0],.rows 1 (L.map cel)]∧SameCt L deck∧AtOk d a∧(i=0∨i<L.length)∧shufF d i L a=shuffle deck d f) (λi=>i) (deck.length-1) ⟨deck,begF d f,?_,rfl,hbeg,XaT hd f,by omega,rfl⟩ ?_
  ·split
   ·rename_i h; rw[h]; simp
   ·congr 2; omega
  rintro i vs σ again ⟨L,a,rfl,rfl,hs,ha,hi,hF⟩ hag;cases i with
  |zero=>
   simp only[if_true];refine Yf rfl (ZB (λh=>?_) (λ_=>?_))
   ·simp at h; omega
   refine Yf (v:=iv a) (ld (row:=[iv a]) rfl rfl) ?_;rw[shufF] at hF;rw[←hF];exact⟨[3],Bor.tup (.cons (RI.own rfl (by simp) hs.1.symm) (.cons (Bor.ro rfl) .nil))⟩
  |succ i=>
   have hl:=hs.1;have hi2:i+1<L.length:=by omega
   rw[if_neg (by omega)];refine Yf rfl (ZB (λ_=>?_) (λh=>by simp at h));refine draw d hd ha ?_;refine Yf (ZaM ..) ?_;rw[QP (n:=i+1) (by omega)];refine XX (c10 _ (i+2) (by omega)) rfl g10_ok.plain rfl ?_;obtain⟨j,j1,j2⟩:=Yah (n:=i+2) (by omega) (by omega) (drawF d a).1;have hF':=hF;rw[shufF,j2] at hF';rw[j2];have hj:j<L.length:=by omega
   simp only[Int.toNat_natCast] at hF';have gj:(L.map cel)[j]?=some (cel L[j]):=by simp[hj]
   have gi:(L.map cel)[i+1]?=some (cel L[i+1]):=by simp[hi2]
   have ix:∀(M:List Int) (k:Nat),k<deck.length→Qa 1 [.sl 3 0 deck.length false,iv k] [.box [iv (drawF d a).2],.box [rowV d],.box [.bptr 0 0],.rows 1 (M.map cel)]=.ok (.ptr 3 k 0) [3] []:=by
    intro M k hk;have q:=e_ixO (σ:=[.box [iv (drawF d a).2],.box [rowV d],.box [.bptr 0 0],.rows 1 (M.map cel)]) 3 0 deck.length false 1 (M.map cel) .i64 k hk rfl
    rwa [Nat.zero_add] at q
   refine XS (ix L j (by omega)) rfl (XS (v:=iv L[j]) (ldp rfl gj rfl) rfl (XS (ix L (i+1) (by omega)) rfl (XS (v:=iv L[i+1]) (ldp rfl gi rfl) rfl (XS (ix L (i+1) (by omega)) rfl ?_))));refine XS (XaE (L:=L) (m:=i+1) rfl hi2 L[j]) rfl (XS (ix (L.set (i+1) L[j]) j (by omega)) rfl (XS (XaE (L:=L.set (i+1) L[j]) (m:=j) rfl (by simpa using hj) L[i+1]) rfl (Ybx (by kernel_rfl) ?_)));refine Yf (Ybp ..) ?_;rw[wrapI (by omega) (by omega)];have es:(L.set (i+1) L[j]).set j L[i+1]=swp L (i+1) j:=by simp[swp,hi2,hj]
   refine hag i _ _ (by omega) ⟨swp L (i+1) j,(drawF d a).2,?_,by rw[es],Xbm hs hi2 hj,YaE hd ha,by simp[swp]; omega,hF'⟩
   congr 2
   split
   ·rename_i h; subst h; omega
   ·omega
 refine ZB (λh=>?_) (λh=>?_)
 ·have h:0<d.length:=by
   have:¬d.length=0:=by intro e; simp[e] at h
   omega
  refine Yf (v:=iv d.length) (rd:=[]) (by simp[Zc]) (XX (c10 f d.length h) rfl g10_ok.plain rfl (XaB (stv (row:=[iv 0]) rfl rfl rfl rfl) rfl ?_));have e:begF d f=modF f d.length:=by unfold begF; rw[if_neg (by omega)]
  rw[e] at kk;exact kk
 ·have h:d.length=0:=by simpa using h
  have e:begF d f=0:=by unfold begF; rw[if_pos h]
  rw[e] at kk;exact kk
end Go.Ah.Tz
end
