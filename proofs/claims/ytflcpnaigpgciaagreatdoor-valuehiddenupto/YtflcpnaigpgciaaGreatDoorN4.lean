/- Part of the proof that ValueHidden holds of the program for arguments that together hold at most 1048576 values and letters; no other condition. -/
import Derived.Test.YtflcpnaigpgciaaGreatDoorN3
set_option linter.all false
section
namespace Go.Ah.Tz
open Go.Proofs.Tryz (prog)
def cdL(c:Cd):Bool:=efsL 0 c.played&&(efsL 0 c.dead&&efsL 0 c.dawn)
def cdsL:List Cd→Int×Int
 |[]=>(0,0)
 |c::l=>if cdL c then cdsL l else (140,c.pl)
attribute [local irreducible] Ans.rd Ans.pu Ans.wr Ans.dr Ans.gr Ans.gw Ans.gl Ans.gd Ans.opt joinK W
set_option maxHeartbeats 1000000
theorem QG{σ:List ABlk}{b j n:Nat}{row:List AVal}{v:AVal}(hb:b<σ.length)(hv:partA true j n row=some v):cellV true n (.bptr b j) (σ.set b (.box row))=some v:=by
 have:hget (σ.set b (.box row)) b=.box row:=XT (by simp[hb]);simp only[cellV,this,hv]
theorem c146':∀(k:Nat) (l:List Ef) (u:Int),SizeOf.sizeOf l≤k→lsFit l=true→PC 146 [iv8 u,efV l] (.bool (efsL u l))
 |0,l,_,h,_=>by cases l<;>simp at h
 |k+1,l,u,hk,hf=>by
  refine Qc hP g146_ok rfl rfl ?_;unfold g146;have hlen:=QA hf;rw[bigE] at hlen;refine Qk (ι:=Nat) (λi vs σ=>vs=[iv i]∧i≤l.length∧efsL u l=efsL u (l.drop i)) (λi=>l.length-i) 0 ⟨rfl,by omega,by simp⟩ ?_;rintro i vs σ again ⟨rfl,hi,hu⟩ hag;refine Za rfl (Za rfl ?_);refine Qb (λh=>?_) (λh=>?_);rotate_left
  ·have h:i=l.length:=by simp at h; omega
   subst h;rw[List.drop_length,efsL] at hu;rw[hu]
  have h:i<l.length:=by simpa using h
  have hdr:l.drop i=l[i]::l.drop (i+1):=by rw[YLD h]
  rw[hdr,efsL] at hu;have hm:l[i]∈l:=List.getElem_mem h;have hsz:=List.sizeOf_lt_of_mem hm;have hfx:=YK hf hm;have ix:=λ(s:List ABlk)=>Yo s efC false false 14 l .i64 i h;generalize l[i]=x at hu hsz hfx ix;refine Ql λkj hkj=>?_;have kk:efL u x=true→∀s,kj [] s:=by
   intro he s;rw[hkj];refine Za (Zk ..) ?_;rw[Yg (n:=i) (by omega)];exact hag (i+1) _ _ (by omega) ⟨rfl,by omega,by rw[hu,he,Bool.true_and]⟩
  have bad:efL u x=false→AVal.bool false=AVal.bool (efsL u l):=by
   intro he; rw[hu,he]; rfl
  clear hkj hag;refine Za (ix _) (Za (ldr (efLd x)) ?_);refine Xz (row:=[iv8 x.op,iv8 x.who,iv8 x.n.op,iv x.n.n,iv8 x.n.who,.rsl false false 4 (x.n.kids.map nmC),.str x.name,iv8 x.c.op,iv8 x.c.who,.str x.c.name,.rsl false false 4 (x.c.nums.map nmC),.rsl false false 5 (x.c.kids.map cnC),.rsl false false 14 (x.thn.map efC),.rsl false false 14 (x.els.map efC)]) (row':=[iv8 x.op,iv8 x.who,iv8 x.n.op,iv x.n.n,iv8 x.n.who,.rsl false false 4 (x.n.kids.map nmC),.str x.name,iv8 x.c.op,iv8 x.c.who,.str x.c.name,.rsl false false 4 (x.c.nums.map nmC),.rsl false false 5 (x.c.kids.map cnC),.rsl false false 14 (x.thn.map efC),.rsl false false 14 (x.els.map efC)]) (by rw[YD]; rfl) rfl rfl ?_;have hB0:=Yl σ (ABlk.box [iv8 x.op,iv8 x.who,iv8 x.n.op,iv x.n.n,iv8 x.n.who,.rsl false false 4 (x.n.kids.map nmC),.str x.name,iv8 x.c.op,iv8 x.c.who,.str x.c.name,.rsl false false 4 (x.c.nums.map nmC),.rsl false false 5 (x.c.kids.map cnC),.rsl false false 14 (x.thn.map efC),.rsl false false 14 (x.els.map efC)]);generalize σ++[ABlk.box [iv8 x.op,iv8 x.who,iv8 x.n.op,iv x.n.n,iv8 x.n.who,.rsl false false 4 (x.n.kids.map nmC),.str x.name,iv8 x.c.op,iv8 x.c.who,.str x.c.name,.rsl false false 4 (x.c.nums.map nmC),.rsl false false 5 (x.c.kids.map cnC),.rsl false false 14 (x.thn.map efC),.rsl false false 14 (x.els.map efC)]]=base at hB0 ⊢;generalize σ.length=b at hB0 ⊢;have hN:Xc true 4 [.bptr b 2] base=.ok (.agg (nmC x.n)) [b] []:=ld hB0 (by rw[Qx]; rfl);have hC:Xc true 5 [.bptr b 7] base=.ok (.agg (cnC x.c)) [b] []:=ld hB0 (by rw[ZM]; rfl);rw[Ya0] at kk bad;repeat first|refine Za hN ?_|refine Za hC ?_|refine Za (ld hB0 rfl) ?_|refine Za (Yf ..) ?_|refine Za rfl ?_
  refine Qb (λa1=>?_) (λa1=>?_)
  ·have a1:x.op=5:=by simpa using a1
   rw[if_pos a1] at kk bad;repeat first|refine Za hN ?_|refine Za hC ?_|refine Za (ld hB0 rfl) ?_|refine Za (Yf ..) ?_|refine Za rfl ?_
   refine Yd (c191 _ (Z3 hfx)) rfl g191_ok.plain (nmRo _) ?_;refine Yd (c190 _ _) rfl g190_ok.plain rfl ?_;refine Yd (c189 _ _) rfl g189_ok.plain rfl ?_;refine Za rfl ?_;exact Qb (λh=>bad (by simpa using h)) (λh=>kk (by simpa using h) _)
  have a1:x.op≠5:=by simpa using a1
  rw[if_neg a1] at kk bad;repeat first|refine Za hN ?_|refine Za hC ?_|refine Za (ld hB0 rfl) ?_|refine Za (Yf ..) ?_|refine Za rfl ?_
  refine Qb (λa2=>?_) (λa2=>?_)
  ·have a2:x.op=8:=by simpa using a2
   rw[if_pos a2] at kk bad;have hs2:=Z6 x;repeat first|refine Za hN ?_|refine Za hC ?_|refine Za (ld hB0 rfl) ?_|refine Za (Yf ..) ?_|refine Za rfl ?_
   refine Yd (c192 _ (YY hfx)) rfl g192_ok.plain (cnRo _) ?_;refine Yd (c190 _ _) rfl g190_ok.plain rfl ?_;repeat first|refine Za hN ?_|refine Za hC ?_|refine Za (ld hB0 rfl) ?_|refine Za (Yf ..) ?_|refine Za rfl ?_
   refine Yd (c146' k x.thn _ (by omega) (ZK hfx)) rfl g146_ok.plain rfl ?_;repeat first|refine Za hN ?_|refine Za hC ?_|refine Za (ld hB0 rfl) ?_|refine Za (Yf ..) ?_|refine Za rfl ?_
   rcases YBE (!efsL (joinL u (cnL x.c)) x.thn) with a3|a3
   ·rw[a3];repeat first|refine Xa ?_|refine Zb ?_|refine Yb rfl ?_|refine Zc rfl ?_|refine Zd rfl ?_|refine Xd rfl ?_|refine Za (ld hB0 rfl) ?_|refine Za rfl ?_
    refine Ze (bad ?_);have a3:efsL (joinL u (cnL x.c)) x.thn=false:=by simpa using a3
    simp[a3]
   rw[a3];repeat first|refine Xa ?_|refine Zb ?_|refine Za (ld hB0 rfl) ?_|refine Za rfl ?_
   have a3:efsL (joinL u (cnL x.c)) x.thn=true:=by simpa using a3
   refine Yd (c146' k x.els _ (by omega) (QJ hfx)) rfl g146_ok.plain rfl ?_;repeat first|refine Xa ?_|refine Zb ?_|refine Za (ld hB0 rfl) ?_|refine Za rfl ?_
   refine Qb (λh=>bad ?_) (λh=>kk ?_ _)
   ·have h:efsL (joinL u (cnL x.c)) x.els=false:=by simpa using h
    simp[h]
   ·have h:efsL (joinL u (cnL x.c)) x.els=true:=by simpa using h
    simp[a3,h]
  have a2:x.op≠8:=by simpa using a2
  rw[if_neg a2] at kk bad;repeat first|refine Za hN ?_|refine Za hC ?_|refine Za (ld hB0 rfl) ?_|refine Za (Yf ..) ?_|refine Za rfl ?_
  refine Ql λk1 hk1=>?_;have m1:∀c:Bool,c=decide (x.op=0∨x.op=1∨x.op=2∨x.op=3)→k1 [.bool c] base:=by
   rintro c hc;rw[hk1];refine Qb (λh=>?_) (λh=>?_)
   ·rw[h] at hc;rw[if_pos (by simpa using hc.symm)] at kk bad;repeat first|refine Za hN ?_|refine Za hC ?_|refine Za (ld hB0 rfl) ?_|refine Za (Yf ..) ?_|refine Za rfl ?_
    refine Yd (c191 _ (Z3 hfx)) rfl g191_ok.plain (nmRo _) ?_;refine Yd (c190 _ _) rfl g190_ok.plain rfl ?_;refine Za rfl ?_;exact Qb (λh=>bad (by simpa using h)) (λh=>kk (by simpa using h) _)
   ·rw[h] at hc;rw[if_neg (by simpa using hc.symm)] at kk bad;refine Yd (c190 _ _) rfl g190_ok.plain rfl ?_;refine Za rfl ?_;exact Qb (λh=>bad (by simpa using h)) (λh=>kk (by simpa using h) _)
  clear hk1;refine Qb (λh=>m1 _ ?_) (λh=>?_)
  ·simp at h; simp[h]
  refine Za (Yf ..) (Qb (λh2=>m1 _ ?_) (λh2=>?_))
  ·simp at h2; simp[h2]
  refine Za (Yf ..) (Qb (λh3=>m1 _ ?_) (λh3=>?_))
  ·simp at h3; simp[h3]
  refine Za (Yf ..) (m1 _ ?_);simp at h h2 h3; simp[h,h2,h3]
theorem c146(l:List Ef)(u:Int)(hf:lsFit l=true):PC 146 [iv8 u,efV l] (.bool (efsL u l)):=c146' _ l u (Nat.le_refl _) hf
theorem c114(cs:List Cd)(hf:QF cs=true):PC 114 [cdV cs] (.agg [iv (cdsL cs).1,iv (cdsL cs).2]):=by
 simp only[QF,Bool.and_eq_true,decide_eq_true_eq] at hf;obtain⟨f0,f1⟩:=hf;rw[bigE] at f0;refine Qc hP g114_ok rfl rfl ?_;unfold g114;refine Xf rfl rfl ?_;refine Qk (ι:=Nat) (λi vs σ=>vs=[iv i]∧hget σ 0=.box [iv 0,iv 0]∧0<σ.length∧i≤cs.length∧cdsL cs=cdsL (cs.drop i)) (λi=>cs.length-i) 0 ⟨rfl,rfl,by simp,by omega,by simp⟩ ?_;rintro i vs σ again ⟨rfl,hz,hz2,hi,hu⟩ hag;refine Za rfl (Za rfl ?_);refine Qb (λh=>?_) (λh=>?_);rotate_left
 ·have h:i=cs.length:=by simp at h; omega
  subst h;rw[List.drop_length,cdsL] at hu;refine Za rfl (Xf (stv hz rfl rfl rfl) (Yz _ hz2) (Zt (QG hz2 rfl) ?_));rw[hu]
 have hi:i<cs.length:=by simpa using h
 have hdr:cs.drop i=cs[i]::cs.drop (i+1):=by rw[YLD hi]
 have hix:=λ(s:List ABlk)=>Yo s cdC false false 12 cs .i64 i hi;have hfi:=List.all_eq_true.1 f1 _ (List.getElem_mem hi);generalize cs[i]=c at hdr hix hfi;rw[hdr,cdsL] at hu;simp only[cdFit,Bool.and_eq_true,decide_eq_true_eq] at hfi;obtain⟨g0,g1,g2,g3⟩:=hfi;refine Za (hix _) (Za (ldr (cdLd _)) (Xz (row:=cdC c) (row':=cdC c) rfl rfl rfl ?_));have hB0:=Yl σ (ABlk.box (cdC c));have hz':hget (σ++[ABlk.box (cdC c)]) 0=.box [iv 0,iv 0]:=Qm _ hz (by simp);have hz2':0<(σ++[ABlk.box (cdC c)]).length:=by simp
 generalize σ++[ABlk.box (cdC c)]=base at hB0 hz' hz2' ⊢;generalize σ.length=b at hB0 ⊢;clear hz hz2;repeat first|refine Za (ld hB0 rfl) ?_|refine Za rfl ?_
 refine Yd (c146 _ 0 g1) rfl g146_ok.plain rfl ?_;repeat first|refine Za (ld hB0 rfl) ?_|refine Za rfl ?_
 have bad:cdL c=false→VV.rd (Ya 11 [.bptr b 0] base) λt31_22=>True:=λ_=>Za rfl trivial;clear bad;apply cutF (cdL c=false)
 ·intro hR;have good:cdL c=true→VV.rd (Yi .add false [iv i,(.int .i64 1)] base) λt10_26=>again [t10_26] base:=by
   intro hc;rw[hc,if_pos rfl] at hu;refine Za (Zk ..) ?_;rw[Yg (n:=i) (by omega)];exact hag (i+1) _ _ (by omega) ⟨rfl,hz',hz2',by omega,hu⟩
  rcases YBE (!efsL 0 c.played) with a1|a1
  ·rw[a1];repeat first|refine Xa ?_|refine Zb ?_|refine Yb rfl ?_|refine Zc rfl ?_|refine Zd rfl ?_|refine Xd rfl ?_|refine Za (ld hB0 rfl) ?_|refine Za rfl ?_
   refine Ze (hR ?_);have a1:efsL 0 c.played=false:=by simpa using a1
   simp[cdL,a1]
  rw[a1];repeat first|refine Xa ?_|refine Zb ?_|refine Za (ld hB0 rfl) ?_|refine Za rfl ?_
  have a1:efsL 0 c.played=true:=by simpa using a1
  refine Yd (c146 _ 0 g2) rfl g146_ok.plain rfl ?_;repeat first|refine Xa ?_|refine Zb ?_|refine Za (ld hB0 rfl) ?_|refine Za rfl ?_
  rcases YBE (!efsL 0 c.dead) with a2|a2
  ·rw[a2];repeat first|refine Xa ?_|refine Zb ?_|refine Yb rfl ?_|refine Zc rfl ?_|refine Zd rfl ?_|refine Xd rfl ?_|refine Za (ld hB0 rfl) ?_|refine Za rfl ?_
   refine Ze (hR ?_);have a2:efsL 0 c.dead=false:=by simpa using a2
   simp[cdL,a2]
  rw[a2];repeat first|refine Xa ?_|refine Zb ?_|refine Za (ld hB0 rfl) ?_|refine Za rfl ?_
  have a2:efsL 0 c.dead=true:=by simpa using a2
  refine Yd (c146 _ 0 g3) rfl g146_ok.plain rfl ?_;repeat first|refine Xa ?_|refine Zb ?_|refine Za (ld hB0 rfl) ?_|refine Za rfl ?_
  refine Qb (λa3=>hR ?_) (λa3=>good ?_)
  ·have a3:efsL 0 c.dawn=false:=by simpa using a3
   simp[cdL,a3]
  ·have a3:efsL 0 c.dawn=true:=by simpa using a3
   simp[cdL,a1,a2,a3]
 intro hc;rw[hc] at hu
 replace hu:cdsL cs=(140,c.pl):=hu
 refine Za rfl (Za (ld hB0 rfl) (Za rfl (Xf (stv hz' rfl rfl rfl) (Yz _ hz2') (Zt (QG hz2' rfl) ?_))));rw[hu]
end Go.Ah.Tz
end
section
namespace Go.Ah.Tz
open Go.Proofs.Tryz (prog)
def fndI:Nat→List Cd→Tx→Nat×Bool
 |_,[],_=>(0,false)
 |i,c::l,t=>if c.name==t then (i,true) else fndI (i+1) l t
def nmsGo(cs:List Cd):List Tx→List Tx→Bool
 |_,[]=>true
 |pre,t::l=>((fndI 0 cs t).2&&pre.all λp=>!(p==t))&&nmsGo cs (pre++[t]) l
def fmtOk(b:Bk)(pre:List Fo)(f:Fo):Bool:=
 !(pre.any λg=>g.name==f.name)&&(decide (pre.length<240)&&(nameOk f.name&&(decide (0≤f.least)&&(decide (f.least≤f.most)&&(decide (f.most≤60)&&(decide (0≤f.copies)&&(decide (f.copies≤999)&&(nmsGo b.cards [] f.banned&&nmsGo b.cards [] f.single))))))))
def fmtGo(b:Bk):List Fo→List Fo→Int×Int
 |_,[]=>(0,0)
 |pre,f::l=>if fmtOk b pre f then fmtGo b (pre++[f]) l else (151,f.pl)
def bkR(b:Bk):Int×Int:=if (cdsChk b.cards).1≠0 then cdsChk b.cards else if (cdsL b.cards).1≠0 then cdsL b.cards else fmtGo b [] b.formats
def foFit(f:Fo):Bool:=decide (f.name.length≤big)&&(decide (f.banned.length≤big)&&decide (f.single.length≤big))
def bkFit(b:Bk):Bool:=QF b.cards&&(decide (b.formats.length≤big)&&b.formats.all foFit)
attribute [local irreducible] Ans.rd Ans.pu Ans.wr Ans.dr Ans.gr Ans.gw Ans.gl Ans.gd Ans.opt joinK W
set_option maxHeartbeats 1000000
theorem c195(b:Bk)(hc:b.cards.length≤big)(t:Tx):PC 195 [bkV b,.str t] (.tup [iv (fndI 0 b.cards t).1,.bool (fndI 0 b.cards t).2]):=by
 rw[bigE] at hc;refine Qc hP g195_ok rfl rfl ?_;unfold g195;refine Xf rfl rfl ?_;generalize hB:([]++[ABlk.box [cdV b.cards,foV b.formats]]:List ABlk)=base;have hB0:hget base 0=.box [cdV b.cards,foV b.formats]:=by rw[←hB]; rfl
 clear hB;generalize b.cards=cs at hc hB0 ⊢;refine Qk (ι:=Nat) (λi vs σ=>vs=[iv i]∧σ=base∧i≤cs.length∧fndI 0 cs t=fndI i (cs.drop i) t) (λi=>cs.length-i) 0 ⟨rfl,rfl,by omega,by simp⟩ ?_;rintro i vs σ again ⟨rfl,rfl,hi,hu⟩ hag;repeat first|refine Za (ld hB0 rfl) ?_|refine Za rfl ?_
 refine Qb (λh=>?_) (λh=>?_)
 ·have h:i<cs.length:=by simpa using h
  have hdr:cs.drop i=cs[i]::cs.drop (i+1):=by rw[YLD h]
  rw[hdr,fndI] at hu;refine Za rfl (Za (ld hB0 rfl) (Za (Yo _ cdC false false 12 cs .i64 i h) (Za rfl (Za (ldr (cdLd0 _)) (Za (Zf ..) ?_)))));refine Qb (λh=>?_) (λh=>?_)
  ·rw[if_pos h] at hu;rw[hu]; rfl
  ·rw[if_neg (by simpa using h)] at hu;refine Za (Zk ..) ?_;rw[Yg (n:=i) (by omega)];exact hag (i+1) _ _ (by omega) ⟨rfl,rfl,by omega,hu⟩
 ·have h:i=cs.length:=by simp at h; omega
  subst h;rw[List.drop_length,fndI] at hu;rw[hu]; rfl
theorem c148(b:Bk)(hc:b.cards.length≤big)(l:List Tx)(hl:l.length≤big):PC 148 [bkV b,txV l] (.bool (nmsGo b.cards [] l)):=by
 rw[bigE] at hl;refine Qc hP g148_ok rfl rfl ?_;unfold g148;refine Xf rfl rfl ?_;refine Qk (ι:=Nat) (λi vs σ=>vs=[iv i]∧σ=[]++[ABlk.box [cdV b.cards,foV b.formats]]∧i≤l.length∧nmsGo b.cards [] l=nmsGo b.cards (l.take i) (l.drop i)) (λi=>l.length-i) 0 ⟨rfl,rfl,by omega,by simp⟩ ?_;rintro i vs σ again ⟨rfl,rfl,hi,hu⟩ hag;refine Za rfl (Za rfl ?_);refine Qb (λh=>?_) (λh=>?_);rotate_left
 ·have h:i=l.length:=by simp at h; omega
  subst h;rw[List.drop_length,nmsGo] at hu;rw[hu]
 have h:i<l.length:=by simpa using h
 have hdr:l.drop i=l[i]::l.drop (i+1):=by rw[YLD h]
 have hix:=λ(s:List ABlk)=>Yo s txC false false 1 l .i64 i h;have htk:l.take (i+1)=l.take i++[l[i]]:=Zu l i h;generalize l[i]=t at hdr hix htk;rw[hdr,nmsGo,←htk] at hu;refine Xj rfl rfl (Xj (hix _) rfl (Xj (ldr (txLd _)) rfl ?_));refine Zh (c195 b hc t) rfl g195_ok.plain rfl ?_;refine Xg rfl (Xg rfl (Xx (by kernel_rfl) ?_));refine Qk (ι:=Nat) (λk vs σ=>∃ok,vs=[iv k,.bool ok]∧σ=[]++[ABlk.box [cdV b.cards,foV b.formats]]∧k≤i∧((fndI 0 b.cards t).2&&(l.take i).all λp=>!(p==t))=(ok&&((l.take i).drop k).all λp=>!(p==t))) (λk=>i-k) 0 ⟨_,rfl,rfl,by omega,by simp⟩ ?_;rintro k vs σ again2 ⟨ok,rfl,rfl,hk,hv⟩ hag2;refine Za rfl ?_;refine Qb (λh2=>?_) (λh2=>?_)
 ·have h2:k<i:=by simpa using h2
  have hkx:k<(l.take i).length:=by rw[List.length_take]; omega
  have hdr2:(l.take i).drop k=(l.take i)[k]::(l.take i).drop (k+1):=by rw[YLD hkx]
  rw[List.getElem_take] at hdr2;rw[hdr2,List.all_cons,←Bool.and_assoc] at hv;cases ok with
  |true=>
   have hixk:=λ(s:List ABlk)=>Yo s txC false false 1 l .i64 k (by omega);repeat first|refine Xa ?_|refine Za (hixk _) ?_|refine Za (hix _) ?_|refine Za (ldr (txLd _)) ?_|refine Za rfl ?_
   rw[Yg (n:=k) (by omega)];exact hag2 (k+1) _ _ (by omega) ⟨_,rfl,rfl,by omega,by rw[hv,Bool.true_and]⟩
  |false=>
   repeat first|refine Yb rfl ?_|refine Zd rfl ?_
   refine Za rfl (Za (Zk ..) ?_);rw[Yg (n:=k) (by omega)];exact hag2 (k+1) _ _ (by omega) ⟨_,rfl,rfl,by omega,by rw[hv]; simp⟩
 have h2:k=i:=by simp at h2; omega
 subst h2;rw[List.drop_eq_nil_of_le (by rw[List.length_take]; omega),List.all_nil,Bool.and_true] at hv;rw[hv] at hu;refine Za rfl ?_;refine Qb (λh3=>?_) (λh3=>?_)
 ·have h3:ok=false:=by simpa using h3
  subst h3;rw[hu]; rfl
 ·have h3:ok=true:=by simpa using h3
  subst h3;rw[Bool.true_and] at hu;refine Za (Zk ..) ?_;rw[Yg (n:=k) (by omega)];exact hag (k+1) _ _ (by omega) ⟨rfl,rfl,by omega,hu⟩
theorem foLd(x:Fo):partA true 0 7 (foC x)=some (.agg (foC x)):=rfl
theorem foLd0(x:Fo):partA false 0 1 (foC x)=some (.str x.name):=rfl
theorem foLd6(x:Fo):partA false 6 1 (foC x)=some (iv x.pl):=rfl
theorem c115(b:Bk)(hc:b.cards.length≤big)(hfl:b.formats.length≤big)(k:Nat)(hk:k<b.formats.length)(hf:foFit b.formats[k]=true):PC 115 [bkV b,iv k] (.bool (fmtOk b (b.formats.take k) b.formats[k])):=by
 rw[bigE] at hfl;refine Qc hP g115_ok rfl rfl ?_;unfold g115;refine Xf rfl rfl ?_;have hix:=λ(s:List ABlk)=>Yo s foC false false 7 b.formats .i64 k hk;generalize b.formats[k]=f at hf hix ⊢;simp only[foFit,Bool.and_eq_true,decide_eq_true_eq] at hf;obtain⟨f0,f1,f2⟩:=hf;refine Za rfl (Za rfl (Za (hix _) (Za (ldr (foLd f)) (Xz (row:=foC f) (row':=foC f) rfl rfl rfl ?_))));generalize hB:([]++[ABlk.box [cdV b.cards,foV b.formats]]++[ABlk.box (foC f)]:List ABlk)=base;have hB0:hget base 0=.box [cdV b.cards,foV b.formats]:=by rw[←hB]; rfl
 have hB1:hget base 1=.box (foC f):=by rw[←hB]; rfl
 clear hB;have htl:(b.formats.take k).length=k:=by rw[List.length_take]; omega
 refine Qk (ι:=Nat) (λj vs σ=>vs=[iv j]∧σ=base∧j≤k∧((b.formats.take k).any λg=>g.name==f.name)=(((b.formats.take k).drop j).any λg=>g.name==f.name)) (λj=>k-j) 0 ⟨rfl,rfl,by omega,by simp⟩ ?_;rintro j vs σ again ⟨rfl,rfl,hj,hv⟩ hag;refine Za rfl ?_;refine Qb (λh=>?_) (λh=>?_)
 ·have h:j<k:=by simpa using h
  have hjx:j<(b.formats.take k).length:=by omega
  have hdr2:(b.formats.take k).drop j=(b.formats.take k)[j]::(b.formats.take k).drop (j+1):=by rw[YLD hjx]
  rw[List.getElem_take] at hdr2;rw[hdr2,List.any_cons] at hv;refine Za rfl (Za (ld hB0 rfl) (Za (Yo _ foC false false 7 b.formats .i64 j (by omega)) (Za rfl (Za (ldr (foLd0 _)) (Za rfl (Za (ld hB1 rfl) (Za (Zf ..) ?_)))))));refine Qb (λh=>?_) (λh=>?_)
  ·rw[h,Bool.true_or] at hv;simp[fmtOk,hv]
  ·rw[h,Bool.false_or] at hv;refine Za (Zk ..) ?_;rw[Yg (n:=j) (by omega)];exact hag (j+1) _ _ (by omega) ⟨rfl,rfl,by omega,hv⟩
 have h:j=k:=by simp at h; omega
 subst h;rw[List.drop_eq_nil_of_le (by omega),List.any_nil] at hv;unfold fmtOk;rw[hv,htl,Bool.not_false,Bool.true_and];clear hv hag hix;refine Za rfl ?_;rcases YBE (decide ((j:Int) ≥ 240)) with a1|a1
 ·rw[a1];repeat first|refine Xa ?_|refine Zb ?_|refine Yb rfl ?_|refine Zc rfl ?_|refine Zd rfl ?_|refine Xd rfl ?_|refine Za (ld hB0 rfl) ?_|refine Za (ld hB1 rfl) ?_|refine Za rfl ?_
  refine Ze ?_;have a1:¬j<240:=by simp at a1; omega
  simp[a1]
 rw[a1];repeat first|refine Xa ?_|refine Zb ?_|refine Za (ld hB0 rfl) ?_|refine Za (ld hB1 rfl) ?_|refine Za rfl ?_
 have a1:j<240:=by simp at a1; omega
 refine Yd (c147 _ f0) rfl g147_ok.plain rfl ?_;repeat first|refine Xa ?_|refine Zb ?_|refine Za (ld hB0 rfl) ?_|refine Za (ld hB1 rfl) ?_|refine Za rfl ?_
 refine Qb (λa2=>?_) (λa2=>?_)
 ·have a2:nameOk f.name=false:=by simpa using a2
  simp[a2]
 have a2:nameOk f.name=true:=by simpa using a2
 rw[decide_eq_true a1,a2,Bool.true_and,Bool.true_and];clear a1 a2;repeat first|refine Xa ?_|refine Zb ?_|refine Za (ld hB0 rfl) ?_|refine Za (ld hB1 rfl) ?_|refine Za rfl ?_
 rcases YBE (decide (f.least ≥ 0)) with b1|b1
 rotate_left
 ·rw[b1];repeat first|refine Xa ?_|refine Zb ?_|refine Yb rfl ?_|refine Zc rfl ?_|refine Zd rfl ?_|refine Xd rfl ?_|refine Za (ld hB0 rfl) ?_|refine Za (ld hB1 rfl) ?_|refine Za rfl ?_
  have b1:¬0≤f.least:=by simpa using b1
  simp[b1]
 rw[b1];repeat first|refine Xa ?_|refine Zb ?_|refine Za (ld hB0 rfl) ?_|refine Za (ld hB1 rfl) ?_|refine Za rfl ?_
 have b1:0≤f.least:=by simpa using b1
 rcases YBE (decide (f.least≤f.most)) with b2|b2
 rotate_left
 ·rw[b2];repeat first|refine Xa ?_|refine Zb ?_|refine Yb rfl ?_|refine Zc rfl ?_|refine Zd rfl ?_|refine Xd rfl ?_|refine Za (ld hB0 rfl) ?_|refine Za (ld hB1 rfl) ?_|refine Za rfl ?_
  have b2:¬f.least≤f.most:=by simpa using b2
  simp[b2]
 rw[b2];repeat first|refine Xa ?_|refine Zb ?_|refine Za (ld hB0 rfl) ?_|refine Za (ld hB1 rfl) ?_|refine Za rfl ?_
 have b2:f.least≤f.most:=by simpa using b2
 rcases YBE (decide (f.most≤60)) with b3|b3
 rotate_left
 ·rw[b3];repeat first|refine Xa ?_|refine Zb ?_|refine Yb rfl ?_|refine Zc rfl ?_|refine Zd rfl ?_|refine Xd rfl ?_|refine Za (ld hB0 rfl) ?_|refine Za (ld hB1 rfl) ?_|refine Za rfl ?_
  have b3:¬f.most≤60:=by simpa using b3
  simp[b3]
 rw[b3];repeat first|refine Xa ?_|refine Zb ?_|refine Za (ld hB0 rfl) ?_|refine Za (ld hB1 rfl) ?_|refine Za rfl ?_
 have b3:f.most≤60:=by simpa using b3
 rcases YBE (decide (f.copies ≥ 0)) with b4|b4
 rotate_left
 ·rw[b4];repeat first|refine Xa ?_|refine Zb ?_|refine Yb rfl ?_|refine Zc rfl ?_|refine Zd rfl ?_|refine Xd rfl ?_|refine Za (ld hB0 rfl) ?_|refine Za (ld hB1 rfl) ?_|refine Za rfl ?_
  have b4:¬0≤f.copies:=by simpa using b4
  simp[b4]
 rw[b4];repeat first|refine Xa ?_|refine Zb ?_|refine Za (ld hB0 rfl) ?_|refine Za (ld hB1 rfl) ?_|refine Za rfl ?_
 have b4:0≤f.copies:=by simpa using b4
 rcases YBE (decide (f.copies≤999)) with b5|b5
 rotate_left
 ·rw[b5];repeat first|refine Xa ?_|refine Zb ?_|refine Yb rfl ?_|refine Zc rfl ?_|refine Zd rfl ?_|refine Xd rfl ?_|refine Za (ld hB0 rfl) ?_|refine Za (ld hB1 rfl) ?_|refine Za rfl ?_
  have b5:¬f.copies≤999:=by simpa using b5
  simp[b5]
 rw[b5];repeat first|refine Xa ?_|refine Zb ?_|refine Za (ld hB0 rfl) ?_|refine Za (ld hB1 rfl) ?_|refine Za rfl ?_
 have b5:f.copies≤999:=by simpa using b5
 simp only[b1,b2,b3,b4,b5,decide_true,Bool.true_and];refine Yd (c148 b hc _ f1) rfl g148_ok.plain rfl ?_;repeat first|refine Xa ?_|refine Zb ?_|refine Za (ld hB0 rfl) ?_|refine Za (ld hB1 rfl) ?_|refine Za rfl ?_
 rcases YBE (nmsGo b.cards [] f.banned) with c1|c1
 rotate_left
 ·rw[c1];repeat first|refine Xa ?_|refine Zb ?_|refine Yb rfl ?_|refine Zc rfl ?_|refine Zd rfl ?_|refine Xd rfl ?_|refine Za (ld hB0 rfl) ?_|refine Za (ld hB1 rfl) ?_|refine Za rfl ?_
  simp[c1]
 rw[c1];repeat first|refine Xa ?_|refine Zb ?_|refine Za (ld hB0 rfl) ?_|refine Za (ld hB1 rfl) ?_|refine Za rfl ?_
 refine Yd (c148 b hc _ f2) rfl g148_ok.plain rfl ?_;repeat first|refine Xa ?_|refine Zb ?_|refine Za (ld hB0 rfl) ?_|refine Za (ld hB1 rfl) ?_|refine Za rfl ?_
 simp[c1]
theorem c67(b:Bk)(hf:bkFit b=true):PC 67 [bkV b] (.agg [iv (bkR b).1,iv (bkR b).2]):=by
 simp only[bkFit,Bool.and_eq_true,decide_eq_true_eq] at hf;obtain⟨f0,f1,f2⟩:=hf;have f12:=f1;rw[bigE] at f12;have fc:b.cards.length≤big:=by simp only[QF,Bool.and_eq_true,decide_eq_true_eq] at f0; exact f0.1
 refine Qc hP g67_ok rfl rfl ?_;unfold g67;refine Xf rfl rfl (Xf rfl rfl (Za rfl (Za rfl ?_)));refine Yd (c113 _ f0) rfl g113_ok.plain rfl ?_;refine Xz rfl rfl rfl (Za rfl (Za rfl (Za rfl ?_)));unfold bkR;refine Qb (λh=>?_) (λh=>?_)
 ·rw[if_pos (by simpa using h)];refine Za rfl (Xf rfl rfl (Zt rfl rfl))
 rw[if_neg (by simpa using h)];refine Za rfl (Za rfl ?_);refine Yd (c114 _ f0) rfl g114_ok.plain rfl ?_;refine Xz rfl rfl rfl (Za rfl (Za rfl (Za rfl ?_)));refine Qb (λh=>?_) (λh=>?_)
 ·rw[if_pos (by simpa using h)];refine Za rfl (Xf rfl rfl (Zt rfl rfl))
 rw[if_neg (by simpa using h)];generalize cdsChk b.cards=p1;generalize cdsL b.cards=p2;refine Qk (ι:=Nat) (λi vs σ=>vs=[iv i]∧σ=[]++[ABlk.box [cdV b.cards,foV b.formats]]++[.box [iv 0,iv 0]]++[.box [iv p1.1,iv p1.2]]++[.box [iv p2.1,iv p2.2]]∧i≤b.formats.length∧fmtGo b [] b.formats=fmtGo b (b.formats.take i) (b.formats.drop i)) (λi=>b.formats.length-i) 0 ⟨rfl,rfl,by omega,by simp⟩ ?_;rintro i vs σ again ⟨rfl,rfl,hi,hu⟩ hag;refine Za rfl (Za rfl (Za rfl (Za rfl ?_)));refine Qb (λh=>?_) (λh=>?_);rotate_left
 ·have h:i=b.formats.length:=by simp at h; omega
  subst h;rw[List.drop_length,fmtGo] at hu;refine Za rfl (Xf rfl rfl (Zt rfl ?_));rw[hu]
 have h:i<b.formats.length:=by simpa using h
 have hdr:b.formats.drop i=b.formats[i]::b.formats.drop (i+1):=by rw[YLD h]
 have hix:=λ(s:List ABlk)=>Yo s foC false false 7 b.formats .i64 i h;have htk:b.formats.take (i+1)=b.formats.take i++[b.formats[i]]:=Zu b.formats i h;have hmy:=c115 b fc f1 i h (List.all_eq_true.1 f2 _ (List.getElem_mem h));generalize b.formats[i]=f at hdr hix htk hmy;rw[hdr,fmtGo,←htk] at hu;refine Za rfl ?_;refine Yd hmy rfl g115_ok.plain rfl ?_;refine Za rfl ?_;refine Qb (λh3=>?_) (λh3=>?_)
 ·rw[if_neg (by simpa using h3)] at hu;refine Za rfl (Za rfl (Za (hix _) (Za rfl (Za (ldr (foLd6 _)) (Za rfl (Xf rfl rfl (Zt rfl ?_)))))));rw[hu]
 ·rw[if_pos (by simpa using h3)] at hu;refine Za (Zk ..) ?_;rw[Yg (n:=i) (by omega)];exact hag (i+1) _ _ (by omega) ⟨rfl,rfl,by omega,hu⟩
end Go.Ah.Tz
end
section
namespace Go.Ah.Tz
open Go.Proofs.Tryz (prog)
structure NmAt (row:List AVal) (j:Nat) (x:Nm):Prop where
 h0:partA false (j+0) 1 row=some (iv8 x.op)
 h1:partA false (j+1) 1 row=some (iv x.n)
 h2:partA false (j+2) 1 row=some (iv8 x.who)
 h3:partA false (j+3) 1 row=some (.rsl false false 4 (x.kids.map nmC))
theorem nmAt(x:Nm):NmAt (nmC x) 0 x:=by rw[Qx]; exact⟨rfl,rfl,rfl,rfl⟩
theorem nmAt2(x:Ef):NmAt (efC x) 2 x.n:=by rw[YD]; exact⟨rfl,rfl,rfl,rfl⟩
attribute [local irreducible] Ans.rd Ans.pu Ans.wr Ans.dr Ans.gr Ans.gw Ans.gl Ans.gd Ans.opt joinK W
set_option maxHeartbeats 1000000
theorem c210(w:Int):PC 210 [iv8 w] (.bool (cntOp w)):=by
 refine Qc hP g210_ok rfl rfl ?_;unfold g210;refine Za (Yf ..) ?_;refine Ql λk1 hk1=>?_;have kk:∀c,c=cntOp w→k1 [.bool c] []:=by
  rintro c hc;rw[hk1];refine Qb (λh=>?_) (λh=>?_)
  ·rw[←hc,h]
  ·rw[←hc,h]
 clear hk1;refine Qb (λa0=>kk _ ?_) (λa0=>?_)
 ·simp at a0; simp[cntOp,a0]
 refine Za (Yf ..) (Qb (λa1=>kk _ ?_) (λa1=>?_))
 ·simp at a1; simp[cntOp,a1]
 refine Za (Yf ..) (Qb (λa2=>kk _ ?_) (λa2=>?_))
 ·simp at a2; simp[cntOp,a2]
 refine Za (Yf ..) (Qb (λa3=>kk _ ?_) (λa3=>?_))
 ·simp at a3; simp[cntOp,a3]
 refine Za (Yf ..) (kk _ ?_);simp at a0 a1 a2 a3;simp[cntOp,a0,a1,a2,a3]
theorem c212(w:Int):PC 212 [iv8 w] (.bool (sdOp w)):=by
 refine Qc hP g212_ok rfl rfl ?_;unfold g212;refine Za (Yf ..) ?_;rcases YBE (decide (w=0)) with h1|h1
 ·rw[h1];repeat first|refine Xa ?_|refine Zb ?_|refine Yb rfl ?_|refine Zc rfl ?_|refine Zd rfl ?_|refine Xd rfl ?_|refine Za rfl ?_
  simp at h1; simp[sdOp,h1]
 rw[h1];repeat first|refine Xa ?_|refine Zb ?_|refine Za rfl ?_
 have h1:w≠0:=by simpa using h1
 exact congrArg AVal.bool (by rw[Bool.eq_iff_iff]; simp[sdOp,h1])
theorem c211'(u:AVal)(t:Bool):∀(k:Nat) (x:Nm) (row:List AVal) (j:Nat),NmAt row j x→SizeOf.sizeOf x≤k→nmFit x=true→PC 211 [.rptr [u,.bool t] 0,.rptr row j] (.bool (nmOk t x))
 |0,x,_,_,_,h,_=>by cases x; simp at h
 |k+1,x,row,j,hx,hk,hf=>by
  refine Qc hP g211_ok rfl rfl ?_;unfold g211;rw[Ybf];have hlen:=ZX hf;rw[bigE] at hlen;repeat first|refine Za (ldr hx.h0) ?_|refine Za (ldr hx.h1) ?_|refine Za (ldr hx.h2) ?_|refine Za (ldr hx.h3) ?_|refine Za (Yf ..) ?_|refine Za (ldr (row:=[u,.bool t]) rfl) ?_|refine Za rfl ?_
  refine Ql λk11 hk11=>?_;have bad:∀b1 b2 b3:Bool,(b1&&(b2&&b3))=false→AVal.bool false=AVal.bool (b1&&(b2&&b3)):=by
   intro b1 b2 b3 h; rw[h]
  have kk:∀(p o:Bool) (kd:Nat),kd=nmK x.op→(0≤x.op∧x.op≤12)→(p&&o)=nmEnd t x.op x.n x.who→k11 [.bool p,.bool o,iv kd] []:=by
   rintro p o kd rfl hop hpo;rw[hk11]; clear hk11 k11;repeat first|refine Za (ldr hx.h0) ?_|refine Za (ldr hx.h1) ?_|refine Za (ldr hx.h2) ?_|refine Za (ldr hx.h3) ?_|refine Za (Yf ..) ?_|refine Za (ldr (row:=[u,.bool t]) rfl) ?_|refine Za rfl ?_
   cases p with
   |false=>
    repeat first|refine Xa ?_|refine Zb ?_|refine Yb rfl ?_|refine Zc rfl ?_|refine Zd rfl ?_|refine Xd rfl ?_|refine Za (ldr hx.h0) ?_|refine Za (ldr hx.h1) ?_|refine Za (ldr hx.h2) ?_|refine Za (ldr hx.h3) ?_|refine Za (Yf ..) ?_|refine Za (ldr (row:=[u,.bool t]) rfl) ?_|refine Za rfl ?_
    refine Ze (bad _ _ _ ?_);rw[←hpo]; simp
   |true=>
    repeat first|refine Xa ?_|refine Zb ?_|refine Za (ldr hx.h0) ?_|refine Za (ldr hx.h1) ?_|refine Za (ldr hx.h2) ?_|refine Za (ldr hx.h3) ?_|refine Za (Yf ..) ?_|refine Za (ldr (row:=[u,.bool t]) rfl) ?_|refine Za rfl ?_
    cases o with
    |false=>
     repeat first|refine Xa ?_|refine Zb ?_|refine Yb rfl ?_|refine Zc rfl ?_|refine Zd rfl ?_|refine Xd rfl ?_|refine Za (ldr hx.h0) ?_|refine Za (ldr hx.h1) ?_|refine Za (ldr hx.h2) ?_|refine Za (ldr hx.h3) ?_|refine Za (Yf ..) ?_|refine Za (ldr (row:=[u,.bool t]) rfl) ?_|refine Za rfl ?_
     refine Ze (bad _ _ _ ?_);rw[←hpo]; simp
    |true=>
     repeat first|refine Xa ?_|refine Zb ?_|refine Za (ldr hx.h0) ?_|refine Za (ldr hx.h1) ?_|refine Za (ldr hx.h2) ?_|refine Za (ldr hx.h3) ?_|refine Za (Yf ..) ?_|refine Za (ldr (row:=[u,.bool t]) rfl) ?_|refine Za rfl ?_
     refine Qb (λh=>bad _ _ _ ?_) (λh=>?_)
     ·have:nmTop t x.op x.n x.who x.kids.length=false:=by
       rw[Bool.eq_false_iff]; intro hh; simp[nmTop] at hh; simp at h; omega
      rw[this]; rfl
     have ht:nmTop t x.op x.n x.who x.kids.length=true:=by simp at h; simp[nmTop]; omega
     rw[ht,←hpo,Bool.true_and,Bool.and_self,Bool.and_true];repeat first|refine Za (ldr hx.h0) ?_|refine Za (ldr hx.h1) ?_|refine Za (ldr hx.h2) ?_|refine Za (ldr hx.h3) ?_|refine Za (Yf ..) ?_|refine Za (ldr (row:=[u,.bool t]) rfl) ?_|refine Za rfl ?_
     refine Qk (ι:=Nat) (λi vs σ=>vs=[iv i]∧σ=[]∧i≤x.kids.length∧nmsOk t x.kids=nmsOk t (x.kids.drop i)) (λi=>x.kids.length-i) 0 ⟨rfl,rfl,by omega,by simp⟩ ?_;rintro i vs σ again ⟨rfl,rfl,hi,hu⟩ hag;refine Za rfl ?_;refine Qb (λh=>?_) (λh=>?_)
     ·have h:i<x.kids.length:=by simpa using h
      have hdr:x.kids.drop i=x.kids[i]::x.kids.drop (i+1):=by rw[YLD h]
      rw[hdr,nmsOk] at hu;have hm:x.kids[i]∈x.kids:=List.getElem_mem h;refine Za rfl (Za rfl (Za (ldr hx.h3) (Za (Yo _ nmC _ _ _ x.kids _ i h) ?_)));refine Yd (c211' u t k _ _ 0 (nmAt _) (by have:=ZV hm; omega) (YH hf hm)) rfl g211_ok.plain rfl ?_;refine Za rfl ?_;refine Qb (λh4=>?_) (λh4=>?_)
      ·have h4:nmOk t x.kids[i]=false:=by simpa using h4
       rw[hu,h4]; rfl
      ·have h4:nmOk t x.kids[i]=true:=by simpa using h4
       rw[h4,Bool.true_and] at hu;refine Za (Zk ..) ?_;rw[Yg (n:=i) (by omega)];exact hag (i+1) _ _ (by omega) ⟨rfl,rfl,by omega,hu⟩
     have h:i=x.kids.length:=by simp at h; omega
     subst h;rw[List.drop_length,nmsOk] at hu;rw[hu]
  clear hk11;repeat first|refine Za (ldr hx.h0) ?_|refine Za (ldr hx.h1) ?_|refine Za (ldr hx.h2) ?_|refine Za (ldr hx.h3) ?_|refine Za (Yf ..) ?_|refine Za (ldr (row:=[u,.bool t]) rfl) ?_|refine Za rfl ?_
  refine Qb (λa0=>?_) (λa0=>?_)
  ·have a0:x.op=0:=by simpa using a0
   repeat first|refine Za (ldr hx.h0) ?_|refine Za (ldr hx.h1) ?_|refine Za (ldr hx.h2) ?_|refine Za (ldr hx.h3) ?_|refine Za (Yf ..) ?_|refine Za (ldr (row:=[u,.bool t]) rfl) ?_|refine Za rfl ?_
   have e:nmEnd t x.op x.n x.who=((decide (0≤x.n)&&decide (x.n≤999))&&decide (x.who=0)):=by simp[nmEnd,a0,Bool.and_assoc]
   rcases YBE (decide (x.n ≥ 0)) with h|h
   ·rw[h];repeat first|refine Xa ?_|refine Zb ?_|refine Za (ldr hx.h0) ?_|refine Za (ldr hx.h1) ?_|refine Za (ldr hx.h2) ?_|refine Za (ldr hx.h3) ?_|refine Za (Yf ..) ?_|refine Za (ldr (row:=[u,.bool t]) rfl) ?_|refine Za rfl ?_
    refine kk _ _ 0 (by simp[nmK,a0]) (by omega) ?_;simp at h; rw[e]; simp[h]
   ·rw[h];repeat first|refine Xa ?_|refine Zb ?_|refine Yb rfl ?_|refine Zc rfl ?_|refine Zd rfl ?_|refine Xd rfl ?_|refine Za (ldr hx.h0) ?_|refine Za (ldr hx.h1) ?_|refine Za (ldr hx.h2) ?_|refine Za (ldr hx.h3) ?_|refine Za (Yf ..) ?_|refine Za (ldr (row:=[u,.bool t]) rfl) ?_|refine Za rfl ?_
    refine kk _ _ 0 (by simp[nmK,a0]) (by omega) ?_;simp at h; rw[e]; simp; intro h1; omega
  have a0:x.op≠0:=by simpa using a0
  repeat first|refine Za (ldr hx.h0) ?_|refine Za (ldr hx.h1) ?_|refine Za (ldr hx.h2) ?_|refine Za (ldr hx.h3) ?_|refine Za (Yf ..) ?_|refine Za (ldr (row:=[u,.bool t]) rfl) ?_|refine Za rfl ?_
  refine Ql λk25 hk25=>?_;have m1:∀c,c=decide (x.op=1∨x.op=2∨x.op=3∨x.op=4)→k25 [.bool c] []:=by
   rintro c hc;rw[hk25]; clear hk25 k25;refine Qb (λh=>?_) (λh=>?_)
   ·rw[h] at hc;have a1:x.op=1∨x.op=2∨x.op=3∨x.op=4:=by simpa using hc.symm
    repeat first|refine Za (ldr hx.h0) ?_|refine Za (ldr hx.h1) ?_|refine Za (ldr hx.h2) ?_|refine Za (ldr hx.h3) ?_|refine Za (Yf ..) ?_|refine Za (ldr (row:=[u,.bool t]) rfl) ?_|refine Za rfl ?_
    refine Yd (c212 _) rfl g212_ok.plain rfl ?_;refine kk _ _ 0 (by simp[nmK]; omega) (by omega) ?_;rw[nmEnd,if_neg a0,if_pos (by omega)]
   rw[h] at hc;have a1:¬(x.op=1∨x.op=2∨x.op=3∨x.op=4):=by simpa using hc.symm
   have e:nmEnd t x.op x.n x.who=(decide (x.n=0)&&(decide (x.who=0)&&(decide (x.op≠7)||t)))∨¬(0≤x.op∧x.op≤12):=by
    by_cases hr:0≤x.op∧x.op≤12
    ·left; rw[nmEnd,if_neg a0,if_neg (by omega)]
    ·right; exact hr
   repeat first|refine Za (ldr hx.h0) ?_|refine Za (ldr hx.h1) ?_|refine Za (ldr hx.h2) ?_|refine Za (ldr hx.h3) ?_|refine Za (Yf ..) ?_|refine Za (ldr (row:=[u,.bool t]) rfl) ?_|refine Za rfl ?_
   refine Ql λk35 hk35=>?_;have m2:∀c,c=decide (x.op=5∨x.op=6)→k35 [.bool c] []:=by
    rintro c hc;rw[hk35]; clear hk35 k35;refine Qb (λh=>?_) (λh=>?_)
    ·rw[h] at hc;have a2:x.op=5∨x.op=6:=by simpa using hc.symm
     refine kk _ _ 0 (by simp[nmK]; omega) (by omega) ?_;rcases e with e|e
     ·rw[e]; simp[show x.op≠7 by omega]
     ·omega
    rw[h] at hc;have a2:¬(x.op=5∨x.op=6):=by simpa using hc.symm
    repeat first|refine Za (ldr hx.h0) ?_|refine Za (ldr hx.h1) ?_|refine Za (ldr hx.h2) ?_|refine Za (ldr hx.h3) ?_|refine Za (Yf ..) ?_|refine Za (ldr (row:=[u,.bool t]) rfl) ?_|refine Za rfl ?_
    refine Qb (λa3=>?_) (λa3=>?_)
    ·have a3:x.op=7:=by simpa using a3
     rcases e with e|e
     ·rcases YBE (decide (x.who=0)) with h|h
      ·rw[h];repeat first|refine Xa ?_|refine Zb ?_|refine Za (ldr hx.h0) ?_|refine Za (ldr hx.h1) ?_|refine Za (ldr hx.h2) ?_|refine Za (ldr hx.h3) ?_|refine Za (Yf ..) ?_|refine Za (ldr (row:=[u,.bool t]) rfl) ?_|refine Za rfl ?_
       refine kk _ _ 0 (by simp[nmK,a3]) (by omega) ?_;rw[e,h]; simp[a3]
      ·rw[h];repeat first|refine Xa ?_|refine Zb ?_|refine Yb rfl ?_|refine Zc rfl ?_|refine Zd rfl ?_|refine Xd rfl ?_|refine Za (ldr hx.h0) ?_|refine Za (ldr hx.h1) ?_|refine Za (ldr hx.h2) ?_|refine Za (ldr hx.h3) ?_|refine Za (Yf ..) ?_|refine Za (ldr (row:=[u,.bool t]) rfl) ?_|refine Za rfl ?_
       refine kk _ _ 0 (by simp[nmK,a3]) (by omega) ?_;rw[e,h]; simp
     ·omega
    have a3:x.op≠7:=by simpa using a3
    repeat first|refine Za (ldr hx.h0) ?_|refine Za (ldr hx.h1) ?_|refine Za (ldr hx.h2) ?_|refine Za (ldr hx.h3) ?_|refine Za (Yf ..) ?_|refine Za (ldr (row:=[u,.bool t]) rfl) ?_|refine Za rfl ?_
    refine Ql λk45 hk45=>?_;have m3:∀c,c=decide (x.op=8∨x.op=9∨x.op=10∨x.op=11∨x.op=12)→k45 [.bool c] []:=by
     rintro c hc;rw[hk45]; clear hk45 k45;refine Qb (λh=>?_) (λh=>?_)
     ·rw[h] at hc;have a4:x.op=8∨x.op=9∨x.op=10∨x.op=11∨x.op=12:=by simpa using hc.symm
      refine kk _ _ 2 (by simp[nmK]; omega) (by omega) ?_;rcases e with e|e
      ·rw[e]; simp[a3]
      ·omega
     ·rw[h] at hc;have a4:¬(x.op=8∨x.op=9∨x.op=10∨x.op=11∨x.op=12):=by simpa using hc.symm
      refine bad _ _ _ ?_;have:nmTop t x.op x.n x.who x.kids.length=false:=by
       rw[Bool.eq_false_iff]; intro hh; simp[nmTop] at hh; omega
      rw[this]; rfl
    clear hk45;refine Qb (λc1=>m3 _ ?_) (λc1=>?_)
    ·simp at c1; simp[c1]
    refine Za (Yf ..) (Qb (λc2=>m3 _ ?_) (λc2=>?_))
    ·simp at c2; simp[c2]
    refine Za (Yf ..) (Qb (λc3=>m3 _ ?_) (λc3=>?_))
    ·simp at c3; simp[c3]
    refine Za (Yf ..) (Qb (λc4=>m3 _ ?_) (λc4=>?_))
    ·simp at c4; simp[c4]
    refine Za (Yf ..) (m3 _ ?_);simp at c1 c2 c3 c4; simp[c1,c2,c3,c4]
   clear hk35;refine Qb (λc1=>m2 _ ?_) (λc1=>?_)
   ·simp at c1; simp[c1]
   refine Za (Yf ..) (m2 _ ?_);simp at c1; simp[c1]
  clear hk25;refine Qb (λc1=>m1 _ ?_) (λc1=>?_)
  ·simp at c1; simp[c1]
  refine Za (Yf ..) (Qb (λc2=>m1 _ ?_) (λc2=>?_))
  ·simp at c2; simp[c2]
  refine Za (Yf ..) (Qb (λc3=>m1 _ ?_) (λc3=>?_))
  ·simp at c3; simp[c3]
  refine Za (Yf ..) (m1 _ ?_);simp at c1 c2 c3; simp[c1,c2,c3]
theorem c211(u:AVal)(t:Bool)(x:Nm)(row:List AVal)(j:Nat)(hx:NmAt row j x)(hf:nmFit x=true):PC 211 [.rptr [u,.bool t] 0,.rptr row j] (.bool (nmOk t x)):=c211' u t _ x row j hx (Nat.le_refl _) hf
end Go.Ah.Tz
end
section
namespace Go.Ah.Tz
open Go.Proofs.Tryz (prog)
def tlook(t:Tx):List (Tx×Bool)→Option Bool
 |[]=>none
 |p::l=>if t==p.1 then some p.2 else tlook t l
def mpE(l:List (Tx×Bool)):List (AVal×AVal):=l.map λp=>(AVal.str p.1,AVal.bool p.2)
theorem X1(t:Tx):∀l,alook (.str t) (mpE l)=some ((tlook t l).map AVal.bool)
 |[]=>rfl
 |p::l=>by
  simp only[mpE,List.map_cons,alook,keyEq,tlook];cases h:t==p.1 with
  |true=>rfl
  |false=>exact X1 t l
def chkM(l:List (Tx×Bool))(t:Bool):List AVal:=[.rmap (mpE l),.bool t]
theorem QQ(l:List (Tx×Bool))(t:Tx)(σ:List ABlk):Qq true true (.bool false) [.rmap (mpE l),.str t] σ=.ok (.tup [.bool ((tlook t l).getD false),.bool (tlook t l).isSome]) [] []:=by
 show (match alook (.str t) (mpE l) with
  |some r=>SRes.ok (lookV true (.bool false) r) [] []
  | none=>.stop)=_
 rw[X1];cases tlook t l<;>rfl
theorem Zl(l:List (Tx×Bool))(t:Tx)(σ:List ABlk):Qq true false (.bool false) [.rmap (mpE l),.str t] σ=.ok (.bool ((tlook t l).getD false)) [] []:=by
 show (match alook (.str t) (mpE l) with
  |some r=>SRes.ok (lookV false (.bool false) r) [] []
  | none=>.stop)=_
 rw[X1];cases tlook t l<;>rfl
def Units(l:List (Tx×Bool))(cs:List Cd):Prop:=∀t u,findC cs t u=match tlook t l with
 |none=>false
 |some b=>b || !u
structure CnAt (row:List AVal) (j:Nat) (x:Cn):Prop where
 h0:partA false (j+0) 1 row=some (iv8 x.op)
 h1:partA false (j+1) 1 row=some (iv8 x.who)
 h2:partA false (j+2) 1 row=some (.str x.name)
 h3:partA false (j+3) 1 row=some (.rsl false false 4 (x.nums.map nmC))
 h4:partA false (j+4) 1 row=some (.rsl false false 5 (x.kids.map cnC))
theorem cnAt(x:Cn):CnAt (cnC x) 0 x:=by rw[ZM]; exact⟨rfl,rfl,rfl,rfl,rfl⟩
theorem cnAt7(x:Ef):CnAt (efC x) 7 x.c:=by rw[YD]; exact⟨rfl,rfl,rfl,rfl,rfl⟩
attribute [local irreducible] Ans.rd Ans.pu Ans.wr Ans.dr Ans.gr Ans.gw Ans.gl Ans.gd Ans.opt joinK W
set_option maxHeartbeats 1000000
theorem Ycc{P:Program}{GL:Globs}{c d:Bool}{K:AVal→Prop}{r1:SRes}{f2 f3 f4 f5:AVal→SRes}{σ:List ABlk}{v1 v2 v3 v4:AVal}{q1 q2 q3 q4 q5:List Nat}(h1:r1=.ok v1 q1 [])(h2:f2 v1=.ok v2 q2 [])(h3:f3 v2=.ok v3 q3 [])(h4:f4 v3=.ok v4 q4 [])(h5:f5 v4=.ok (.bool d) q5 [])(hK:K (.bool (c&&d))) :
  (W P GL).gr (.bool c) true (λk=>(W P GL).rd r1 k) λt1=>(W P GL).gr (.bool c) true (λk=>(W P GL).rd (f2 t1) k) λt2=>(W P GL).gr (.bool c) true (λk=>(W P GL).rd (f3 t2) k) λt3=>(W P GL).gr (.bool c) true (λk=>(W P GL).rd (f4 t3) k) λt4=>(W P GL).gr (.bool c) true (λk=>(W P GL).rd (f5 t4) k) λt5=>(W P GL).rd (Zn [.bool c,t5,.bool false] σ) K:=by
 cases c with
 |true=>exact Xa (Za h1 (Xa (Za h2 (Xa (Za h3 (Xa (Za h4 (Xa (Za h5 (Za rfl hK))))))))))
 |false=>exact Yb rfl (Yb rfl (Yb rfl (Yb rfl (Yb rfl (Za rfl hK)))))
theorem c213'(l:List (Tx×Bool))(cs:List Cd)(hU:Units l cs)(t:Bool):∀(k:Nat) (x:Cn) (row:List AVal) (j:Nat),CnAt row j x→SizeOf.sizeOf x≤k→cnFit x=true→PC 213 [.rptr (chkM l t) 0,.rptr row j] (.bool (cnOk cs t x))
 |0,x,_,_,_,h,_=>by cases x; simp at h
 |k+1,x,row,j,hx,hk,hf=>by
  refine Qc hP g213_ok rfl rfl ?_;unfold g213;rw[QbI];have hl1:=QN hf;have hl2:=XN hf;rw[bigE] at hl1 hl2;refine Za rfl (Za rfl (Za (ldr hx.h1) (Za (Yf ..) ?_)));refine Ycc rfl rfl rfl (ldr hx.h2) (Zf ..) ?_;refine Za rfl (Za rfl (Za (ldr hx.h0) ?_));have bad:∀b1 b2 b3 b4:Bool,(b1&&(b2&&(b3&&b4)))=false→AVal.bool false=AVal.bool (b1&&(b2&&(b3&&b4))):=by
   intro b1 b2 b3 b4 h; rw[h]
  have badT:¬(0≤x.op∧x.op≤6∧x.nums.length=cnK3 x.op∧x.kids.length=cnK4 x.op)→AVal.bool false=AVal.bool (cnTop x.op x.nums.length x.kids.length&&(nmsOk t x.nums&&(cnsOk cs t x.kids&&cnEnd cs x.op x.who x.name))):=by
   intro hn;have:cnTop x.op x.nums.length x.kids.length=false:=by
    rw[Bool.eq_false_iff]; intro hh; simp[cnTop] at hh; exact hn hh
   rw[this]; rfl
  refine Ql λk13 hk13=>?_;have kk:∀(ok:Bool) (k3 k4:Nat),k3=cnK3 x.op→k4=cnK4 x.op→(0≤x.op∧x.op≤6)→ok=cnEnd cs x.op x.who x.name→k13 [.bool ok,iv k3,iv k4] []:=by
   rintro ok k3 k4 rfl rfl hop hok;rw[hk13]; clear hk13 k13;repeat first|refine Za (ldr hx.h0) ?_|refine Za (ldr hx.h1) ?_|refine Za (ldr hx.h2) ?_|refine Za (ldr hx.h3) ?_|refine Za (ldr hx.h4) ?_|refine Za (Yf ..) ?_|refine Za (Zf ..) ?_|refine Za (ldr (row:=chkM l t) rfl) ?_|refine Za (QQ ..) ?_|refine Za rfl ?_
   cases ok with
   |false=>
    repeat first|refine Xa ?_|refine Zb ?_|refine Yb rfl ?_|refine Zc rfl ?_|refine Zd rfl ?_|refine Xd rfl ?_|refine Za (ldr hx.h0) ?_|refine Za (ldr hx.h1) ?_|refine Za (ldr hx.h2) ?_|refine Za (ldr hx.h3) ?_|refine Za (ldr hx.h4) ?_|refine Za (Yf ..) ?_|refine Za (Zf ..) ?_|refine Za (ldr (row:=chkM l t) rfl) ?_|refine Za (QQ ..) ?_|refine Za rfl ?_
    refine Ze (bad _ _ _ _ ?_);rw[←hok]; simp
   |true=>
    repeat first|refine Xa ?_|refine Zb ?_|refine Za (ldr hx.h0) ?_|refine Za (ldr hx.h1) ?_|refine Za (ldr hx.h2) ?_|refine Za (ldr hx.h3) ?_|refine Za (ldr hx.h4) ?_|refine Za (Yf ..) ?_|refine Za (Zf ..) ?_|refine Za (ldr (row:=chkM l t) rfl) ?_|refine Za (QQ ..) ?_|refine Za rfl ?_
    rcases YBE (((x.nums.map nmC).length:Int) != (cnK3 x.op:Int)) with h3|h3
    ·rw[h3];repeat first|refine Xa ?_|refine Zb ?_|refine Yb rfl ?_|refine Zc rfl ?_|refine Zd rfl ?_|refine Xd rfl ?_|refine Za (ldr hx.h0) ?_|refine Za (ldr hx.h1) ?_|refine Za (ldr hx.h2) ?_|refine Za (ldr hx.h3) ?_|refine Za (ldr hx.h4) ?_|refine Za (Yf ..) ?_|refine Za (Zf ..) ?_|refine Za (ldr (row:=chkM l t) rfl) ?_|refine Za (QQ ..) ?_|refine Za rfl ?_
     refine Ze (badT ?_);simp at h3; omega
    rw[h3];repeat first|refine Xa ?_|refine Zb ?_|refine Za (ldr hx.h0) ?_|refine Za (ldr hx.h1) ?_|refine Za (ldr hx.h2) ?_|refine Za (ldr hx.h3) ?_|refine Za (ldr hx.h4) ?_|refine Za (Yf ..) ?_|refine Za (Zf ..) ?_|refine Za (ldr (row:=chkM l t) rfl) ?_|refine Za (QQ ..) ?_|refine Za rfl ?_
    refine Qb (λh4=>badT ?_) (λh4=>?_)
    ·simp at h4; omega
    simp at h3 h4;have ht:cnTop x.op x.nums.length x.kids.length=true:=by simp[cnTop]; omega
    rw[ht,←hok,Bool.true_and,Bool.and_true];repeat first|refine Za (ldr hx.h0) ?_|refine Za (ldr hx.h1) ?_|refine Za (ldr hx.h2) ?_|refine Za (ldr hx.h3) ?_|refine Za (ldr hx.h4) ?_|refine Za (Yf ..) ?_|refine Za (Zf ..) ?_|refine Za (ldr (row:=chkM l t) rfl) ?_|refine Za (QQ ..) ?_|refine Za rfl ?_
    refine Qk (ι:=Nat) (λi vs σ=>vs=[iv i]∧σ=[]∧i≤x.nums.length∧nmsOk t x.nums=nmsOk t (x.nums.drop i)) (λi=>x.nums.length-i) 0 ⟨rfl,rfl,by omega,by simp⟩ ?_;rintro i vs σ again ⟨rfl,rfl,hi,hu⟩ hag;refine Za rfl ?_;refine Qb (λh=>?_) (λh=>?_)
    ·have h:i<x.nums.length:=by simpa using h
     have hdr:x.nums.drop i=x.nums[i]::x.nums.drop (i+1):=by rw[YLD h]
     rw[hdr,nmsOk] at hu;have hm:x.nums[i]∈x.nums:=List.getElem_mem h;refine Za rfl (Za rfl (Za (ldr hx.h3) (Za (Yo _ nmC _ _ _ x.nums _ i h) ?_)));refine Yd (c211 _ t _ _ 0 (nmAt _) (YW hf hm)) rfl g211_ok.plain rfl ?_;refine Za rfl ?_;refine Qb (λh4=>?_) (λh4=>?_)
     ·have h4:nmOk t x.nums[i]=false:=by simpa using h4
      rw[hu,h4]; rfl
     ·have h4:nmOk t x.nums[i]=true:=by simpa using h4
      rw[h4,Bool.true_and] at hu;refine Za (Zk ..) ?_;rw[Yg (n:=i) (by omega)];exact hag (i+1) _ _ (by omega) ⟨rfl,rfl,by omega,hu⟩
    have h:i=x.nums.length:=by simp at h; omega
    subst h;rw[List.drop_length,nmsOk] at hu;rw[hu,Bool.true_and];clear hag hu hi;repeat first|refine Za (ldr hx.h0) ?_|refine Za (ldr hx.h1) ?_|refine Za (ldr hx.h2) ?_|refine Za (ldr hx.h3) ?_|refine Za (ldr hx.h4) ?_|refine Za (Yf ..) ?_|refine Za (Zf ..) ?_|refine Za (ldr (row:=chkM l t) rfl) ?_|refine Za (QQ ..) ?_|refine Za rfl ?_
    refine Qk (ι:=Nat) (λi vs s=>vs=[iv i]∧s=[]∧i≤x.kids.length∧cnsOk cs t x.kids=cnsOk cs t (x.kids.drop i)) (λi=>x.kids.length-i) 0 ⟨rfl,rfl,by omega,by simp⟩ ?_;rintro i vs s again ⟨rfl,rfl,hi,hu⟩ hag;refine Za rfl ?_;refine Qb (λh=>?_) (λh=>?_)
    ·have h:i<x.kids.length:=by simpa using h
     have hdr:x.kids.drop i=x.kids[i]::x.kids.drop (i+1):=by rw[YLD h]
     rw[hdr,cnsOk] at hu;have hm:x.kids[i]∈x.kids:=List.getElem_mem h;refine Za rfl (Za rfl (Za (ldr hx.h4) (Za (Yo _ cnC _ _ _ x.kids _ i h) ?_)));refine Yd (c213' l cs hU t k _ _ 0 (cnAt _) (by have:=Zak hm; omega) (ZW hf hm)) rfl g213_ok.plain rfl ?_;refine Za rfl ?_;refine Qb (λh4=>?_) (λh4=>?_)
     ·have h4:cnOk cs t x.kids[i]=false:=by simpa using h4
      rw[hu,h4]; rfl
     ·have h4:cnOk cs t x.kids[i]=true:=by simpa using h4
      rw[h4,Bool.true_and] at hu;refine Za (Zk ..) ?_;rw[Yg (n:=i) (by omega)];exact hag (i+1) _ _ (by omega) ⟨rfl,rfl,by omega,hu⟩
    have h:i=x.kids.length:=by simp at h; omega
    subst h;rw[List.drop_length,cnsOk] at hu;rw[hu]
  clear hk13;have e6:x.op≠6→(decide (x.who=0)&&(x.name==[]))=cnEnd cs x.op x.who x.name:=by
   intro h; rw[cnEnd,if_neg h]
  refine Za (Yf ..) ?_;refine Ql λk1 hk1=>?_;have m1:∀c,c=decide (x.op=0∨x.op=1∨x.op=2)→k1 [.bool c] []:=by
   rintro c hc;rw[hk1]; clear hk1 k1;refine Qb (λh=>?_) (λh=>?_)
   ·rw[h] at hc;have a1:x.op=0∨x.op=1∨x.op=2:=by simpa using hc.symm
    exact kk _ 2 0 (by simp[cnK3]; omega) (by unfold cnK4; split<;>(try split)<;>omega) (by omega) (e6 (by omega))
   rw[h] at hc;have a1:¬(x.op=0∨x.op=1∨x.op=2):=by simpa using hc.symm
   refine Za (Yf ..) (Qb (λa3=>?_) (λa3=>?_))
   ·have a3:x.op=3:=by simpa using a3
    exact kk _ 0 1 (by simp[cnK3]; omega) (by unfold cnK4; split<;>(try split)<;>omega) (by omega) (e6 (by omega))
   have a3:x.op≠3:=by simpa using a3
   refine Za (Yf ..) ?_;refine Ql λk1 hk1=>?_;have m2:∀c,c=decide (x.op=4∨x.op=5)→k1 [.bool c] []:=by
    rintro c hc;rw[hk1]; clear hk1 k1;refine Qb (λh=>?_) (λh=>?_)
    ·rw[h] at hc;have a1:x.op=4∨x.op=5:=by simpa using hc.symm
     exact kk _ 0 2 (by simp[cnK3]; omega) (by unfold cnK4; split<;>(try split)<;>omega) (by omega) (e6 (by omega))
    rw[h] at hc;have a4:¬(x.op=4∨x.op=5):=by simpa using hc.symm
    refine Za (Yf ..) (Qb (λa6=>?_) (λa6=>?_))
    ·have a6:x.op=6:=by simpa using a6
     repeat first|refine Za (ldr hx.h0) ?_|refine Za (ldr hx.h1) ?_|refine Za (ldr hx.h2) ?_|refine Za (ldr hx.h3) ?_|refine Za (ldr hx.h4) ?_|refine Za (Yf ..) ?_|refine Za (Zf ..) ?_|refine Za (ldr (row:=chkM l t) rfl) ?_|refine Za (QQ ..) ?_|refine Za rfl ?_
     have hfind:=hU x.name false;have e:cnEnd cs x.op x.who x.name=((tlook x.name l).isSome&&sdOp x.who):=by
      rw[cnEnd,if_pos a6,hfind];cases tlook x.name l<;>simp
     rcases YBE (tlook x.name l).isSome with h|h
     ·rw[h];repeat first|refine Xa ?_|refine Zb ?_|refine Za (ldr hx.h0) ?_|refine Za (ldr hx.h1) ?_|refine Za (ldr hx.h2) ?_|refine Za (ldr hx.h3) ?_|refine Za (ldr hx.h4) ?_|refine Za (Yf ..) ?_|refine Za (Zf ..) ?_|refine Za (ldr (row:=chkM l t) rfl) ?_|refine Za (QQ ..) ?_|refine Za rfl ?_
      refine Yd (c212 _) rfl g212_ok.plain rfl ?_;repeat first|refine Xa ?_|refine Zb ?_|refine Za (ldr hx.h0) ?_|refine Za (ldr hx.h1) ?_|refine Za (ldr hx.h2) ?_|refine Za (ldr hx.h3) ?_|refine Za (ldr hx.h4) ?_|refine Za (Yf ..) ?_|refine Za (Zf ..) ?_|refine Za (ldr (row:=chkM l t) rfl) ?_|refine Za (QQ ..) ?_|refine Za rfl ?_
      exact kk _ 0 0 (by simp[cnK3]; omega) (by unfold cnK4; split<;>(try split)<;>omega) (by omega) (by rw[e,h,Bool.true_and])
     ·rw[h];repeat first|refine Xa ?_|refine Zb ?_|refine Yb rfl ?_|refine Zc rfl ?_|refine Zd rfl ?_|refine Xd rfl ?_|refine Za (ldr hx.h0) ?_|refine Za (ldr hx.h1) ?_|refine Za (ldr hx.h2) ?_|refine Za (ldr hx.h3) ?_|refine Za (ldr hx.h4) ?_|refine Za (Yf ..) ?_|refine Za (Zf ..) ?_|refine Za (ldr (row:=chkM l t) rfl) ?_|refine Za (QQ ..) ?_|refine Za rfl ?_
      exact kk _ 0 0 (by simp[cnK3]; omega) (by unfold cnK4; split<;>(try split)<;>omega) (by omega) (by rw[e,h,Bool.false_and])
    ·have a6:x.op≠6:=by simpa using a6
     exact badT (by omega)
   clear hk1;refine Qb (λc1=>m2 _ ?_) (λc1=>?_)
   ·simp at c1; simp[c1]
   refine Za (Yf ..) (m2 _ ?_);simp at c1; simp[c1]
  clear hk1;refine Qb (λc1=>m1 _ ?_) (λc1=>?_)
  ·simp at c1; simp[c1]
  refine Za (Yf ..) (Qb (λc2=>m1 _ ?_) (λc2=>?_))
  ·simp at c2; simp[c2]
  refine Za (Yf ..) (m1 _ ?_);simp at c1 c2; simp[c1,c2]
theorem c213(l:List (Tx×Bool))(cs:List Cd)(hU:Units l cs)(t:Bool)(x:Cn)(row:List AVal)(j:Nat)(hx:CnAt row j x)(hf:cnFit x=true):PC 213 [.rptr (chkM l t) 0,.rptr row j] (.bool (cnOk cs t x)):=c213' l cs hU t _ x row j hx (Nat.le_refl _) hf
end Go.Ah.Tz
end
section
namespace Go.Ah.Tz
open Go.Proofs.Tryz (prog)
def zeroB(x:Ef):Bool:=((cntOp x.op||noNum x.n)&&(decide (x.op=7)||x.name==[]))&&(decide (x.op=8)||(decide (x.c.op=0)&&(decide (x.c.who=0)&&(x.c.name==[]&&decide (x.c.nums.length+x.c.kids.length+x.thn.length+x.els.length=0)))))
attribute [local irreducible] Ans.rd Ans.pu Ans.wr Ans.dr Ans.gr Ans.gw Ans.gl Ans.gd Ans.opt joinK W
set_option maxHeartbeats 2000000
theorem c209(x:Ef)(hf:efFit x=true):PC 209 [.rptr (efC x) 0] (.bool (zeroB x)):=by
 have l1:=QN (YY hf);have l2:=XN (YY hf);have l3:=QA (ZK hf);have l4:=QA (QJ hf);rw[bigE] at l1 l2 l3 l4;rw[YD];refine Qc hP g209_ok rfl rfl ?_;unfold g209;repeat first|refine Za (Yf ..) ?_|refine Za (Zf ..) ?_|refine Za (ldr (row:=[iv8 x.op,iv8 x.who,iv8 x.n.op,iv x.n.n,iv8 x.n.who,.rsl false false 4 (x.n.kids.map nmC),.str x.name,iv8 x.c.op,iv8 x.c.who,.str x.c.name,.rsl false false 4 (x.c.nums.map nmC),.rsl false false 5 (x.c.kids.map cnC),.rsl false false 14 (x.thn.map efC),.rsl false false 14 (x.els.map efC)]) rfl) ?_|refine Za rfl ?_
 refine Yd (c210 _) rfl g210_ok.plain rfl ?_;have r1:∀K:AVal→Prop,K (.bool (cntOp x.op||noNum x.n))→VV.gr (AVal.bool (cntOp x.op)) false (λk=>VV.rd (Qh [(AVal.rptr [iv8 x.op,iv8 x.who,iv8 x.n.op,iv x.n.n,iv8 x.n.who,.rsl false false 4 (x.n.kids.map nmC),.str x.name,iv8 x.c.op,iv8 x.c.who,.str x.c.name,.rsl false false 4 (x.c.nums.map nmC),.rsl false false 5 (x.c.kids.map cnC),.rsl false false 14 (x.thn.map efC),.rsl false false 14 (x.els.map efC)] 0)] ([]:List ABlk)) k) λt13_4=>VV.gr (AVal.bool (cntOp x.op)) false (λk=>VV.rd (Qa [t13_4] ([]:List ABlk)) k) λt14_5=>VV.gr (AVal.bool (cntOp x.op)) false (λk=>VV.rd (Ya 2 [t14_5] ([]:List ABlk)) k) λt15_6=>VV.gr (AVal.bool (cntOp x.op)) false (λk=>VV.rd (Ya 0 [t15_6] ([]:List ABlk)) k) λt16_7=>VV.gr (AVal.bool (cntOp x.op)) false (λk=>VV.rd (Xc false 1 [t16_7] ([]:List ABlk)) k) λt17_8=>VV.gr (AVal.bool (cntOp x.op)) false (λk=>VV.rd (Yi .eql false [t17_8,(.int .i8 0)] ([]:List ABlk)) k) λt18_9=>VV.gr (AVal.bool (cntOp x.op)) false (λk=>VV.rd (Qh [t18_9] ([]:List ABlk)) k) λt19_10=>VV.gr t19_10 true (λk=>VV.rd (Qh [(AVal.rptr [iv8 x.op,iv8 x.who,iv8 x.n.op,iv x.n.n,iv8 x.n.who,.rsl false false 4 (x.n.kids.map nmC),.str x.name,iv8 x.c.op,iv8 x.c.who,.str x.c.name,.rsl false false 4 (x.c.nums.map nmC),.rsl false false 5 (x.c.kids.map cnC),.rsl false false 14 (x.thn.map efC),.rsl false false 14 (x.els.map efC)] 0)] ([]:List ABlk)) k) λt20_11=>VV.gr t19_10 true (λk=>VV.rd (Qa [t20_11] ([]:List ABlk)) k) λt21_12=>VV.gr t19_10 true (λk=>VV.rd (Ya 2 [t21_12] ([]:List ABlk)) k) λt22_13=>VV.gr t19_10 true (λk=>VV.rd (Ya 1 [t22_13] ([]:List ABlk)) k) λt23_14=>VV.gr t19_10 true (λk=>VV.rd (Xc false 1 [t23_14] ([]:List ABlk)) k) λt24_15=>VV.gr t19_10 true (λk=>VV.rd (Yi .eql false [t24_15,(.int .i64 0)] ([]:List ABlk)) k) λt25_16=>VV.gr (AVal.bool (cntOp x.op)) false (λk=>VV.rd (Zn [t19_10,t25_16,(.bool false)] ([]:List ABlk)) k) λt26_17=>VV.gr (AVal.bool (cntOp x.op)) false (λk=>VV.rd (Qh [t26_17] ([]:List ABlk)) k) λt27_18=>VV.gr t27_18 true (λk=>VV.rd (Qh [(AVal.rptr [iv8 x.op,iv8 x.who,iv8 x.n.op,iv x.n.n,iv8 x.n.who,.rsl false false 4 (x.n.kids.map nmC),.str x.name,iv8 x.c.op,iv8 x.c.who,.str x.c.name,.rsl false false 4 (x.c.nums.map nmC),.rsl false false 5 (x.c.kids.map cnC),.rsl false false 14 (x.thn.map efC),.rsl false false 14 (x.els.map efC)] 0)] ([]:List ABlk)) k) λt28_19=>VV.gr t27_18 true (λk=>VV.rd (Qa [t28_19] ([]:List ABlk)) k) λt29_20=>VV.gr t27_18 true (λk=>VV.rd (Ya 2 [t29_20] ([]:List ABlk)) k) λt30_21=>VV.gr t27_18 true (λk=>VV.rd (Ya 2 [t30_21] ([]:List ABlk)) k) λt31_22=>VV.gr t27_18 true (λk=>VV.rd (Xc false 1 [t31_22] ([]:List ABlk)) k) λt32_23=>VV.gr t27_18 true (λk=>VV.rd (Yi .eql false [t32_23,(.int .i8 0)] ([]:List ABlk)) k) λt33_24=>VV.gr (AVal.bool (cntOp x.op)) false (λk=>VV.rd (Zn [t27_18,t33_24,(.bool false)] ([]:List ABlk)) k) λt34_25=>VV.gr (AVal.bool (cntOp x.op)) false (λk=>VV.rd (Qh [t34_25] ([]:List ABlk)) k) λt35_26=>VV.gr t35_26 true (λk=>VV.rd (Qh [(AVal.rptr [iv8 x.op,iv8 x.who,iv8 x.n.op,iv x.n.n,iv8 x.n.who,.rsl false false 4 (x.n.kids.map nmC),.str x.name,iv8 x.c.op,iv8 x.c.who,.str x.c.name,.rsl false false 4 (x.c.nums.map nmC),.rsl false false 5 (x.c.kids.map cnC),.rsl false false 14 (x.thn.map efC),.rsl false false 14 (x.els.map efC)] 0)] ([]:List ABlk)) k) λt36_27=>VV.gr t35_26 true (λk=>VV.rd (Qa [t36_27] ([]:List ABlk)) k) λt37_28=>VV.gr t35_26 true (λk=>VV.rd (Ya 2 [t37_28] ([]:List ABlk)) k) λt38_29=>VV.gr t35_26 true (λk=>VV.rd (Ya 3 [t38_29] ([]:List ABlk)) k) λt39_30=>VV.gr t35_26 true (λk=>VV.rd (Xc false 1 [t39_30] ([]:List ABlk)) k) λt40_31=>VV.gr t35_26 true (λk=>VV.rd (Qe [t40_31] ([]:List ABlk)) k) λt41_32=>VV.gr t35_26 true (λk=>VV.rd (Yi .eql false [t41_32,(.int .i64 0)] ([]:List ABlk)) k) λt42_33=>VV.gr (AVal.bool (cntOp x.op)) false (λk=>VV.rd (Zn [t35_26,t42_33,(.bool false)] ([]:List ABlk)) k) λt43_34=>VV.rd (Zn [(AVal.bool (cntOp x.op)),(.bool true),t43_34] ([]:List ABlk)) K:=by
  intro K hK;rcases YBE (cntOp x.op) with h0|h0
  ·rw[h0] at hK ⊢;repeat first|refine Xa ?_|refine Zb ?_|refine Yb rfl ?_|refine Zc rfl ?_|refine Zd rfl ?_|refine Xd rfl ?_|refine Za (Yf ..) ?_|refine Za (Zf ..) ?_|refine Za (ldr (row:=[iv8 x.op,iv8 x.who,iv8 x.n.op,iv x.n.n,iv8 x.n.who,.rsl false false 4 (x.n.kids.map nmC),.str x.name,iv8 x.c.op,iv8 x.c.who,.str x.c.name,.rsl false false 4 (x.c.nums.map nmC),.rsl false false 5 (x.c.kids.map cnC),.rsl false false 14 (x.thn.map efC),.rsl false false 14 (x.els.map efC)]) rfl) ?_|refine Za rfl ?_
   exact hK
  rw[h0,Bool.false_or] at hK;rw[h0];repeat first|refine Xa ?_|refine Zb ?_|refine Za (Yf ..) ?_|refine Za (Zf ..) ?_|refine Za (ldr (row:=[iv8 x.op,iv8 x.who,iv8 x.n.op,iv x.n.n,iv8 x.n.who,.rsl false false 4 (x.n.kids.map nmC),.str x.name,iv8 x.c.op,iv8 x.c.who,.str x.c.name,.rsl false false 4 (x.c.nums.map nmC),.rsl false false 5 (x.c.kids.map cnC),.rsl false false 14 (x.thn.map efC),.rsl false false 14 (x.els.map efC)]) rfl) ?_|refine Za rfl ?_
  rcases YBE (decide (x.n.op=0)) with h1|h1
  rotate_left
  ·rw[h1];repeat first|refine Xa ?_|refine Zb ?_|refine Yb rfl ?_|refine Zc rfl ?_|refine Zd rfl ?_|refine Xd rfl ?_|refine Za (Yf ..) ?_|refine Za (Zf ..) ?_|refine Za (ldr (row:=[iv8 x.op,iv8 x.who,iv8 x.n.op,iv x.n.n,iv8 x.n.who,.rsl false false 4 (x.n.kids.map nmC),.str x.name,iv8 x.c.op,iv8 x.c.who,.str x.c.name,.rsl false false 4 (x.c.nums.map nmC),.rsl false false 5 (x.c.kids.map cnC),.rsl false false 14 (x.thn.map efC),.rsl false false 14 (x.els.map efC)]) rfl) ?_|refine Za rfl ?_
   rw[show noNum x.n=false by simp at h1; simp[noNum,h1]] at hK;exact hK
  rw[h1];repeat first|refine Xa ?_|refine Zb ?_|refine Za (Yf ..) ?_|refine Za (Zf ..) ?_|refine Za (ldr (row:=[iv8 x.op,iv8 x.who,iv8 x.n.op,iv x.n.n,iv8 x.n.who,.rsl false false 4 (x.n.kids.map nmC),.str x.name,iv8 x.c.op,iv8 x.c.who,.str x.c.name,.rsl false false 4 (x.c.nums.map nmC),.rsl false false 5 (x.c.kids.map cnC),.rsl false false 14 (x.thn.map efC),.rsl false false 14 (x.els.map efC)]) rfl) ?_|refine Za rfl ?_
  rcases YBE (decide (x.n.n=0)) with h2|h2
  rotate_left
  ·rw[h2];repeat first|refine Xa ?_|refine Zb ?_|refine Yb rfl ?_|refine Zc rfl ?_|refine Zd rfl ?_|refine Xd rfl ?_|refine Za (Yf ..) ?_|refine Za (Zf ..) ?_|refine Za (ldr (row:=[iv8 x.op,iv8 x.who,iv8 x.n.op,iv x.n.n,iv8 x.n.who,.rsl false false 4 (x.n.kids.map nmC),.str x.name,iv8 x.c.op,iv8 x.c.who,.str x.c.name,.rsl false false 4 (x.c.nums.map nmC),.rsl false false 5 (x.c.kids.map cnC),.rsl false false 14 (x.thn.map efC),.rsl false false 14 (x.els.map efC)]) rfl) ?_|refine Za rfl ?_
   rw[show noNum x.n=false by simp at h2; simp[noNum,h2]] at hK;exact hK
  rw[h2];repeat first|refine Xa ?_|refine Zb ?_|refine Za (Yf ..) ?_|refine Za (Zf ..) ?_|refine Za (ldr (row:=[iv8 x.op,iv8 x.who,iv8 x.n.op,iv x.n.n,iv8 x.n.who,.rsl false false 4 (x.n.kids.map nmC),.str x.name,iv8 x.c.op,iv8 x.c.who,.str x.c.name,.rsl false false 4 (x.c.nums.map nmC),.rsl false false 5 (x.c.kids.map cnC),.rsl false false 14 (x.thn.map efC),.rsl false false 14 (x.els.map efC)]) rfl) ?_|refine Za rfl ?_
  rcases YBE (decide (x.n.who=0)) with h3|h3
  rotate_left
  ·rw[h3];repeat first|refine Xa ?_|refine Zb ?_|refine Yb rfl ?_|refine Zc rfl ?_|refine Zd rfl ?_|refine Xd rfl ?_|refine Za (Yf ..) ?_|refine Za (Zf ..) ?_|refine Za (ldr (row:=[iv8 x.op,iv8 x.who,iv8 x.n.op,iv x.n.n,iv8 x.n.who,.rsl false false 4 (x.n.kids.map nmC),.str x.name,iv8 x.c.op,iv8 x.c.who,.str x.c.name,.rsl false false 4 (x.c.nums.map nmC),.rsl false false 5 (x.c.kids.map cnC),.rsl false false 14 (x.thn.map efC),.rsl false false 14 (x.els.map efC)]) rfl) ?_|refine Za rfl ?_
   rw[show noNum x.n=false by simp at h3; simp[noNum,h3]] at hK;exact hK
  rw[h3];repeat first|refine Xa ?_|refine Zb ?_|refine Za (Yf ..) ?_|refine Za (Zf ..) ?_|refine Za (ldr (row:=[iv8 x.op,iv8 x.who,iv8 x.n.op,iv x.n.n,iv8 x.n.who,.rsl false false 4 (x.n.kids.map nmC),.str x.name,iv8 x.c.op,iv8 x.c.who,.str x.c.name,.rsl false false 4 (x.c.nums.map nmC),.rsl false false 5 (x.c.kids.map cnC),.rsl false false 14 (x.thn.map efC),.rsl false false 14 (x.els.map efC)]) rfl) ?_|refine Za rfl ?_
  have e:noNum x.n=decide (((x.n.kids.map nmC).length:Int)=0):=by
   rw[Bool.eq_iff_iff]; simp at h1 h2 h3; simp[noNum,h1,h2,h3]
  rw[e] at hK;exact hK
 refine r1 _ ?_;clear r1;repeat first|refine Za (Yf ..) ?_|refine Za (Zf ..) ?_|refine Za (ldr (row:=[iv8 x.op,iv8 x.who,iv8 x.n.op,iv x.n.n,iv8 x.n.who,.rsl false false 4 (x.n.kids.map nmC),.str x.name,iv8 x.c.op,iv8 x.c.who,.str x.c.name,.rsl false false 4 (x.c.nums.map nmC),.rsl false false 5 (x.c.kids.map cnC),.rsl false false 14 (x.thn.map efC),.rsl false false 14 (x.els.map efC)]) rfl) ?_|refine Za rfl ?_
 have r2:∀K:AVal→Prop,K (.bool (decide (x.op=7)||x.name==[]))→VV.gr (AVal.bool (decide (x.op=7))) false (λk=>VV.rd (Qh [(AVal.rptr [iv8 x.op,iv8 x.who,iv8 x.n.op,iv x.n.n,iv8 x.n.who,.rsl false false 4 (x.n.kids.map nmC),.str x.name,iv8 x.c.op,iv8 x.c.who,.str x.c.name,.rsl false false 4 (x.c.nums.map nmC),.rsl false false 5 (x.c.kids.map cnC),.rsl false false 14 (x.thn.map efC),.rsl false false 14 (x.els.map efC)] 0)] ([]:List ABlk)) k) λt51_40=>VV.gr (AVal.bool (decide (x.op=7))) false (λk=>VV.rd (Qa [t51_40] ([]:List ABlk)) k) λt52_41=>VV.gr (AVal.bool (decide (x.op=7))) false (λk=>VV.rd (Ya 6 [t52_41] ([]:List ABlk)) k) λt53_42=>VV.gr (AVal.bool (decide (x.op=7))) false (λk=>VV.rd (Xc false 1 [t53_42] ([]:List ABlk)) k) λt54_43=>VV.gr (AVal.bool (decide (x.op=7))) false (λk=>VV.rd (Yi .eql false [t54_43,(.str [])] ([]:List ABlk)) k) λt55_44=>VV.rd (Zn [(AVal.bool (decide (x.op=7))),(.bool true),t55_44] ([]:List ABlk)) K:=by
  intro K hK;rcases YBE (decide (x.op=7)) with h0|h0
  ·rw[h0] at hK ⊢;repeat first|refine Xa ?_|refine Zb ?_|refine Yb rfl ?_|refine Zc rfl ?_|refine Zd rfl ?_|refine Xd rfl ?_|refine Za (Yf ..) ?_|refine Za (Zf ..) ?_|refine Za (ldr (row:=[iv8 x.op,iv8 x.who,iv8 x.n.op,iv x.n.n,iv8 x.n.who,.rsl false false 4 (x.n.kids.map nmC),.str x.name,iv8 x.c.op,iv8 x.c.who,.str x.c.name,.rsl false false 4 (x.c.nums.map nmC),.rsl false false 5 (x.c.kids.map cnC),.rsl false false 14 (x.thn.map efC),.rsl false false 14 (x.els.map efC)]) rfl) ?_|refine Za rfl ?_
   exact hK
  rw[h0,Bool.false_or] at hK;rw[h0];repeat first|refine Xa ?_|refine Zb ?_|refine Za (Yf ..) ?_|refine Za (Zf ..) ?_|refine Za (ldr (row:=[iv8 x.op,iv8 x.who,iv8 x.n.op,iv x.n.n,iv8 x.n.who,.rsl false false 4 (x.n.kids.map nmC),.str x.name,iv8 x.c.op,iv8 x.c.who,.str x.c.name,.rsl false false 4 (x.c.nums.map nmC),.rsl false false 5 (x.c.kids.map cnC),.rsl false false 14 (x.thn.map efC),.rsl false false 14 (x.els.map efC)]) rfl) ?_|refine Za rfl ?_
  exact hK
 refine r2 _ ?_;clear r2;repeat first|refine Za (Yf ..) ?_|refine Za (Zf ..) ?_|refine Za (ldr (row:=[iv8 x.op,iv8 x.who,iv8 x.n.op,iv x.n.n,iv8 x.n.who,.rsl false false 4 (x.n.kids.map nmC),.str x.name,iv8 x.c.op,iv8 x.c.who,.str x.c.name,.rsl false false 4 (x.c.nums.map nmC),.rsl false false 5 (x.c.kids.map cnC),.rsl false false 14 (x.thn.map efC),.rsl false false 14 (x.els.map efC)]) rfl) ?_|refine Za rfl ?_
 have r3:∀K:AVal→Prop,K (.bool (decide (x.op=8)||(decide (x.c.op=0)&&(decide (x.c.who=0)&&(x.c.name==[]&&decide (x.c.nums.length+x.c.kids.length+x.thn.length+x.els.length=0))))))→VV.gr (AVal.bool (decide (x.op=8))) false (λk=>VV.rd (Qh [(AVal.rptr [iv8 x.op,iv8 x.who,iv8 x.n.op,iv x.n.n,iv8 x.n.who,.rsl false false 4 (x.n.kids.map nmC),.str x.name,iv8 x.c.op,iv8 x.c.who,.str x.c.name,.rsl false false 4 (x.c.nums.map nmC),.rsl false false 5 (x.c.kids.map cnC),.rsl false false 14 (x.thn.map efC),.rsl false false 14 (x.els.map efC)] 7)] ([]:List ABlk)) k) λt66_52=>VV.gr (AVal.bool (decide (x.op=8))) false (λk=>VV.rd (Qa [t66_52] ([]:List ABlk)) k) λt67_53=>VV.gr (AVal.bool (decide (x.op=8))) false (λk=>VV.rd (Ya 0 [t67_53] ([]:List ABlk)) k) λt68_54=>VV.gr (AVal.bool (decide (x.op=8))) false (λk=>VV.rd (Xc false 1 [t68_54] ([]:List ABlk)) k) λt69_55=>VV.gr (AVal.bool (decide (x.op=8))) false (λk=>VV.rd (Yi .eql false [t69_55,(.int .i8 0)] ([]:List ABlk)) k) λt70_56=>VV.gr (AVal.bool (decide (x.op=8))) false (λk=>VV.rd (Qh [t70_56] ([]:List ABlk)) k) λt71_57=>VV.gr t71_57 true (λk=>VV.rd (Qh [(AVal.rptr [iv8 x.op,iv8 x.who,iv8 x.n.op,iv x.n.n,iv8 x.n.who,.rsl false false 4 (x.n.kids.map nmC),.str x.name,iv8 x.c.op,iv8 x.c.who,.str x.c.name,.rsl false false 4 (x.c.nums.map nmC),.rsl false false 5 (x.c.kids.map cnC),.rsl false false 14 (x.thn.map efC),.rsl false false 14 (x.els.map efC)] 7)] ([]:List ABlk)) k) λt72_58=>VV.gr t71_57 true (λk=>VV.rd (Qa [t72_58] ([]:List ABlk)) k) λt73_59=>VV.gr t71_57 true (λk=>VV.rd (Ya 1 [t73_59] ([]:List ABlk)) k) λt74_60=>VV.gr t71_57 true (λk=>VV.rd (Xc false 1 [t74_60] ([]:List ABlk)) k) λt75_61=>VV.gr t71_57 true (λk=>VV.rd (Yi .eql false [t75_61,(.int .i8 0)] ([]:List ABlk)) k) λt76_62=>VV.gr (AVal.bool (decide (x.op=8))) false (λk=>VV.rd (Zn [t71_57,t76_62,(.bool false)] ([]:List ABlk)) k) λt77_63=>VV.gr (AVal.bool (decide (x.op=8))) false (λk=>VV.rd (Qh [t77_63] ([]:List ABlk)) k) λt78_64=>VV.gr t78_64 true (λk=>VV.rd (Qh [(AVal.rptr [iv8 x.op,iv8 x.who,iv8 x.n.op,iv x.n.n,iv8 x.n.who,.rsl false false 4 (x.n.kids.map nmC),.str x.name,iv8 x.c.op,iv8 x.c.who,.str x.c.name,.rsl false false 4 (x.c.nums.map nmC),.rsl false false 5 (x.c.kids.map cnC),.rsl false false 14 (x.thn.map efC),.rsl false false 14 (x.els.map efC)] 7)] ([]:List ABlk)) k) λt79_65=>VV.gr t78_64 true (λk=>VV.rd (Qa [t79_65] ([]:List ABlk)) k) λt80_66=>VV.gr t78_64 true (λk=>VV.rd (Ya 2 [t80_66] ([]:List ABlk)) k) λt81_67=>VV.gr t78_64 true (λk=>VV.rd (Xc false 1 [t81_67] ([]:List ABlk)) k) λt82_68=>VV.gr t78_64 true (λk=>VV.rd (Yi .eql false [t82_68,(.str [])] ([]:List ABlk)) k) λt83_69=>VV.gr (AVal.bool (decide (x.op=8))) false (λk=>VV.rd (Zn [t78_64,t83_69,(.bool false)] ([]:List ABlk)) k) λt84_70=>VV.gr (AVal.bool (decide (x.op=8))) false (λk=>VV.rd (Qh [t84_70] ([]:List ABlk)) k) λt85_71=>VV.gr t85_71 true (λk=>VV.rd (Qh [(AVal.rptr [iv8 x.op,iv8 x.who,iv8 x.n.op,iv x.n.n,iv8 x.n.who,.rsl false false 4 (x.n.kids.map nmC),.str x.name,iv8 x.c.op,iv8 x.c.who,.str x.c.name,.rsl false false 4 (x.c.nums.map nmC),.rsl false false 5 (x.c.kids.map cnC),.rsl false false 14 (x.thn.map efC),.rsl false false 14 (x.els.map efC)] 7)] ([]:List ABlk)) k) λt86_72=>VV.gr t85_71 true (λk=>VV.rd (Qa [t86_72] ([]:List ABlk)) k) λt87_73=>VV.gr t85_71 true (λk=>VV.rd (Ya 3 [t87_73] ([]:List ABlk)) k) λt88_74=>VV.gr t85_71 true (λk=>VV.rd (Xc false 1 [t88_74] ([]:List ABlk)) k) λt89_75=>VV.gr t85_71 true (λk=>VV.rd (Qe [t89_75] ([]:List ABlk)) k) λt90_76=>VV.gr t85_71 true (λk=>VV.rd (Qh [(AVal.rptr [iv8 x.op,iv8 x.who,iv8 x.n.op,iv x.n.n,iv8 x.n.who,.rsl false false 4 (x.n.kids.map nmC),.str x.name,iv8 x.c.op,iv8 x.c.who,.str x.c.name,.rsl false false 4 (x.c.nums.map nmC),.rsl false false 5 (x.c.kids.map cnC),.rsl false false 14 (x.thn.map efC),.rsl false false 14 (x.els.map efC)] 7)] ([]:List ABlk)) k) λt91_77=>VV.gr t85_71 true (λk=>VV.rd (Qa [t91_77] ([]:List ABlk)) k) λt92_78=>VV.gr t85_71 true (λk=>VV.rd (Ya 4 [t92_78] ([]:List ABlk)) k) λt93_79=>VV.gr t85_71 true (λk=>VV.rd (Xc false 1 [t93_79] ([]:List ABlk)) k) λt94_80=>VV.gr t85_71 true (λk=>VV.rd (Qe [t94_80] ([]:List ABlk)) k) λt95_81=>VV.gr t85_71 true (λk=>VV.rd (Yi .add false [t90_76,t95_81] ([]:List ABlk)) k) λt96_82=>VV.gr t85_71 true (λk=>VV.rd (Qh [(AVal.rptr [iv8 x.op,iv8 x.who,iv8 x.n.op,iv x.n.n,iv8 x.n.who,.rsl false false 4 (x.n.kids.map nmC),.str x.name,iv8 x.c.op,iv8 x.c.who,.str x.c.name,.rsl false false 4 (x.c.nums.map nmC),.rsl false false 5 (x.c.kids.map cnC),.rsl false false 14 (x.thn.map efC),.rsl false false 14 (x.els.map efC)] 0)] ([]:List ABlk)) k) λt97_83=>VV.gr t85_71 true (λk=>VV.rd (Qa [t97_83] ([]:List ABlk)) k) λt98_84=>VV.gr t85_71 true (λk=>VV.rd (Ya 12 [t98_84] ([]:List ABlk)) k) λt99_85=>VV.gr t85_71 true (λk=>VV.rd (Xc false 1 [t99_85] ([]:List ABlk)) k) λt100_86=>VV.gr t85_71 true (λk=>VV.rd (Qe [t100_86] ([]:List ABlk)) k) λt101_87=>VV.gr t85_71 true (λk=>VV.rd (Yi .add false [t96_82,t101_87] ([]:List ABlk)) k) λt102_88=>VV.gr t85_71 true (λk=>VV.rd (Qh [(AVal.rptr [iv8 x.op,iv8 x.who,iv8 x.n.op,iv x.n.n,iv8 x.n.who,.rsl false false 4 (x.n.kids.map nmC),.str x.name,iv8 x.c.op,iv8 x.c.who,.str x.c.name,.rsl false false 4 (x.c.nums.map nmC),.rsl false false 5 (x.c.kids.map cnC),.rsl false false 14 (x.thn.map efC),.rsl false false 14 (x.els.map efC)] 0)] ([]:List ABlk)) k) λt103_89=>VV.gr t85_71 true (λk=>VV.rd (Qa [t103_89] ([]:List ABlk)) k) λt104_90=>VV.gr t85_71 true (λk=>VV.rd (Ya 13 [t104_90] ([]:List ABlk)) k) λt105_91=>VV.gr t85_71 true (λk=>VV.rd (Xc false 1 [t105_91] ([]:List ABlk)) k) λt106_92=>VV.gr t85_71 true (λk=>VV.rd (Qe [t106_92] ([]:List ABlk)) k) λt107_93=>VV.gr t85_71 true (λk=>VV.rd (Yi .add false [t102_88,t107_93] ([]:List ABlk)) k) λt108_94=>VV.gr t85_71 true (λk=>VV.rd (Yi .eql false [t108_94,(.int .i64 0)] ([]:List ABlk)) k) λt109_95=>VV.gr (AVal.bool (decide (x.op=8))) false (λk=>VV.rd (Zn [t85_71,t109_95,(.bool false)] ([]:List ABlk)) k) λt110_96=>VV.rd (Zn [(AVal.bool (decide (x.op=8))),(.bool true),t110_96] ([]:List ABlk)) K:=by
  intro K hK;rcases YBE (decide (x.op=8)) with h0|h0
  ·rw[h0] at hK ⊢;repeat first|refine Xa ?_|refine Zb ?_|refine Yb rfl ?_|refine Zc rfl ?_|refine Zd rfl ?_|refine Xd rfl ?_|refine Za (Yf ..) ?_|refine Za (Zf ..) ?_|refine Za (ldr (row:=[iv8 x.op,iv8 x.who,iv8 x.n.op,iv x.n.n,iv8 x.n.who,.rsl false false 4 (x.n.kids.map nmC),.str x.name,iv8 x.c.op,iv8 x.c.who,.str x.c.name,.rsl false false 4 (x.c.nums.map nmC),.rsl false false 5 (x.c.kids.map cnC),.rsl false false 14 (x.thn.map efC),.rsl false false 14 (x.els.map efC)]) rfl) ?_|refine Za rfl ?_
   exact hK
  rw[h0,Bool.false_or] at hK;rw[h0];repeat first|refine Xa ?_|refine Zb ?_|refine Za (Yf ..) ?_|refine Za (Zf ..) ?_|refine Za (ldr (row:=[iv8 x.op,iv8 x.who,iv8 x.n.op,iv x.n.n,iv8 x.n.who,.rsl false false 4 (x.n.kids.map nmC),.str x.name,iv8 x.c.op,iv8 x.c.who,.str x.c.name,.rsl false false 4 (x.c.nums.map nmC),.rsl false false 5 (x.c.kids.map cnC),.rsl false false 14 (x.thn.map efC),.rsl false false 14 (x.els.map efC)]) rfl) ?_|refine Za rfl ?_
  rcases YBE (decide (x.c.op=0)) with h1|h1
  rotate_left
  ·rw[h1];repeat first|refine Xa ?_|refine Zb ?_|refine Yb rfl ?_|refine Zc rfl ?_|refine Zd rfl ?_|refine Xd rfl ?_|refine Za (Yf ..) ?_|refine Za (Zf ..) ?_|refine Za (ldr (row:=[iv8 x.op,iv8 x.who,iv8 x.n.op,iv x.n.n,iv8 x.n.who,.rsl false false 4 (x.n.kids.map nmC),.str x.name,iv8 x.c.op,iv8 x.c.who,.str x.c.name,.rsl false false 4 (x.c.nums.map nmC),.rsl false false 5 (x.c.kids.map cnC),.rsl false false 14 (x.thn.map efC),.rsl false false 14 (x.els.map efC)]) rfl) ?_|refine Za rfl ?_
   rw[h1] at hK;exact hK
  rw[h1];repeat first|refine Xa ?_|refine Zb ?_|refine Za (Yf ..) ?_|refine Za (Zf ..) ?_|refine Za (ldr (row:=[iv8 x.op,iv8 x.who,iv8 x.n.op,iv x.n.n,iv8 x.n.who,.rsl false false 4 (x.n.kids.map nmC),.str x.name,iv8 x.c.op,iv8 x.c.who,.str x.c.name,.rsl false false 4 (x.c.nums.map nmC),.rsl false false 5 (x.c.kids.map cnC),.rsl false false 14 (x.thn.map efC),.rsl false false 14 (x.els.map efC)]) rfl) ?_|refine Za rfl ?_
  rcases YBE (decide (x.c.who=0)) with h2|h2
  rotate_left
  ·rw[h2];repeat first|refine Xa ?_|refine Zb ?_|refine Yb rfl ?_|refine Zc rfl ?_|refine Zd rfl ?_|refine Xd rfl ?_|refine Za (Yf ..) ?_|refine Za (Zf ..) ?_|refine Za (ldr (row:=[iv8 x.op,iv8 x.who,iv8 x.n.op,iv x.n.n,iv8 x.n.who,.rsl false false 4 (x.n.kids.map nmC),.str x.name,iv8 x.c.op,iv8 x.c.who,.str x.c.name,.rsl false false 4 (x.c.nums.map nmC),.rsl false false 5 (x.c.kids.map cnC),.rsl false false 14 (x.thn.map efC),.rsl false false 14 (x.els.map efC)]) rfl) ?_|refine Za rfl ?_
   rw[h1,h2] at hK;exact hK
  rw[h2];repeat first|refine Xa ?_|refine Zb ?_|refine Za (Yf ..) ?_|refine Za (Zf ..) ?_|refine Za (ldr (row:=[iv8 x.op,iv8 x.who,iv8 x.n.op,iv x.n.n,iv8 x.n.who,.rsl false false 4 (x.n.kids.map nmC),.str x.name,iv8 x.c.op,iv8 x.c.who,.str x.c.name,.rsl false false 4 (x.c.nums.map nmC),.rsl false false 5 (x.c.kids.map cnC),.rsl false false 14 (x.thn.map efC),.rsl false false 14 (x.els.map efC)]) rfl) ?_|refine Za rfl ?_
  rcases YBE (x.c.name==[]) with h3|h3
  rotate_left
  ·rw[h3];repeat first|refine Xa ?_|refine Zb ?_|refine Yb rfl ?_|refine Zc rfl ?_|refine Zd rfl ?_|refine Xd rfl ?_|refine Za (Yf ..) ?_|refine Za (Zf ..) ?_|refine Za (ldr (row:=[iv8 x.op,iv8 x.who,iv8 x.n.op,iv x.n.n,iv8 x.n.who,.rsl false false 4 (x.n.kids.map nmC),.str x.name,iv8 x.c.op,iv8 x.c.who,.str x.c.name,.rsl false false 4 (x.c.nums.map nmC),.rsl false false 5 (x.c.kids.map cnC),.rsl false false 14 (x.thn.map efC),.rsl false false 14 (x.els.map efC)]) rfl) ?_|refine Za rfl ?_
   rw[h1,h2,h3] at hK;exact hK
  rw[h3];repeat first|refine Xa ?_|refine Zb ?_|refine Za (Yf ..) ?_|refine Za (Zf ..) ?_|refine Za (ldr (row:=[iv8 x.op,iv8 x.who,iv8 x.n.op,iv x.n.n,iv8 x.n.who,.rsl false false 4 (x.n.kids.map nmC),.str x.name,iv8 x.c.op,iv8 x.c.who,.str x.c.name,.rsl false false 4 (x.c.nums.map nmC),.rsl false false 5 (x.c.kids.map cnC),.rsl false false 14 (x.thn.map efC),.rsl false false 14 (x.els.map efC)]) rfl) ?_|refine Za rfl ?_
  rw[h1,h2,h3,Bool.true_and,Bool.true_and,Bool.true_and] at hK;rw[List.length_map,List.length_map,List.length_map,List.length_map,wrapI (n:=(x.c.nums.length:Int)+x.c.kids.length) (by omega) (by omega),wrapI (n:=(x.c.nums.length:Int)+x.c.kids.length+x.thn.length) (by omega) (by omega),wrapI (n:=(x.c.nums.length:Int)+x.c.kids.length+x.thn.length+x.els.length) (by omega) (by omega)];rw[show decide ((x.c.nums.length:Int)+x.c.kids.length+x.thn.length+x.els.length=0)=decide (x.c.nums.length+x.c.kids.length+x.thn.length+x.els.length=0) by rw[Bool.eq_iff_iff,decide_eq_true_eq,decide_eq_true_eq]; omega];exact hK
 refine r3 _ ?_;clear r3;unfold zeroB;generalize (cntOp x.op||noNum x.n)=b1;generalize (decide (x.op=7)||x.name==[])=b2;generalize (decide (x.op=8)||(decide (x.c.op=0)&&(decide (x.c.who=0)&&(x.c.name==[]&&decide (x.c.nums.length+x.c.kids.length+x.thn.length+x.els.length=0)))))=b3;cases b1<;>cases b2
 all_goals (repeat (first|refine Xa ?_|refine Zb ?_|refine Yb rfl ?_|refine Zc rfl ?_|refine Zd rfl ?_|refine Xd rfl ?_|refine Za (Yf ..) ?_|refine Za (Zf ..) ?_|refine Za (ldr (row:=[iv8 x.op,iv8 x.who,iv8 x.n.op,iv x.n.n,iv8 x.n.who,.rsl false false 4 (x.n.kids.map nmC),.str x.name,iv8 x.c.op,iv8 x.c.who,.str x.c.name,.rsl false false 4 (x.c.nums.map nmC),.rsl false false 5 (x.c.kids.map cnC),.rsl false false 14 (x.thn.map efC),.rsl false false 14 (x.els.map efC)]) rfl) ?_|refine Za rfl ?_))
 all_goals rfl
end Go.Ah.Tz
end
section
namespace Go.Ah.Tz
open Go.Proofs.Tryz (prog)
def efArm(cs:List Cd)(t:Bool)(d:Int)(x:Ef):Bool:=
 if x.op=0∨x.op=1 then sdOp x.who||(decide (x.who=2)&&t)
 else if x.op=2∨x.op=4∨x.op=6 then sdOp x.who
 else if x.op=3∨x.op=5 then decide (x.who=0)
 else if x.op=7 then decide (x.who=0)&&findC cs x.name true
 else if x.op=8 then decide (x.who=0)&&(cnOk cs t x.c&&(lstOk cs t (d+1) x.thn&&lstOk cs t (d+1) x.els))
 else false
theorem XbT(x:Ef):(decide (x.c.op=0)&&(decide (x.c.who=0)&&(x.c.name==[]&&decide (x.c.nums.length+x.c.kids.length+x.thn.length+x.els.length=0))))=(noCond x.c&&(decide (x.thn.length=0)&&decide (x.els.length=0))):=by
 have e:decide (x.c.nums.length+x.c.kids.length+x.thn.length+x.els.length=0)=(decide (x.c.nums.length=0)&&(decide (x.c.kids.length=0)&&(decide (x.thn.length=0)&&decide (x.els.length=0)))):=by
  rw[Bool.eq_iff_iff];simp only[Bool.and_eq_true,decide_eq_true_eq]; omega
 rw[e,noCond];simp only[Bool.and_assoc]
theorem ZcG(cs:List Cd)(t:Bool)(d:Int)(x:Ef):efOk cs t d x=((zeroB x&&(!cntOp x.op||nmOk t x.n))&&efArm cs t d x):=by
 rw[Zbe,zeroB,XbT];by_cases hr:0≤x.op∧x.op≤8;rotate_left
 ·have:efArm cs t d x=false:=by
   rw[efArm,if_neg (by omega),if_neg (by omega),if_neg (by omega),if_neg (by omega),if_neg (by omega)]
  rw[this,Bool.and_false,Bool.eq_false_iff];intro h; simp only[Bool.and_eq_true,decide_eq_true_eq] at h; exact hr ⟨h.1,h.2.1⟩
 obtain⟨r1,r2⟩:=hr;rw[decide_eq_true r1,decide_eq_true r2,Bool.true_and,Bool.true_and];generalize noCond x.c=b1;generalize decide (x.thn.length=0)=b2;generalize decide (x.els.length=0)=b3;generalize noNum x.n=b4;generalize nmOk t x.n=b5;generalize (x.name==[])=b6;unfold efArm efEnd efMid;generalize lstOk cs t (d+1) x.thn=b7;generalize lstOk cs t (d+1) x.els=b8;generalize cnOk cs t x.c=b9;generalize findC cs x.name true=b10;generalize sdOp x.who=b11;generalize decide (x.who=0)=b12;generalize decide (x.who=2)=b13;have h:x.op=0∨x.op=1∨x.op=2∨x.op=3∨x.op=4∨x.op=5∨x.op=6∨x.op=7∨x.op=8:=by omega
 generalize x.op=op at h;clear r1 r2;rcases h with h|h|h|h|h|h|h|h|h<;>subst h<;>simp[cntOp]<;>cases b1<;>cases b2<;>cases b3<;>cases b4<;>cases b5<;>cases b6<;>simp<;>cases b12<;>simp
attribute [local irreducible] Ans.rd Ans.pu Ans.wr Ans.dr Ans.gr Ans.gw Ans.gl Ans.gd Ans.opt joinK W
set_option maxHeartbeats 4000000
theorem QcF(x:Ef):NmAt (efC x) (0+2) x.n:=nmAt2 x
theorem XcF(x:Ef):CnAt (efC x) (0+7) x.c:=cnAt7 x
theorem c157'(m:List (Tx×Bool))(cs:List Cd)(hU:Units m cs)(t:Bool):∀(k:Nat) (l:List Ef) (d:Int),SizeOf.sizeOf l≤k→lsFit l=true→0≤d→PC 157 [.rptr (chkM m t) 0,efV l,iv d] (.bool (lstOk cs t d l))
 |0,l,_,h,_,_=>by cases l<;>simp at h
 |k+1,l,d,hk,hf,hd=>by
  refine Qc hP g157_ok rfl rfl ?_;unfold g157;have hlen:=QA hf;rw[bigE] at hlen;refine Za rfl (Za rfl ?_);refine XB rfl rfl ?_;refine Qb (λh=>?_) (λh=>?_)
  ·have h:¬(l.length≤16∧d≤8):=by simp at h; omega
   rw[lstOk];rcases Decidable.not_and_iff_or_not.1 h with h|h<;>simp[h]
  have h:l.length≤16∧d≤8:=by simp at h; omega
  have hl:lstOk cs t d l=efsOk cs t d l:=by simp[lstOk,h]
  rw[hl];clear hl;refine Za rfl ?_;refine Qk (ι:=Nat) (λi vs σ=>vs=[iv i]∧σ=[]∧i≤l.length∧efsOk cs t d l=efsOk cs t d (l.drop i)) (λi=>l.length-i) 0 ⟨rfl,rfl,by omega,by simp⟩ ?_;rintro i vs σ again ⟨rfl,rfl,hi,hu⟩ hag;refine Za rfl ?_;refine Qb (λh=>?_) (λh=>?_);rotate_left
  ·have h:i=l.length:=by simp at h; omega
   subst h;rw[List.drop_length,efsOk] at hu;rw[hu]
  have hil:i<l.length:=by simpa using h
  have hdr:l.drop i=l[i]::l.drop (i+1):=by rw[YLD hil]
  rw[hdr,efsOk] at hu;have hm:l[i]∈l:=List.getElem_mem hil;have hsz:=List.sizeOf_lt_of_mem hm;have hfx:=YK hf hm;have ix:=λ(s:List ABlk)=>Yo s efC false false 14 l .i64 i hil;generalize l[i]=x at hu hsz hfx ix;have hs2:=Z6 x;rename_i hd8;obtain⟨h16,h8⟩:=hd8;have go:∀c,c=efOk cs t d x→VV.rd (Qo .not [.bool c] []) λt152=>VV.test t152 (AVal.bool false=AVal.bool (efsOk cs t d l)) (VV.rd (Yi .add false [iv i,(.int .i64 1)] []) λt153=>again [t153] []):=by
   rintro c hc;refine Za rfl ?_;rw[←hc] at hu;refine Qb (λh=>?_) (λh=>?_)
   ·have h:c=false:=by simpa using h
    rw[hu,h]; rfl
   ·have h:c=true:=by simpa using h
    rw[h,Bool.true_and] at hu;refine Za (Zk ..) ?_;rw[Yg (n:=i) (by omega)];exact hag (i+1) _ _ (by omega) ⟨rfl,rfl,by omega,hu⟩
  have stop:efOk cs t d x=false→AVal.bool false=AVal.bool (efsOk cs t d l):=by
   intro he; rw[hu,he]; rfl
  clear hag hu;rw[ZcG] at stop go;refine Za (ix _) ?_;refine Yd (c209 x hfx) rfl g209_ok.plain rfl ?_;have r1:∀K:AVal→List ABlk→Prop,K (.bool (zeroB x&&(!cntOp x.op||nmOk t x.n))) []→VV.gr (AVal.bool (zeroB x)) true (λk=>VV.rd (Qh [(AVal.rptr (efC x) 0)] []) k) λt28_11=>VV.gr (AVal.bool (zeroB x)) true (λk=>VV.rd (Qa [t28_11] []) k) λt29_12=>VV.gr (AVal.bool (zeroB x)) true (λk=>VV.rd (Ya 0 [t29_12] []) k) λt30_13=>VV.gr (AVal.bool (zeroB x)) true (λk=>VV.rd (Xc false 1 [t30_13] []) k) λt31_14=>VV.gw (AVal.bool (zeroB x)) true (λk=>VV.call (.call 210) [t31_14] [] k) ([]:List ABlk) λt32_15 σ=>VV.gr (AVal.bool (zeroB x)) true (λk=>VV.rd (Qo .not [t32_15] σ) k) λt33_16=>VV.gr (AVal.bool (zeroB x)) true (λk=>VV.rd (Qh [t33_16] σ) k) λt34_17=>VV.gr t34_17 false (λk=>VV.rd (Qh [(AVal.rptr (chkM m t) 0)] σ) k) λt35_18=>VV.gr t34_17 false (λk=>VV.rd (Qh [(AVal.rptr (efC x) 0)] σ) k) λt36_19=>VV.gr t34_17 false (λk=>VV.rd (Qa [t36_19] σ) k) λt37_20=>VV.gr t34_17 false (λk=>VV.rd (Ya 2 [t37_20] σ) k) λt38_21=>VV.gw t34_17 false (λk=>VV.call (.call 211) [t35_18,t38_21] σ k) σ λt39_22 σ=>VV.gr (AVal.bool (zeroB x)) true (λk=>VV.rd (Zn [t34_17,(.bool true),t39_22] σ) k) λt40_23=>VV.rd (Zn [(AVal.bool (zeroB x)),t40_23,(.bool false)] σ) (λv=>K v σ):=by
   intro K hK;rcases YBE (zeroB x) with h|h
   rotate_left
   ·rw[h] at hK ⊢;repeat first|refine Xa ?_|refine Zb ?_|refine Yb rfl ?_|refine Zc rfl ?_|refine Zd rfl ?_|refine Xd rfl ?_|refine Za (ldr (efLd0 x)) ?_|refine Za (ldr (efLd1 x)) ?_|refine Za (ldr (efLd6 x)) ?_|refine Za (ldr (Zp x)) ?_|refine Za (ldr (Yp x)) ?_|refine Za (Yf ..) ?_|refine Za (Zf ..) ?_|refine Za (ldr (row:=chkM m t) rfl) ?_|refine Za (Zl ..) ?_|refine Za rfl ?_
    exact hK
   rw[h,Bool.true_and] at hK;rw[h];repeat first|refine Xa ?_|refine Zb ?_|refine Za (ldr (efLd0 x)) ?_|refine Za (ldr (efLd1 x)) ?_|refine Za (ldr (efLd6 x)) ?_|refine Za (ldr (Zp x)) ?_|refine Za (ldr (Yp x)) ?_|refine Za (Yf ..) ?_|refine Za (Zf ..) ?_|refine Za (ldr (row:=chkM m t) rfl) ?_|refine Za (Zl ..) ?_|refine Za rfl ?_
   refine Yd (c210 _) rfl g210_ok.plain rfl ?_;repeat first|refine Xa ?_|refine Zb ?_|refine Za (ldr (efLd0 x)) ?_|refine Za (ldr (efLd1 x)) ?_|refine Za (ldr (efLd6 x)) ?_|refine Za (ldr (Zp x)) ?_|refine Za (ldr (Yp x)) ?_|refine Za (Yf ..) ?_|refine Za (Zf ..) ?_|refine Za (ldr (row:=chkM m t) rfl) ?_|refine Za (Zl ..) ?_|refine Za rfl ?_
   rcases YBE (!cntOp x.op) with h2|h2
   ·rw[h2] at hK ⊢;repeat first|refine Xa ?_|refine Zb ?_|refine Yb rfl ?_|refine Zc rfl ?_|refine Zd rfl ?_|refine Xd rfl ?_|refine Za (ldr (efLd0 x)) ?_|refine Za (ldr (efLd1 x)) ?_|refine Za (ldr (efLd6 x)) ?_|refine Za (ldr (Zp x)) ?_|refine Za (ldr (Yp x)) ?_|refine Za (Yf ..) ?_|refine Za (Zf ..) ?_|refine Za (ldr (row:=chkM m t) rfl) ?_|refine Za (Zl ..) ?_|refine Za rfl ?_
    exact hK
   rw[h2,Bool.false_or] at hK;rw[h2];repeat first|refine Xa ?_|refine Zb ?_|refine Za (ldr (efLd0 x)) ?_|refine Za (ldr (efLd1 x)) ?_|refine Za (ldr (efLd6 x)) ?_|refine Za (ldr (Zp x)) ?_|refine Za (ldr (Yp x)) ?_|refine Za (Yf ..) ?_|refine Za (Zf ..) ?_|refine Za (ldr (row:=chkM m t) rfl) ?_|refine Za (Zl ..) ?_|refine Za rfl ?_
   refine Yd (c211 _ t x.n _ _ (QcF x) (Z3 hfx)) rfl g211_ok.plain rfl ?_;repeat first|refine Xa ?_|refine Zb ?_|refine Za (ldr (efLd0 x)) ?_|refine Za (ldr (efLd1 x)) ?_|refine Za (ldr (efLd6 x)) ?_|refine Za (ldr (Zp x)) ?_|refine Za (ldr (Yp x)) ?_|refine Za (Yf ..) ?_|refine Za (Zf ..) ?_|refine Za (ldr (row:=chkM m t) rfl) ?_|refine Za (Zl ..) ?_|refine Za rfl ?_
   exact hK
  refine r1 _ ?_;clear r1;generalize (zeroB x&&(!cntOp x.op||nmOk t x.n))=z at go stop ⊢;repeat first|refine Za (ldr (efLd0 x)) ?_|refine Za (ldr (efLd1 x)) ?_|refine Za (ldr (efLd6 x)) ?_|refine Za (ldr (Zp x)) ?_|refine Za (ldr (Yp x)) ?_|refine Za (Yf ..) ?_|refine Za (Zf ..) ?_|refine Za (ldr (row:=chkM m t) rfl) ?_|refine Za (Zl ..) ?_|refine Za rfl ?_
  refine Ql λk28 hk28=>?_;have kk:∀c,c=(z&&efArm cs t d x)→k28 [.bool c] []:=by
   rintro c hc;rw[hk28];exact go c hc
  clear hk28 go;repeat first|refine Za (ldr (efLd0 x)) ?_|refine Za (ldr (efLd1 x)) ?_|refine Za (ldr (efLd6 x)) ?_|refine Za (ldr (Zp x)) ?_|refine Za (ldr (Yp x)) ?_|refine Za (Yf ..) ?_|refine Za (Zf ..) ?_|refine Za (ldr (row:=chkM m t) rfl) ?_|refine Za (Zl ..) ?_|refine Za rfl ?_
  refine Ql λk1 hk1=>?_;have m1:∀c,c=decide (x.op=0∨x.op=1)→k1 [.bool c] []:=by
   rintro c hc;rw[hk1]; clear hk1 k1;refine Qb (λh=>?_) (λh=>?_)
   ·rw[h] at hc;have a1:x.op=0∨x.op=1:=by simpa using hc.symm
    have e:efArm cs t d x=(sdOp x.who||(decide (x.who=2)&&t)):=by rw[efArm,if_pos a1]
    rw[e] at kk;cases z with
    |false=>
     repeat first|refine Xa ?_|refine Zb ?_|refine Yb rfl ?_|refine Zc rfl ?_|refine Zd rfl ?_|refine Xd rfl ?_|refine Za (ldr (efLd0 x)) ?_|refine Za (ldr (efLd1 x)) ?_|refine Za (ldr (efLd6 x)) ?_|refine Za (ldr (Zp x)) ?_|refine Za (ldr (Yp x)) ?_|refine Za (Yf ..) ?_|refine Za (Zf ..) ?_|refine Za (ldr (row:=chkM m t) rfl) ?_|refine Za (Zl ..) ?_|refine Za rfl ?_
     exact kk _ rfl
    |true=>
     repeat first|refine Xa ?_|refine Zb ?_|refine Za (ldr (efLd0 x)) ?_|refine Za (ldr (efLd1 x)) ?_|refine Za (ldr (efLd6 x)) ?_|refine Za (ldr (Zp x)) ?_|refine Za (ldr (Yp x)) ?_|refine Za (Yf ..) ?_|refine Za (Zf ..) ?_|refine Za (ldr (row:=chkM m t) rfl) ?_|refine Za (Zl ..) ?_|refine Za rfl ?_
     refine Yd (c212 _) rfl g212_ok.plain rfl ?_;repeat first|refine Xa ?_|refine Zb ?_|refine Za (ldr (efLd0 x)) ?_|refine Za (ldr (efLd1 x)) ?_|refine Za (ldr (efLd6 x)) ?_|refine Za (ldr (Zp x)) ?_|refine Za (ldr (Yp x)) ?_|refine Za (Yf ..) ?_|refine Za (Zf ..) ?_|refine Za (ldr (row:=chkM m t) rfl) ?_|refine Za (Zl ..) ?_|refine Za rfl ?_
     rcases YBE (sdOp x.who) with h2|h2
     ·rw[h2] at kk ⊢;repeat first|refine Xa ?_|refine Zb ?_|refine Yb rfl ?_|refine Zc rfl ?_|refine Zd rfl ?_|refine Xd rfl ?_|refine Za (ldr (efLd0 x)) ?_|refine Za (ldr (efLd1 x)) ?_|refine Za (ldr (efLd6 x)) ?_|refine Za (ldr (Zp x)) ?_|refine Za (ldr (Yp x)) ?_|refine Za (Yf ..) ?_|refine Za (Zf ..) ?_|refine Za (ldr (row:=chkM m t) rfl) ?_|refine Za (Zl ..) ?_|refine Za rfl ?_
      exact kk _ rfl
     rw[h2] at kk ⊢;repeat first|refine Xa ?_|refine Zb ?_|refine Za (ldr (efLd0 x)) ?_|refine Za (ldr (efLd1 x)) ?_|refine Za (ldr (efLd6 x)) ?_|refine Za (ldr (Zp x)) ?_|refine Za (ldr (Yp x)) ?_|refine Za (Yf ..) ?_|refine Za (Zf ..) ?_|refine Za (ldr (row:=chkM m t) rfl) ?_|refine Za (Zl ..) ?_|refine Za rfl ?_
     rcases YBE (decide (x.who=2)) with h3|h3
     ·rw[h3] at kk ⊢;repeat first|refine Xa ?_|refine Zb ?_|refine Za (ldr (efLd0 x)) ?_|refine Za (ldr (efLd1 x)) ?_|refine Za (ldr (efLd6 x)) ?_|refine Za (ldr (Zp x)) ?_|refine Za (ldr (Yp x)) ?_|refine Za (Yf ..) ?_|refine Za (Zf ..) ?_|refine Za (ldr (row:=chkM m t) rfl) ?_|refine Za (Zl ..) ?_|refine Za rfl ?_
      exact kk _ (by simp)
     rw[h3] at kk ⊢;repeat first|refine Xa ?_|refine Zb ?_|refine Yb rfl ?_|refine Zc rfl ?_|refine Zd rfl ?_|refine Xd rfl ?_|refine Za (ldr (efLd0 x)) ?_|refine Za (ldr (efLd1 x)) ?_|refine Za (ldr (efLd6 x)) ?_|refine Za (ldr (Zp x)) ?_|refine Za (ldr (Yp x)) ?_|refine Za (Yf ..) ?_|refine Za (Zf ..) ?_|refine Za (ldr (row:=chkM m t) rfl) ?_|refine Za (Zl ..) ?_|refine Za rfl ?_
     exact kk _ (by simp)
   rw[h] at hc;have a1:¬(x.op=0∨x.op=1):=by simpa using hc.symm
   repeat first|refine Za (ldr (efLd0 x)) ?_|refine Za (ldr (efLd1 x)) ?_|refine Za (ldr (efLd6 x)) ?_|refine Za (ldr (Zp x)) ?_|refine Za (ldr (Yp x)) ?_|refine Za (Yf ..) ?_|refine Za (Zf ..) ?_|refine Za (ldr (row:=chkM m t) rfl) ?_|refine Za (Zl ..) ?_|refine Za rfl ?_
   refine Ql λk1 hk1=>?_;have m2:∀c,c=decide (x.op=2∨x.op=4∨x.op=6)→k1 [.bool c] []:=by
    rintro c hc;rw[hk1]; clear hk1 k1;refine Qb (λh=>?_) (λh=>?_)
    ·rw[h] at hc;have a2:x.op=2∨x.op=4∨x.op=6:=by simpa using hc.symm
     have e:efArm cs t d x=sdOp x.who:=by rw[efArm,if_neg a1,if_pos a2]
     rw[e] at kk;cases z with
     |false=>
      repeat first|refine Xa ?_|refine Zb ?_|refine Yb rfl ?_|refine Zc rfl ?_|refine Zd rfl ?_|refine Xd rfl ?_|refine Za (ldr (efLd0 x)) ?_|refine Za (ldr (efLd1 x)) ?_|refine Za (ldr (efLd6 x)) ?_|refine Za (ldr (Zp x)) ?_|refine Za (ldr (Yp x)) ?_|refine Za (Yf ..) ?_|refine Za (Zf ..) ?_|refine Za (ldr (row:=chkM m t) rfl) ?_|refine Za (Zl ..) ?_|refine Za rfl ?_
      exact kk _ rfl
     |true=>
      repeat first|refine Xa ?_|refine Zb ?_|refine Za (ldr (efLd0 x)) ?_|refine Za (ldr (efLd1 x)) ?_|refine Za (ldr (efLd6 x)) ?_|refine Za (ldr (Zp x)) ?_|refine Za (ldr (Yp x)) ?_|refine Za (Yf ..) ?_|refine Za (Zf ..) ?_|refine Za (ldr (row:=chkM m t) rfl) ?_|refine Za (Zl ..) ?_|refine Za rfl ?_
      refine Yd (c212 _) rfl g212_ok.plain rfl ?_;repeat first|refine Xa ?_|refine Zb ?_|refine Za (ldr (efLd0 x)) ?_|refine Za (ldr (efLd1 x)) ?_|refine Za (ldr (efLd6 x)) ?_|refine Za (ldr (Zp x)) ?_|refine Za (ldr (Yp x)) ?_|refine Za (Yf ..) ?_|refine Za (Zf ..) ?_|refine Za (ldr (row:=chkM m t) rfl) ?_|refine Za (Zl ..) ?_|refine Za rfl ?_
      exact kk _ (by simp)
    rw[h] at hc;have a2:¬(x.op=2∨x.op=4∨x.op=6):=by simpa using hc.symm
    repeat first|refine Za (ldr (efLd0 x)) ?_|refine Za (ldr (efLd1 x)) ?_|refine Za (ldr (efLd6 x)) ?_|refine Za (ldr (Zp x)) ?_|refine Za (ldr (Yp x)) ?_|refine Za (Yf ..) ?_|refine Za (Zf ..) ?_|refine Za (ldr (row:=chkM m t) rfl) ?_|refine Za (Zl ..) ?_|refine Za rfl ?_
    refine Ql λk1 hk1=>?_;have m3:∀c,c=decide (x.op=3∨x.op=5)→k1 [.bool c] []:=by
     rintro c hc;rw[hk1]; clear hk1 k1;refine Qb (λh=>?_) (λh=>?_)
     ·rw[h] at hc;have a3:x.op=3∨x.op=5:=by simpa using hc.symm
      have e:efArm cs t d x=decide (x.who=0):=by rw[efArm,if_neg a1,if_neg a2,if_pos a3]
      rw[e] at kk;cases z with
      |false=>
       repeat first|refine Xa ?_|refine Zb ?_|refine Yb rfl ?_|refine Zc rfl ?_|refine Zd rfl ?_|refine Xd rfl ?_|refine Za (ldr (efLd0 x)) ?_|refine Za (ldr (efLd1 x)) ?_|refine Za (ldr (efLd6 x)) ?_|refine Za (ldr (Zp x)) ?_|refine Za (ldr (Yp x)) ?_|refine Za (Yf ..) ?_|refine Za (Zf ..) ?_|refine Za (ldr (row:=chkM m t) rfl) ?_|refine Za (Zl ..) ?_|refine Za rfl ?_
       exact kk _ rfl
      |true=>
       repeat first|refine Xa ?_|refine Zb ?_|refine Za (ldr (efLd0 x)) ?_|refine Za (ldr (efLd1 x)) ?_|refine Za (ldr (efLd6 x)) ?_|refine Za (ldr (Zp x)) ?_|refine Za (ldr (Yp x)) ?_|refine Za (Yf ..) ?_|refine Za (Zf ..) ?_|refine Za (ldr (row:=chkM m t) rfl) ?_|refine Za (Zl ..) ?_|refine Za rfl ?_
       exact kk _ (by simp)
     rw[h] at hc;have a3:¬(x.op=3∨x.op=5):=by simpa using hc.symm
     repeat first|refine Za (ldr (efLd0 x)) ?_|refine Za (ldr (efLd1 x)) ?_|refine Za (ldr (efLd6 x)) ?_|refine Za (ldr (Zp x)) ?_|refine Za (ldr (Yp x)) ?_|refine Za (Yf ..) ?_|refine Za (Zf ..) ?_|refine Za (ldr (row:=chkM m t) rfl) ?_|refine Za (Zl ..) ?_|refine Za rfl ?_
     refine Qb (λa7=>?_) (λa7=>?_)
     ·have a7:x.op=7:=by simpa using a7
      have e:efArm cs t d x=(decide (x.who=0)&&(tlook x.name m).getD false):=by
       rw[efArm,if_neg a1,if_neg a2,if_neg a3,if_pos a7,hU];cases tlook x.name m<;>simp
      rw[e] at kk;cases z with
      |false=>
       repeat first|refine Xa ?_|refine Zb ?_|refine Yb rfl ?_|refine Zc rfl ?_|refine Zd rfl ?_|refine Xd rfl ?_|refine Za (ldr (efLd0 x)) ?_|refine Za (ldr (efLd1 x)) ?_|refine Za (ldr (efLd6 x)) ?_|refine Za (ldr (Zp x)) ?_|refine Za (ldr (Yp x)) ?_|refine Za (Yf ..) ?_|refine Za (Zf ..) ?_|refine Za (ldr (row:=chkM m t) rfl) ?_|refine Za (Zl ..) ?_|refine Za rfl ?_
       exact kk _ rfl
      |true=>
       repeat first|refine Xa ?_|refine Zb ?_|refine Za (ldr (efLd0 x)) ?_|refine Za (ldr (efLd1 x)) ?_|refine Za (ldr (efLd6 x)) ?_|refine Za (ldr (Zp x)) ?_|refine Za (ldr (Yp x)) ?_|refine Za (Yf ..) ?_|refine Za (Zf ..) ?_|refine Za (ldr (row:=chkM m t) rfl) ?_|refine Za (Zl ..) ?_|refine Za rfl ?_
       rcases YBE (decide (x.who=0)) with h3|h3
       ·rw[h3] at kk ⊢;repeat first|refine Xa ?_|refine Zb ?_|refine Za (ldr (efLd0 x)) ?_|refine Za (ldr (efLd1 x)) ?_|refine Za (ldr (efLd6 x)) ?_|refine Za (ldr (Zp x)) ?_|refine Za (ldr (Yp x)) ?_|refine Za (Yf ..) ?_|refine Za (Zf ..) ?_|refine Za (ldr (row:=chkM m t) rfl) ?_|refine Za (Zl ..) ?_|refine Za rfl ?_
        exact kk _ (by simp)
       rw[h3] at kk ⊢;repeat first|refine Xa ?_|refine Zb ?_|refine Yb rfl ?_|refine Zc rfl ?_|refine Zd rfl ?_|refine Xd rfl ?_|refine Za (ldr (efLd0 x)) ?_|refine Za (ldr (efLd1 x)) ?_|refine Za (ldr (efLd6 x)) ?_|refine Za (ldr (Zp x)) ?_|refine Za (ldr (Yp x)) ?_|refine Za (Yf ..) ?_|refine Za (Zf ..) ?_|refine Za (ldr (row:=chkM m t) rfl) ?_|refine Za (Zl ..) ?_|refine Za rfl ?_
       exact kk _ (by simp)
     have a7:x.op≠7:=by simpa using a7
     repeat first|refine Za (ldr (efLd0 x)) ?_|refine Za (ldr (efLd1 x)) ?_|refine Za (ldr (efLd6 x)) ?_|refine Za (ldr (Zp x)) ?_|refine Za (ldr (Yp x)) ?_|refine Za (Yf ..) ?_|refine Za (Zf ..) ?_|refine Za (ldr (row:=chkM m t) rfl) ?_|refine Za (Zl ..) ?_|refine Za rfl ?_
     refine Qb (λa8=>?_) (λa8=>?_);rotate_left
     ·have a8:x.op≠8:=by simpa using a8
      refine stop ?_;rw[efArm,if_neg a1,if_neg a2,if_neg a3,if_neg a7,if_neg a8,Bool.and_false]
     have a8:x.op=8:=by simpa using a8
     have e:efArm cs t d x=(decide (x.who=0)&&(cnOk cs t x.c&&(lstOk cs t (d+1) x.thn&&lstOk cs t (d+1) x.els))):=by
      rw[efArm,if_neg a1,if_neg a2,if_neg a3,if_neg a7,if_pos a8]
     rw[e] at kk;have hw:IntKind.i64.wrap (d+1)=d+1:=wrapI (by omega) (by omega);cases z with
     |false=>
      repeat first|refine Xa ?_|refine Zb ?_|refine Yb rfl ?_|refine Zc rfl ?_|refine Zd rfl ?_|refine Xd rfl ?_|refine Za (ldr (efLd0 x)) ?_|refine Za (ldr (efLd1 x)) ?_|refine Za (ldr (efLd6 x)) ?_|refine Za (ldr (Zp x)) ?_|refine Za (ldr (Yp x)) ?_|refine Za (Yf ..) ?_|refine Za (Zf ..) ?_|refine Za (ldr (row:=chkM m t) rfl) ?_|refine Za (Zl ..) ?_|refine Za rfl ?_
      exact kk _ rfl
     |true=>
      repeat first|refine Xa ?_|refine Zb ?_|refine Za (ldr (efLd0 x)) ?_|refine Za (ldr (efLd1 x)) ?_|refine Za (ldr (efLd6 x)) ?_|refine Za (ldr (Zp x)) ?_|refine Za (ldr (Yp x)) ?_|refine Za (Yf ..) ?_|refine Za (Zf ..) ?_|refine Za (ldr (row:=chkM m t) rfl) ?_|refine Za (Zl ..) ?_|refine Za rfl ?_
      rcases YBE (decide (x.who=0)) with h3|h3
      rotate_left
      ·rw[h3] at kk ⊢;repeat first|refine Xa ?_|refine Zb ?_|refine Yb rfl ?_|refine Zc rfl ?_|refine Zd rfl ?_|refine Xd rfl ?_|refine Za (ldr (efLd0 x)) ?_|refine Za (ldr (efLd1 x)) ?_|refine Za (ldr (efLd6 x)) ?_|refine Za (ldr (Zp x)) ?_|refine Za (ldr (Yp x)) ?_|refine Za (Yf ..) ?_|refine Za (Zf ..) ?_|refine Za (ldr (row:=chkM m t) rfl) ?_|refine Za (Zl ..) ?_|refine Za rfl ?_
       exact kk _ (by simp)
      rw[h3] at kk ⊢;repeat first|refine Xa ?_|refine Zb ?_|refine Za (ldr (efLd0 x)) ?_|refine Za (ldr (efLd1 x)) ?_|refine Za (ldr (efLd6 x)) ?_|refine Za (ldr (Zp x)) ?_|refine Za (ldr (Yp x)) ?_|refine Za (Yf ..) ?_|refine Za (Zf ..) ?_|refine Za (ldr (row:=chkM m t) rfl) ?_|refine Za (Zl ..) ?_|refine Za rfl ?_
      refine Yd (c213 m cs hU t x.c _ _ (XcF x) (YY hfx)) rfl g213_ok.plain rfl ?_;repeat first|refine Xa ?_|refine Zb ?_|refine Za (ldr (efLd0 x)) ?_|refine Za (ldr (efLd1 x)) ?_|refine Za (ldr (efLd6 x)) ?_|refine Za (ldr (Zp x)) ?_|refine Za (ldr (Yp x)) ?_|refine Za (Yf ..) ?_|refine Za (Zf ..) ?_|refine Za (ldr (row:=chkM m t) rfl) ?_|refine Za (Zl ..) ?_|refine Za rfl ?_
      rcases YBE (cnOk cs t x.c) with h4|h4
      rotate_left
      ·rw[h4] at kk ⊢;repeat first|refine Xa ?_|refine Zb ?_|refine Yb rfl ?_|refine Zc rfl ?_|refine Zd rfl ?_|refine Xd rfl ?_|refine Za (ldr (efLd0 x)) ?_|refine Za (ldr (efLd1 x)) ?_|refine Za (ldr (efLd6 x)) ?_|refine Za (ldr (Zp x)) ?_|refine Za (ldr (Yp x)) ?_|refine Za (Yf ..) ?_|refine Za (Zf ..) ?_|refine Za (ldr (row:=chkM m t) rfl) ?_|refine Za (Zl ..) ?_|refine Za rfl ?_
       exact kk _ (by simp)
      rw[h4] at kk ⊢;repeat first|refine Xa ?_|refine Zb ?_|refine Za (ldr (efLd0 x)) ?_|refine Za (ldr (efLd1 x)) ?_|refine Za (ldr (efLd6 x)) ?_|refine Za (ldr (Zp x)) ?_|refine Za (ldr (Yp x)) ?_|refine Za (Yf ..) ?_|refine Za (Zf ..) ?_|refine Za (ldr (row:=chkM m t) rfl) ?_|refine Za (Zl ..) ?_|refine Za rfl ?_
      rw[hw];refine Yd (c157' m cs hU t k x.thn (d+1) (by omega) (ZK hfx) (by omega)) rfl g157_ok.plain rfl ?_;repeat first|refine Xa ?_|refine Zb ?_|refine Za (ldr (efLd0 x)) ?_|refine Za (ldr (efLd1 x)) ?_|refine Za (ldr (efLd6 x)) ?_|refine Za (ldr (Zp x)) ?_|refine Za (ldr (Yp x)) ?_|refine Za (Yf ..) ?_|refine Za (Zf ..) ?_|refine Za (ldr (row:=chkM m t) rfl) ?_|refine Za (Zl ..) ?_|refine Za rfl ?_
      rcases YBE (lstOk cs t (d+1) x.thn) with h5|h5
      rotate_left
      ·rw[h5] at kk ⊢;repeat first|refine Xa ?_|refine Zb ?_|refine Yb rfl ?_|refine Zc rfl ?_|refine Zd rfl ?_|refine Xd rfl ?_|refine Za (ldr (efLd0 x)) ?_|refine Za (ldr (efLd1 x)) ?_|refine Za (ldr (efLd6 x)) ?_|refine Za (ldr (Zp x)) ?_|refine Za (ldr (Yp x)) ?_|refine Za (Yf ..) ?_|refine Za (Zf ..) ?_|refine Za (ldr (row:=chkM m t) rfl) ?_|refine Za (Zl ..) ?_|refine Za rfl ?_
       exact kk _ (by simp)
      rw[h5] at kk ⊢;repeat first|refine Xa ?_|refine Zb ?_|refine Za (ldr (efLd0 x)) ?_|refine Za (ldr (efLd1 x)) ?_|refine Za (ldr (efLd6 x)) ?_|refine Za (ldr (Zp x)) ?_|refine Za (ldr (Yp x)) ?_|refine Za (Yf ..) ?_|refine Za (Zf ..) ?_|refine Za (ldr (row:=chkM m t) rfl) ?_|refine Za (Zl ..) ?_|refine Za rfl ?_
      rw[hw];refine Yd (c157' m cs hU t k x.els (d+1) (by omega) (QJ hfx) (by omega)) rfl g157_ok.plain rfl ?_;repeat first|refine Xa ?_|refine Zb ?_|refine Za (ldr (efLd0 x)) ?_|refine Za (ldr (efLd1 x)) ?_|refine Za (ldr (efLd6 x)) ?_|refine Za (ldr (Zp x)) ?_|refine Za (ldr (Yp x)) ?_|refine Za (Yf ..) ?_|refine Za (Zf ..) ?_|refine Za (ldr (row:=chkM m t) rfl) ?_|refine Za (Zl ..) ?_|refine Za rfl ?_
      exact kk _ (by simp)
    clear hk1;refine Qb (λc1=>m3 _ ?_) (λc1=>?_)
    ·simp at c1; simp[c1]
    refine Za (Yf ..) (m3 _ ?_);simp at c1; simp[c1]
   clear hk1;refine Qb (λc1=>m2 _ ?_) (λc1=>?_)
   ·simp at c1; simp[c1]
   refine Za (Yf ..) (Qb (λc2=>m2 _ ?_) (λc2=>?_))
   ·simp at c2; simp[c2]
   refine Za (Yf ..) (m2 _ ?_);simp at c1 c2; simp[c1,c2]
  clear hk1;refine Qb (λc1=>m1 _ ?_) (λc1=>?_)
  ·simp at c1; simp[c1]
  refine Za (Yf ..) (m1 _ ?_);simp at c1; simp[c1]
theorem c157(m:List (Tx×Bool))(cs:List Cd)(hU:Units m cs)(t:Bool)(l:List Ef)(d:Int)(hf:lsFit l=true)(hd:0≤d):PC 157 [.rptr (chkM m t) 0,efV l,iv d] (.bool (lstOk cs t d l)):=c157' m cs hU t _ l d (Nat.le_refl _) hf hd
end Go.Ah.Tz
end
section
namespace Go.Ah.Tz
open Go.Proofs.Tryz (prog)
attribute [local irreducible] Ans.rd Ans.pu Ans.wr Ans.dr Ans.gr Ans.gw Ans.gl Ans.gd Ans.opt joinK W
set_option maxHeartbeats 2000000
theorem c221(m:List (Tx×Bool))(cs:List Cd)(hU:Units m cs)(c:Cd)(hf:cdFit c=true)
 (h223:PC 223 [.str c.name] (.bool (nameOk c.name)))(h124:PC 124 [.agg (cdC c)] (iv (cdW c))) :
  PC 221 [.rptr (cdC c) 0,.rmap (mpE m)] (.bool (cdOk cs c)):=by
 simp only[cdFit,Bool.and_eq_true,decide_eq_true_eq] at hf;obtain⟨f0,f1,f2,f3⟩:=hf;have bad:cdOk cs c=false→AVal.bool false=AVal.bool (cdOk cs c):=λh=>by rw[h]
 refine Qc hP g221_ok rfl rfl ?_;unfold g221;repeat first|refine Za (ldr (row:=cdC c) rfl) ?_|refine Za rfl ?_
 refine YB 7 ?_;refine Yj (Za rfl (Ze (Za rfl (Za rfl (XB rfl rfl (Qb (λh=>bad ?_) (λb1=>Za rfl ?_)))))))
 ·have:in999 c.cost=false:=by
   rw[Bool.eq_false_iff]; intro hh; simp[in999] at hh; simp at h; omega
  simp[cdOk,this]
 have b1:0≤c.cost∧c.cost≤999:=by simp at b1; omega
 refine Yj (Za rfl (Ze (Za rfl (Za rfl (XB rfl rfl (Qb (λh=>bad ?_) (λb2=>Za rfl ?_)))))))
 ·have:in999 c.power=false:=by
   rw[Bool.eq_false_iff]; intro hh; simp[in999] at hh; simp at h; omega
  simp[cdOk,this]
 have b2:0≤c.power∧c.power≤999:=by simp at b2; omega
 refine Yj (Za rfl (Ze (Za rfl (Za rfl (XB rfl rfl (Qb (λh=>bad ?_) (λb3=>Za rfl ?_)))))))
 ·have:in999 c.health=false:=by
   rw[Bool.eq_false_iff]; intro hh; simp[in999] at hh; simp at h; omega
  simp[cdOk,this]
 have b3:0≤c.health∧c.health≤999:=by simp at b3; omega
 refine Yj (Za rfl (Ze (Za rfl (Za rfl (XB rfl rfl (Qb (λh=>bad ?_) (λb4=>Za rfl ?_)))))))
 ·have:in999 c.shield=false:=by
   rw[Bool.eq_false_iff]; intro hh; simp[in999] at hh; simp at h; omega
  simp[cdOk,this]
 have b4:0≤c.shield∧c.shield≤999:=by simp at b4; omega
 refine Yj (Za rfl (Ze (Za rfl (Za rfl (XB rfl rfl (Qb (λh=>bad ?_) (λb5=>Za rfl ?_)))))))
 ·have:in999 c.aurap=false:=by
   rw[Bool.eq_false_iff]; intro hh; simp[in999] at hh; simp at h; omega
  simp[cdOk,this]
 have b5:0≤c.aurap∧c.aurap≤999:=by simp at b5; omega
 refine Yj (Za rfl (Ze (Za rfl (Za rfl (XB rfl rfl (Qb (λh=>bad ?_) (λb6=>Za rfl ?_)))))))
 ·have:in999 c.aurah=false:=by
   rw[Bool.eq_false_iff]; intro hh; simp[in999] at hh; simp at h; omega
  simp[cdOk,this]
 have b6:0≤c.aurah∧c.aurah≤999:=by simp at b6; omega
 refine Yj (Za rfl (Yh ?_));have hok:cdOk cs c=(nameOk c.name&&(decide (cdW c≤200)&&(cdSum c&&(lstOk cs true 1 c.played&&(lstOk cs false 1 c.dead&&lstOk cs false 1 c.dawn))))):=by
  have e1:in999 c.cost=true:=by simp[in999]; omega
  have e2:in999 c.power=true:=by simp[in999]; omega
  have e3:in999 c.health=true:=by simp[in999]; omega
  have e4:in999 c.shield=true:=by simp[in999]; omega
  have e5:in999 c.aurap=true:=by simp[in999]; omega
  have e6:in999 c.aurah=true:=by simp[in999]; omega
  simp only[cdOk,e1,e2,e3,e4,e5,e6,Bool.true_and];generalize decide (cdW c≤200)=w;cases w<;>simp
 rw[hok] at bad ⊢;clear hok;repeat first|refine Za (ldr (row:=cdC c) rfl) ?_|refine Za rfl ?_
 refine Yd h223 rfl g223_ok.plain rfl ?_;refine Za rfl ?_;refine Ql λk33 hk33=>?_;have kk1:(nameOk c.name&&(decide (cdW c≤200)&&(cdSum c&&(lstOk cs true 1 c.played&&(lstOk cs false 1 c.dead&&lstOk cs false 1 c.dawn)))))=false→k33 [.bool true] []:=by
  intro h;rw[hk33];exact Ze (bad h)
 have kk2:nameOk c.name=true→cdW c≤200→(c.unit=true→1≤c.health)→k33 [.bool false] []:=by
  intro n1 n2 n3;rw[hk33]; clear hk33 kk1 k33;rw[n1,decide_eq_true n2,Bool.true_and,Bool.true_and] at bad ⊢;refine Yh ?_;repeat first|refine Za (ldr (row:=cdC c) rfl) ?_|refine Za rfl ?_
  apply cutF (cdSum c=true)
  ·intro hR;cases hu:c.unit with
   |true=>
    repeat first|refine Xa ?_|refine Zb ?_|refine Yb rfl ?_|refine Zc rfl ?_|refine Zd rfl ?_|refine Xd rfl ?_|refine Za (ldr (row:=cdC c) rfl) ?_|refine Za rfl ?_
    refine Yh (hR ?_);simp[cdSum,hu,n3 hu]
   |false=>
    repeat first|refine Xa ?_|refine Zb ?_|refine Yb rfl ?_|refine Zc rfl ?_|refine Zd rfl ?_|refine Xd rfl ?_|refine Za (ldr (row:=cdC c) rfl) ?_|refine Za rfl ?_
    rw[wrapI (n:=c.power+c.health) (by omega) (by omega),wrapI (n:=c.power+c.health+c.shield) (by omega) (by omega),wrapI (n:=c.power+c.health+c.shield+c.aurap) (by omega) (by omega),wrapI (n:=c.power+c.health+c.shield+c.aurap+c.aurah) (by omega) (by omega)];rcases YBE (decide (c.power+c.health+c.shield+c.aurap+c.aurah>0)) with h|h
    ·rw[h];repeat first|refine Xa ?_|refine Zb ?_|refine Yb rfl ?_|refine Zc rfl ?_|refine Zd rfl ?_|refine Xd rfl ?_|refine Za (ldr (row:=cdC c) rfl) ?_|refine Za rfl ?_
     refine Ze (bad ?_);have h:¬(c.power+c.health+c.shield+c.aurap+c.aurah≤0):=by simp at h; omega
     simp[cdSum,hu,h]
    rw[h];repeat first|refine Xa ?_|refine Zb ?_|refine Za (ldr (row:=cdC c) rfl) ?_|refine Za rfl ?_
    have h:(c.power+c.health+c.shield+c.aurap+c.aurah≤0):=by simp at h; omega
    have l1:=QA f2;have l2:=QA f3;rw[bigE] at l1 l2;rw[List.length_map,List.length_map,wrapI (n:=(c.dead.length:Int)+(c.dawn.length:Int)) (by omega) (by omega)];refine Qb (λh2=>bad ?_) (λh2=>hR ?_)
    ·have h2:¬(c.dead.length+c.dawn.length=0):=by simp at h2; omega
     have:cdSum c=false:=by rw[cdSum,hu,decide_eq_false h2]; simp
     simp[this]
    ·have h2:(c.dead.length+c.dawn.length=0):=by simp at h2; omega
     rw[cdSum,hu,decide_eq_true h2,decide_eq_true h]; rfl
  intro b7;rw[b7,Bool.true_and];refine Za rfl (Xf rfl rfl (Za rfl (Za rfl (Za (ldr (row:=cdC c) rfl) ?_))));refine Xo (c157 m cs hU true c.played 1 f1 (by omega)) rfl g157_ok.plain rfl rfl ?_;refine Za rfl (Qb (λp1=>?_) (λp1=>?_))
  ·have p1:lstOk cs true 1 c.played=false:=by simpa using p1
   rw[p1]; rfl
  have p1:lstOk cs true 1 c.played=true:=by simpa using p1
  rw[p1,Bool.true_and];refine Za rfl (Za rfl (Xf rfl rfl (Za rfl (Za rfl (Za (ldr (row:=cdC c) rfl) ?_)))));refine Xo (c157 m cs hU false c.dead 1 f2 (by omega)) rfl g157_ok.plain rfl rfl ?_;rcases YBE (lstOk cs false 1 c.dead) with p2|p2
  rotate_left
  ·rw[p2];repeat first|refine Xa ?_|refine Zb ?_|refine Yb rfl ?_|refine Zc rfl ?_|refine Zd rfl ?_|refine Xd rfl ?_|refine Za (ldr (row:=cdC c) rfl) ?_|refine Za rfl ?_
   rfl
  rw[p2];repeat first|refine Xa ?_|refine Zb ?_|refine Za (ldr (row:=cdC c) rfl) ?_|refine Za rfl ?_
  refine Xo (c157 m cs hU false c.dawn 1 f3 (by omega)) rfl g157_ok.plain rfl rfl ?_;repeat first|refine Xa ?_|refine Zb ?_|refine Za (ldr (row:=cdC c) rfl) ?_|refine Za rfl ?_
  rfl
 clear hk33 bad;refine Qb (λn1=>?_) (λn1=>?_)
 ·rw[n1];refine kk1 ?_;have n1:nameOk c.name=false:=by simpa using n1
  rw[n1]; rfl
 have n1:nameOk c.name=true:=by simpa using n1
 refine Za rfl (Za (ldr (cdLd c)) ?_);refine Yd h124 rfl g124_ok.plain rfl ?_;refine Za rfl (Qb (λn2=>?_) (λn2=>?_))
 ·rw[n2];refine kk1 ?_;have n2:¬cdW c≤200:=by simp at n2; omega
  rw[decide_eq_false n2]; simp
 have n2:cdW c≤200:=by simp at n2; omega
 repeat first|refine Za (ldr (row:=cdC c) rfl) ?_|refine Za rfl ?_
 cases hu:c.unit with
 |false=>
  repeat first|refine Xa ?_|refine Zb ?_|refine Yb rfl ?_|refine Zc rfl ?_|refine Zd rfl ?_|refine Xd rfl ?_|refine Za (ldr (row:=cdC c) rfl) ?_|refine Za rfl ?_
  exact kk2 n1 n2 (λh=>by rw[hu] at h; cases h)
 |true=>
  repeat first|refine Xa ?_|refine Zb ?_|refine Za (ldr (row:=cdC c) rfl) ?_|refine Za rfl ?_
  rcases YBE (decide (c.health<1)) with h|h
  ·rw[h];refine kk1 ?_;have:cdSum c=false:=by simp at h; simp[cdSum,hu]; omega
   rw[this]; simp
  ·rw[h];exact kk2 n1 n2 (λ_=>by simp at h; omega)
end Go.Ah.Tz
end
section
namespace Go.Ah.Tz
open Go.Proofs.Tryz (prog)
def tput(t:Tx)(v:Bool):List (Tx×Bool)→List (Tx×Bool)
 |[]=>[(t,v)]
 |p::l=>if t==p.1 then (t,v)::l else p::tput t v l
theorem Ybk(t:Tx)(v:Bool):∀l,aput (.str t) (.bool v) (mpE l)=some (mpE (tput t v l))
 |[]=>rfl
 |p::l=>by
  simp only[mpE,List.map_cons,aput,keyEq,tput];cases h:t==p.1 with
  |true=>rfl
  |false=>
   have:=Ybk t v l;simp only[mpE] at this;simp only[this]; rfl
theorem ZP(t n:Tx)(v:Bool):∀l,tlook t (tput n v l)=if t==n then some v else tlook t l
 |[]=>by simp[tput,tlook]
 |p::l=>by
  simp only[tput];by_cases h:n==p.1
  ·have e:n=p.1:=by simpa using h
   rw[if_pos h,tlook,tlook,←e];by_cases h2:t==n<;>simp[h2]
  ·rw[if_neg h,tlook,tlook,ZP t n v l];have e:n≠p.1:=by simpa using h
   by_cases h2:t==p.1
   ·have e2:t=p.1:=by simpa using h2
    have:¬(t==n)=true:=by simp[e2]; exact λh=>e h.symm
    rw[if_pos h2,if_neg this,if_pos h2]
   ·rw[if_neg h2];by_cases h3:t==n<;>simp[h3,h2]
theorem Zaw:∀l,roES (mpE l)=true
 |[]=>rfl
 |p::l=>by
  have:=Zaw l;simp only[mpE] at this;simp[mpE,roES,AVal.ro,this]
theorem XbH{σ:List ABlk}{b:Nat}{l:List (Tx×Bool)}(h:hget σ b=.map (mpE l))(row:List AVal)(j:Nat):Yr σ 1000 [.rptr row j,.map b]=some ([.rptr row j,.rmap (mpE l)],[b]):=by
 show Yr σ (998+1+1) _=_;simp[Yr,h,Zaw,AVal.ro]
theorem ZbO{σ:List ABlk}{b:Nat}{l:List (Tx×Bool)}(h:hget σ b=.map (mpE l))(t:Tx):Qq true true (.bool false) [.map b,.str t] σ=.ok (.tup [.bool ((tlook t l).getD false),.bool (tlook t l).isSome]) [b] []:=by
 simp only[Qq,ZZ,mapOf,h,X1,cond_true];cases tlook t l<;>rfl
theorem XaR{σ:List ABlk}{b:Nat}{l:List (Tx×Bool)}(h:hget σ b=.map (mpE l))(t:Tx):Qq true false (.bool false) [.map b,.str t] σ=.ok (.bool ((tlook t l).getD false)) [b] []:=by
 simp only[Qq,ZZ,mapOf,h,X1,cond_true];cases tlook t l<;>rfl
theorem QaJ{σ:List ABlk}{b:Nat}{l:List (Tx×Bool)}(h:hget σ b=.map (mpE l))(t:Tx)(v:Bool):Yy true [.map b,.str t,.bool v] σ=.ok .junk [] [(b,.map (mpE (tput t v l)))]:=by
 simp only[Yy,ZZ,h,Ybk,cond_true]
def findO:List Cd→Tx→Option Bool
 |[],_=>none
 |c::l,t=>if c.name==t then some c.unit else findO l t
theorem ZbP:∀ (l:List Cd) (t:Tx) (u:Bool),findC l t u=(match findO l t with
 |none=>false
 | some b=>b || !u)
 |[],_,_=>rfl
 |c::l,t,u=>by
  simp only[findC,findO];by_cases h:c.name==t
  ·rw[if_pos h,if_pos h]
  ·rw[if_neg h,if_neg h]; exact ZbP l t u
theorem Yak:∀ (l:List Cd) (c:Cd) (t:Tx),findO (l ++ [c]) t=(match findO l t with
 |some b=>some b
 | none=>if c.name == t then some c.unit else none)
 |[],_,_=>rfl
 |d::l,c,t=>by
  simp only[List.cons_append,findO];by_cases h:d.name==t
  ·rw[if_pos h,if_pos h]
  ·rw[if_neg h,if_neg h]; exact Yak l c t
def UnitsO(m:List (Tx×Bool))(l:List Cd):Prop:=∀t,tlook t m=findO l t
theorem UnitsO.units{m:List (Tx×Bool)}{l:List Cd}(h:UnitsO m l):Units m l:=by
 intro t u; rw[ZbP,h t]<;>cases findO l t<;>rfl
theorem UnitsO.old{m:List (Tx×Bool)}{l:List Cd}(h:UnitsO m l){c:Cd}(hc:(tlook c.name m).isSome=true):UnitsO m (l++[c]):=by
 intro t;rw[Yak,←h t];cases e:tlook t m with
 |some b=>rfl
 |none=>
  by_cases h2:c.name==t
  ·have:c.name=t:=by simpa using h2
   rw[this,e] at hc; cases hc
  ·rw[if_neg h2]
theorem UnitsO.new{m:List (Tx×Bool)}{l:List Cd}(h:UnitsO m l){c:Cd}(hc:(tlook c.name m).isSome=false):UnitsO (tput c.name c.unit m) (l++[c]):=by
 intro t;rw[Yak,←h t,ZP];by_cases h2:t==c.name
 ·have e:t=c.name:=by simpa using h2
  subst e;cases e:tlook c.name m with
  |some b=>rw[e] at hc; cases hc
  |none=>simp
 ·have h3:¬(c.name==t)=true:=by
   intro h; apply h2; simp at h; simp[h]
  rw[if_neg h2,if_neg h3];cases tlook t m<;>rfl
def Seen(m:List (Tx×Bool))(l:List Cd):Prop:=∀t,(tlook t m).getD false=l.any λd=>d.name==t
theorem Seen.put{m:List (Tx×Bool)}{l:List Cd}(h:Seen m l)(c:Cd):Seen (tput c.name true m) (l++[c]):=by
 intro t;rw[ZP,List.any_append,←h t];by_cases h2:t==c.name
 ·have e:t=c.name:=by simpa using h2
  simp[e]
 ·have h3:(c.name==t)=false:=by
   rw[Bool.eq_false_iff]; intro h; apply h2; simp at h; simp[h]
  rw[if_neg h2]; simp[h3]
theorem Qt{σ:List ABlk}{b:Nat}(x:ABlk)(h:b<σ.length):hget (σ.set b x) b=x:=XT (by simp[h])
attribute [local irreducible] Ans.rd Ans.pu Ans.wr Ans.dr Ans.gr Ans.gw Ans.gl Ans.gd Ans.opt joinK W
set_option maxHeartbeats 1000000
theorem c180(cs:List Cd)(hf:QF cs=true)(h221:∀m,Units m cs→∀c∈cs,PC 221 [.rptr (cdC c) 0,.rmap (mpE m)] (.bool (cdOk cs c))) :
  PC 180 [cdV cs] (.agg [iv (cdsChk cs).1,iv (cdsChk cs).2]):=by
 simp only[QF,Bool.and_eq_true,decide_eq_true_eq] at hf;obtain⟨f0,f1⟩:=hf;rw[bigE] at f0;refine Qc hP g180_ok rfl rfl ?_;unfold g180;refine Xf rfl rfl (Za rfl (Za rfl ?_));refine Qb (λh=>?_) (λh=>?_)
 ·have h:240<cs.length:=by simp at h; omega
  refine Za rfl (Xf rfl rfl (Zt rfl ?_));rw[cdsChk,if_pos h]
 have h:¬240<cs.length:=by simp at h; omega
 rw[cdsChk,if_neg h];refine Xf rfl rfl (Za rfl ?_);refine Qk (ι:=Nat) (λi vs σ=>∃m,vs=[iv i]∧hget σ 0=.box [iv 0,iv 0]∧hget σ 1=.map (mpE m)∧1<σ.length∧i≤cs.length∧UnitsO m (cs.take i)) (λi=>cs.length-i) 0 ⟨[],rfl,rfl,rfl,by simp,by omega,λt=>by simp[tlook,findO]⟩ ?_;rintro i vs σ again ⟨m,rfl,hz,hm,hln,hi,hu⟩ hag;refine Za rfl ?_;refine Qb (λh=>?_) (λh=>?_)
 ·have hil:i<cs.length:=by simpa using h
  have hix:=λ(s:List ABlk)=>Yo s cdC false false 12 cs .i64 i hil;have htk:cs.take (i+1)=cs.take i++[cs[i]]:=Zu cs i hil;generalize cs[i]=c at hix htk;refine Ql λk10 hk10=>?_;have kk:∀m' σ',UnitsO m' (cs.take i++[c])→hget σ' 0=.box [iv 0,iv 0]→hget σ' 1=.map (mpE m')→1<σ'.length→k10 [] σ':=by
   intro m' σ' q1 q2 q3 q4;rw[hk10];refine Za (Zk ..) ?_;rw[Yg (n:=i) (by omega)];exact hag (i+1) _ _ (by omega) ⟨m',rfl,q2,q3,q4,by omega,by rw[htk]; exact q1⟩
  clear hk10 hag;refine Za (hix _) (Za (ldr (cdLd _)) (Xz (row:=cdC c) (row':=cdC c) rfl rfl rfl ?_));have hB0:=Yl σ (ABlk.box (cdC c));have hz':hget (σ++[ABlk.box (cdC c)]) 0=.box [iv 0,iv 0]:=Qm _ hz (by simp);have hm':hget (σ++[ABlk.box (cdC c)]) 1=.map (mpE m):=Qm _ hm (by simp);have hl':1<(σ++[ABlk.box (cdC c)]).length:=by simp; omega
  generalize σ++[ABlk.box (cdC c)]=base at hB0 hz' hm' hl' ⊢;generalize σ.length=b at hB0 ⊢;refine Za rfl (Za (ld hB0 rfl) (Za (ZbO hm' _) (Za rfl (Za rfl (Za rfl ?_)))));refine Qb (λh=>?_) (λh=>?_)
  ·have h:(tlook c.name m).isSome=false:=by simpa using h
   refine Za rfl (Za (ld hB0 rfl) (Za rfl (Za (ld hB0 rfl) (Xf (QaJ hm' _ _) (Yz _ hl') ?_))));exact kk _ _ (hu.new h) (Xv hz' (by simp) (by omega)) (Qt _ hl') (by simpa using hl')
  ·have h:(tlook c.name m).isSome=true:=by simpa using h
   exact kk _ _ (hu.old h) hz' hm' hl'
 have h:i=cs.length:=by simp at h; omega
 subst h;rw[List.take_length] at hu;have hmay:=h221 m hu.units;clear hag hu h221;refine Xf rfl (QL _ _) (Za rfl ?_);have hz':hget (σ++[ABlk.map []]) 0=.box [iv 0,iv 0]:=Qm _ hz (by simp);have hm':hget (σ++[ABlk.map []]) 1=.map (mpE m):=Qm _ hm (by simp);have hs':hget (σ++[ABlk.map []]) σ.length=.map (mpE []):=Yl _ _;have hl':σ.length<(σ++[ABlk.map []]).length:=by simp
 generalize σ++[ABlk.map []]=base at hz' hm' hs' hl' ⊢;generalize σ.length=b at hs' hl' hln ⊢;refine Qk (ι:=Nat) (λi vs s=>∃m2,vs=[iv i]∧hget s 0=.box [iv 0,iv 0]∧hget s 1=.map (mpE m)∧hget s b=.map (mpE m2)∧b<s.length∧i≤cs.length∧Seen m2 (cs.take i)∧cdsGo cs [] cs=cdsGo cs (cs.take i) (cs.drop i)) (λi=>cs.length-i) 0 ⟨[],rfl,hz',hm',hs',hl',by omega,λt=>by simp[tlook],by simp⟩ ?_;clear hz' hm' hs' hl' base hz hm σ;rintro i vs s again ⟨m2,rfl,hz,hm,hs,hl,hi,hse,hu⟩ hag;refine Za rfl ?_;refine Qb (λh=>?_) (λh=>?_);rotate_left
 ·have h:i=cs.length:=by simp at h; omega
  subst h;rw[List.drop_length,cdsGo] at hu;refine Za rfl (Xf (stv hz rfl rfl rfl) (Yz _ (by show 0<s.length; omega)) (Zt (QG (by show 0<s.length; omega) rfl) ?_));rw[hu]
 have hil:i<cs.length:=by simpa using h
 have hdr:cs.drop i=cs[i]::cs.drop (i+1):=by rw[YLD hil]
 have hix:=λ(s:List ABlk)=>Yo s cdC false false 12 cs .i64 i hil;have htk:cs.take (i+1)=cs.take i++[cs[i]]:=Zu cs i hil;have hmy:=hmay _ (List.getElem_mem hil);generalize cs[i]=c at hix htk hdr hmy;rw[hdr,cdsGo,←hse c.name] at hu;refine Za (hix _) (Za rfl (Za rfl (Za (ldr (cdLd0 _)) (Za (XaR hs _) ?_))));refine Qb (λh=>?_) (λh=>?_)
 ·rw[if_pos h] at hu;refine Za rfl (Za rfl (Za (ldr (Zbl _)) (Za rfl (Xf (stv hz rfl rfl rfl) (Yz _ (by show 0<s.length; omega)) (Zt (QG (by show 0<s.length; omega) rfl) ?_)))));rw[hu]
 rw[if_neg (by rw[h]; simp)] at hu;refine Xo hmy rfl g221_ok.plain (XbH hm _ _) rfl ?_;refine Za rfl ?_;refine Qb (λh=>?_) (λh=>?_)
 ·have h:cdOk cs c=false:=by simpa using h
  rw[h] at hu
  replace hu:cdsGo cs [] cs=(130,c.pl):=hu
  refine Za rfl (Za rfl (Za (ldr (Zbl _)) (Za rfl (Xf (stv hz rfl rfl rfl) (Yz _ (by show 0<s.length; omega)) (Zt (QG (by show 0<s.length; omega) rfl) ?_)))));rw[hu]
 ·have h:cdOk cs c=true:=by simpa using h
  rw[h,if_pos rfl] at hu;refine Za rfl (Za rfl (Za (ldr (cdLd0 _)) (Xf (QaJ hs _ _) (Yz _ hl) (Za (Zk ..) ?_))));rw[Yg (n:=i) (by omega)];refine hag (i+1) _ _ (by omega) ⟨_,rfl,?_,?_,Qt _ hl,by simpa using hl,by omega,by rw[htk]; exact hse.put c,by rw[htk]; exact hu⟩
  ·exact Xv hz (by simp) (by omega)
  ·exact Xv hm (by simp) (by omega)
end Go.Ah.Tz
end
section
namespace Go.Ah
inductive GT:Type 1 where
 |leaf
 |node (k np:Nat) (g:GFun) (l r:GT)
def GT.get:GT→Nat→Option (Nat×GFun)
 |.leaf,_=>none
 |.node k np g l r,f=>match Nat.beq f k with
  |true=>some (np,g)
  |false=>match Nat.blt f k with
   |true=>l.get f
   |false=>r.get f
def GT.Ok(P:Program)(GL:Globs):GT→Prop
 |.leaf=>True
 |.node k np g l r=>GOk P GL k np g∧l.Ok P GL∧r.Ok P GL
theorem GT.get_ok{P:Program}{GL:Globs}:∀ {t:GT},t.Ok P GL→∀f np g,t.get f=some (np,g)→GOk P GL f np g
 |.leaf,_,f,np,g,h=>by simp only[GT.get] at h; cases h
 |.node k np' g' l r,ok,f,np,g,h=>by
  unfold GT.get at h;obtain⟨o1,o2,o3⟩:=ok;split at h
  ·rename_i hb;have:=YNB hb;subst this;cases h;exact o1
  ·split at h
   ·exact GT.get_ok o2 f np g h
   ·exact GT.get_ok o3 f np g h
end Go.Ah
end
section
namespace Go.Ah.Tz
open Go.Proofs.Tryz (prog)
set_option maxRecDepth 100000
def g241:GFun:=λA xs a j=>match xs with
 |[x0]=>
 A.w1 Zbh x0 a λm a=>A.loop (λn f a=>A.w1 YaY m a λg a=>A.r (Qd 0) g a λo=>A.test o (A.r (Qd 1) g a λl=>A.r (Qd 2) g a λh=>
 A.k 256 [h] a λp a=>A.r (Qo .not) p a λe=>A.tr e Qh l a λq=>A.tb e .eql q (jv 0) a λs=>A.tr e Qh s a λd=>A.fr d Qh h a λt=>A.gw d false (λk=>A.k 257 [t] a k) a λu a=>
 A.fr d (Qo .not) u a λv=>A.fr d Qh v a λi=>A.tr i Qh h a λw=>A.tb i .neq w (.int .i32 39) a λy=>A.fc d i y (.bool false) a λz=>A.tc e d (.bool true) z a λa0=>
 A.c e a0 (.bool false) a λa1=>A.test a1 (j (.tup [l,(h0 f)]) a) (A.b .add (h0 f) (jv 1) a λa2=>n [a2] a)) (A.r Zq x0 a λa3=>j (.tup [a3,(h0 f)]) a)) [jv 0] a
 |_=>A.stop
theorem g241_ok:GQ 241 1 g241:=gq1 [none,some [3],none,none,none] λ_ _ _ _ _=>by kernel_rfl
def g242:GFun:=λA xs a b=>match xs with
 |[x0]=>
 A.k 258 [] a λc a=>A.s (Qq true false (.bool false)) c x0 a λd=>b d a
 |_=>A.stop
theorem g242_ok:GQ 242 1 g242:=gq1 [] λ_ _ _ _ _=>by kernel_rfl
def g243:GFun:=λA xs a e=>match xs with
 |[x0,x1]=>
 A.wr (Xe [.str [],.bool false,jv 0,jv 0,jv 0,jv 0,jv 0,jv 0,.nils,.nils,.nils,jv 0] [] a) a λc a=>A.k 259 [x0,x1] a λd a=>
 A.b .lss d (jv 0) a λf=>A.test f (A.r (Xc true 12) c a λg=>A.ws (Xb 12) c g a λ_ a=>A.opt (cellV true 12 c a) λr4=>e (.tup [r4,jv 0,.bool false]) a) (
 A.s (Yc 12) x0 d a λh=>A.r (Xc true 12) h a λi=>A.ws (Xb 12) c i a λ_ a=>A.opt (cellV true 12 c a) λr7=>e (.tup [r7,d,.bool true]) a)
 |_=>A.stop
theorem g243_ok:GQ 243 2 g243:=gq2 [none] λ_ _ _ _ _ _=>by kernel_rfl
def g244:GFun:=λA xs c d=>match xs with
 |[x0,x1]=>
 A.w1 Xk x0 c λe c=>A.r (Ya 0) e c λf=>A.a f c λg=>A.a x1 c λh=>A.b .eql g h c λi=>d i c
 |_=>A.stop
theorem g244_ok:GQ 244 2 g244:=gq2 [] λ_ _ _ _ _ _=>by kernel_rfl
def g245:GFun:=λA xs a b=>match xs with
 |[x0,x1]=>
 A.k 201 [x0,(.str [109,101])] a λd a=>A.test d (b (.int .i8 0) a) (A.k 201 [x0,(.str [102,111,101])] a λe a=>A.test e (b (.int .i8 1) a) (A.tr x1 Qh x0 a λf=>
 A.gw x1 true (λk=>A.k 201 [f,(.str [116,97,114,103,101,116])] a k) a λg a=>A.c x1 g (.bool false) a λh=>A.test h (b (.int .i8 2) a) (A.k 152 [x0,jv 120] a λi a=>
 b (.int .i8 0) a)))
 |_=>A.stop
theorem g245_ok:GQ 245 2 g245:=gq2 [none,none,none,none] λ_ _ _ _ _ _=>by kernel_rfl
def g246:GFun:=λA xs a i=>match xs with
 |[x0]=>
 A.wr (Xe zq2 [] a) a λe a=>A.k 260 [x0] a λj a=>A.wr (Xe zq2 [] a) a λb a=>A.ws (Xb 4) b j a λ_ a=>joinK (λf=>A.loop (λl v6 a=>
 A.k 150 [x0] a λm a=>A.test m (A.k 151 [x0,(.str [45])] a λn a=>joinK (λg=>A.test n (g [.int .i8 9] a) (g [.int .i8 8] a)) (λo a=>A.k 201 [x0,(.str [43])] a λp a=>
 A.r (Qo .not) p a λd=>A.tr d Qh x0 a λq=>A.gw d true (λk=>A.k 201 [q,(.str [45])] a k) a λs a=>A.tr d (Qo .not) s a λt=>A.c d t (.bool false) a λu=>
 A.test u (f [] a) (A.k 260 [x0] a λv a=>A.wr (Xe zq2 [] a) a λh a=>A.ws (Xb 4) h v a λ_ a=>A.r (Xc true 4) b a λw=>A.r (Xc true 4) h a λy=>
 A.k 261 [(h0 o),w,y] a λz a=>A.ws (Xb 4) b z a λ_ a=>l [] a))) (f [] a)) [] a) (λv4 a=>A.r (Xc true 4) b a λa0=>A.ws (Xb 4) e a0 a λ_ a=>
 A.opt (cellV true 4 e a) λr23=>i r23 a)
 |_=>A.stop
theorem g246_ok:GQ 246 1 g246:=gq1 [some [],some [],none,none,some [4],none] λ_ _ _ _ _=>by kernel_rfl
def g247:GFun:=λA xs c d=>match xs with
 |[x0]=>
 A.r Qa x0 c λe=>A.r (Ya 2) e c λf=>A.a f c λg=>A.b .add g (jv 1) c λh=>A.r Qa x0 c λi=>A.r (Ya 2) i c λj=>
 A.ws (Xb 1) j h c λ_ c=>A.r Qa x0 c λl=>A.r (Ya 2) l c λm=>A.a m c λn=>A.b .gtr n (jv 8) c λo=>A.test o (A.k 152 [x0,jv 121] c λp c=>
 d (.tup []) c) (d (.tup []) c)
 |_=>A.stop
theorem g247_ok:GQ 247 1 g247:=gq1 [none] λ_ _ _ _ _=>by kernel_rfl
def g248:GFun:=λA xs a e=>match xs with
 |[x0]=>
 A.wr (Xe [.int .i8 0,.int .i8 0,.str [],.nils,.nils] [] a) a λc a=>A.k 262 [x0] a λf a=>A.wr (Xe [.int .i8 0,.int .i8 0,.str [],.nils,.nils] [] a) a λb a=>
 A.ws (Xb 5) b f a λ_ a=>A.loop (λg p a=>A.k 201 [x0,(.str [111,114])] a λh a=>A.test h (A.k 262 [x0] a λi a=>A.wr (Xe [.int .i8 0,.int .i8 0,.str [],.nils,.nils] [] a) a λd a=>
 A.ws (Xb 5) d i a λ_ a=>A.r (Xc true 5) b a λj=>A.r (Xc true 5) d a λl=>A.wr (Xi 5 2 [.int .i8 0,.int .i8 0,.str [],.nils,.nils,.int .i8 0,.int .i8 0,.str [],.nils,.nils] [(0,5),(5,5)] [j,l] a) a λm a=>
 A.rd (Ye [.int .i8 0,.int .i8 0,.str [],.nils,.nils] [(0,1),(4,1)] [.int .i8 5,m] a) λn=>A.ws (Xb 5) b n a λ_ a=>g [] a) (A.r (Xc true 5) b a λo=>
 A.ws (Xb 5) c o a λ_ a=>A.opt (cellV true 5 c a) λr13=>e r13 a)) [] a
 |_=>A.stop
theorem g248_ok:GQ 248 1 g248:=gq1 [none,some [],none,none] λ_ _ _ _ _=>by kernel_rfl
def g249:GFun:=λA xs c d=>match xs with
 |[x0]=>
 A.r Qa x0 c λe=>A.r (Ya 2) e c λf=>A.a f c λg=>A.b .sub g (jv 1) c λh=>A.r Qa x0 c λi=>A.r (Ya 2) i c λj=>
 A.ws (Xb 1) j h c λ_ c=>d (.tup []) c
 |_=>A.stop
theorem g249_ok:GQ 249 1 g249:=gq1 [] λ_ _ _ _ _=>by kernel_rfl
def g250:GFun:=λA xs a b=>match xs with
 |[x0,x1]=>
 A.dcall (.call 263) [] a λc d a=>A.dcall (.call 252) [x0] a λe f a=>A.pu (YX true 4 4 [c,e] a) λg=>A.dcall (.call 252) [x1] a λh i a=>A.pu (YX false 4 1 [g,h] a) λj=>
 A.gd (Zi [[],[],[0,1],[0,1,2],[],[0,1,2,4],[0,1,2,3,4,5],[0,1,2,3,4,5,6]] [d,([],[]),f,([],[]),([],[]),i,([],[]),([],[])]) <|
 b j a
 |_=>A.stop
theorem g250_ok:GQ 250 2 g250:=gq2 [] λ_ _ _ _ _ _=>by kernel_rfl
def g251:GFun:=λA xs d h=>match xs with
 |[x0]=>
 A.w1 Xk x0 d λf d=>A.r (Ya 0) f d λl=>A.a l d λm=>A.b .eql m (.int .i8 6) d λn=>A.test n (h (.int .i8 3) d) (A.r (Ya 0) f d λo=>
 A.a o d λp=>A.b .geq p (.int .i8 8) d λg=>A.tr g (Ya 0) f d λq=>A.ta g q d λt=>A.tb g .leq t (.int .i8 12) d λu=>A.c g u (.bool false) d λv=>
 A.test v (A.r (Ya 3) f d λw=>A.a w d λi=>A.r Qe i d λy=>A.loop (λz e d=>A.b .lss (h0 e) y d λa0=>A.test a0 (A.s (Yc 4) i (h0 e) d λa1=>
 A.r (Xc true 4) a1 d λa2=>A.wr (Xe zq2 [] d) d λj d=>A.ws (Xb 4) j a2 d λ_ d=>A.r (Xc true 4) j d λa3=>A.k 251 [a3] d λa4 d=>
 A.k 250 [(h1 e),a4] d λa5 d=>A.b .add (h0 e) (jv 1) d λa6=>z [a6,a5] d) (h (h1 e) d)) [jv 0,.int .i8 0] d) (h (.int .i8 0) d))
 |_=>A.stop
theorem g251_ok:GQ 251 1 g251:=gq1 [none,none,none,none,some [22,3],none,none] λ_ _ _ _ _=>by kernel_rfl
def g252:GFun:=λA xs a e=>match xs with
 |[x0]=>
 A.b .lss x0 (.int .i8 0) a λd=>A.fr d Qh x0 a λf=>A.fb d .gtr f (.int .i8 3) a λg=>A.c d (.bool true) g a λh=>A.test h (e (.int .i8 3) a) (e x0 a)
 |_=>A.stop
theorem g252_ok:GQ 252 1 g252:=gq1 [none] λ_ _ _ _ _=>by kernel_rfl
def g253:GFun:=λA xs a c=>match xs with
 |[x0,x1]=>
 A.k 250 [x0,x1] a λd a=>A.k 252 [x1] a λe a=>A.b .eql d e a λf=>c f a
 |_=>A.stop
theorem g253_ok:GQ 253 2 g253:=gq2 [] λ_ _ _ _ _ _=>by kernel_rfl
def g254:GFun:=λA xs c f=>match xs with
 |[x0]=>
 A.w1 Xk x0 c λg c=>A.r (Ya 0) g c λn=>A.a n c λo=>A.b .eql o (.int .i8 6) c λp=>A.test p (A.r (Ya 1) g c λq=>A.a q c λh=>
 A.b .eql h (.int .i8 0) c λt=>A.test t (f (.int .i8 1) c) (A.b .eql h (.int .i8 1) c λu=>A.test u (f (.int .i8 2) c) (f (.int .i8 3) c))) (A.r (Ya 3) g c λv=>
 A.a v c λi=>A.r Qe i c λw=>A.loop (λy d c=>A.b .lss (h0 d) w c λz=>A.test z (A.s (Yc 4) i (h0 d) c λa0=>A.r (Xc true 4) a0 c λa1=>
 A.wr (Xe zq2 [] c) c λj c=>A.ws (Xb 4) j a1 c λ_ c=>A.r (Xc true 4) j c λa2=>A.k 251 [a2] c λa3 c=>A.k 250 [(h1 d),a3] c λa4 c=>
 A.b .add (h0 d) (jv 1) c λa5=>y [a5,a4] c) (A.r (Ya 4) g c λa6=>A.a a6 c λl=>A.r Qe l c λa7=>A.loop (λa8 e c=>A.b .lss (h0 e) a7 c λa9=>
 A.test a9 (A.s (Yc 5) l (h0 e) c λb0=>A.r (Xc true 5) b0 c λb1=>A.wr (Xe [.int .i8 0,.int .i8 0,.str [],.nils,.nils] [] c) c λm c=>
 A.ws (Xb 5) m b1 c λ_ c=>A.r (Xc true 5) m c λb2=>A.k 254 [b2] c λb3 c=>A.k 250 [(h1 e),b3] c λb4 c=>A.b .add (h0 e) (jv 1) c λb5=>
 a8 [b5,b4] c) (f (h1 e) c)) [jv 0,(h1 d)] c)) [jv 0,.int .i8 0] c)
 |_=>A.stop
theorem g254_ok:GQ 254 1 g254:=gq1 [none,none,none,none,none,some [20,3],none,none,none,some [32,3],none,none] λ_ _ _ _ _=>by kernel_rfl
def g255:GFun:=λA xs a d=>match xs with
 |[x0,x1]=>
 A.r Qe x0 a λe=>A.loop (λf c a=>A.b .lss (h0 c) e a λg=>A.test g (A.s (Yc 14) x0 (h0 c) a λh=>A.r (Xc true 14) h a λi=>A.call .callv [x1,i] a λj a=>
 A.test j (d (h0 c) a) (A.b .add (h0 c) (jv 1) a λl=>f [l] a)) (d (jv (-1)) a)) [jv 0] a
 |_=>A.stop
theorem g255_ok:GQ 255 2 g255:=gq2 [none,some [8],none,none,none] λ_ _ _ _ _ _=>by kernel_rfl
def g256:GFun:=λA xs a d=>match xs with
 |[x0]=>
 A.b .geq x0 (.int .i32 97) a λe=>A.tr e Qh x0 a λm=>A.tb e .leq m (.int .i32 122) a λn=>A.c e n (.bool false) a λh=>joinK (λi=>A.test h (i [h] a) (
 A.b .geq x0 (.int .i32 65) a λf=>A.tr f Qh x0 a λo=>A.tb f .leq o (.int .i32 90) a λp=>A.c f p (.bool false) a λq=>i [q] a)) (λr a=>A.test (h0 r) (
 d (.bool true) a) (A.b .eql x0 (.int .i32 215) a λj=>joinK (λl=>A.test j (l [j] a) (A.b .eql x0 (.int .i32 247) a λs=>l [s] a)) (λt a=>A.test (h0 t) (
 d (.bool false) a) (A.b .geq x0 (.int .i32 192) a λg=>A.tr g Qh x0 a λu=>A.tb g .leq u (.int .i32 591) a λv=>A.c g v (.bool false) a λw=>d w a))))
 |_=>A.stop
theorem g256_ok:GQ 256 1 g256:=gq1 [none,some [3],none,some [16],none] λ_ _ _ _ _=>by kernel_rfl
def g257:GFun:=λA xs a e=>match xs with
 |[x0]=>
 A.b .geq x0 (.int .i32 48) a λd=>A.tr d Qh x0 a λf=>A.tb d .leq f (.int .i32 57) a λg=>A.c d g (.bool false) a λh=>e h a
 |_=>A.stop
theorem g257_ok:GQ 257 1 g257:=gq1 [] λ_ _ _ _ _=>by kernel_rfl
def g258:GFun:=λA xs c g=>match xs with
 |[]=>
 A.wr (QD [] c) c λe c=>A.k 264 [(.str [99,97,114,100,32,117,110,105,116,32,99,104,97,114,109,32,102,111,114,109,97,116,32,112,108,97,121,101,100,32,100,101,97,100,32,100,97,119,110,32,97,117,114,97,32,115,104,105,101,108,100,32,104,97,114,109,32,109,101,110,100,32,100,114,97,119,32,103,97,105,110,32,100,114,111,112,32,108,111,111,107,32,115,104,111,119,32,115,117,109,109,111,110,32,105,102,32,101,108,115,101,32,109,101,32,102,111,101,32,116,97,114,103,101,116,32,108,105,102,101,32,104,97,110,100,32,100,101,99,107,32,117,110,105,116,115,32,109,97,110,97,32,99,111,115,116,32,116,111,112,32,112,111,119,101,114,32,109,105,110,32,109,97,120,32,110,111,116,32,97,110,100,32,111,114,32,104,111,108,100,115,32,108,101,97,115,116,32,109,111,115,116,32,99,111,112,105,101,115,32,98,97,110,110,101,100,32,115,105,110,103,108,101])] c λf c=>
 A.r Qe f c λh=>A.loop (λi d c=>A.b .lss (h0 d) h c λj=>A.test j (A.s (Yc 1) f (h0 d) c λl=>A.a l c λm=>A.wr (Yy true [e,m,.bool true] c) c λ_ c=>
 A.b .add (h0 d) (jv 1) c λn=>i [n] c) (g e c)) [jv 0] c
 |_=>A.stop
theorem g258_ok:GQ 258 0 g258:=gq0 [none,some [7],none,none] λ_ _ _ _=>by kernel_rfl
def g259:GFun:=λA xs a d=>match xs with
 |[x0,x1]=>
 A.r Qe x0 a λe=>A.loop (λf c a=>A.b .lss (h0 c) e a λg=>A.test g (A.s (Yc 12) x0 (h0 c) a λh=>A.r (Xc true 12) h a λi=>A.call .callv [x1,i] a λj a=>
 A.test j (d (h0 c) a) (A.b .add (h0 c) (jv 1) a λl=>f [l] a)) (d (jv (-1)) a)) [jv 0] a
 |_=>A.stop
theorem g259_ok:GQ 259 2 g259:=gq2 [none,some [8],none,none,none] λ_ _ _ _ _ _=>by kernel_rfl
def g260:GFun:=λA xs a e=>match xs with
 |[x0]=>
 A.wr (Xe zq2 [] a) a λc a=>A.k 265 [x0] a λf a=>A.wr (Xe zq2 [] a) a λb a=>A.ws (Xb 4) b f a λ_ a=>A.loop (λg o a=>A.k 201 [x0,(.str [42])] a λh a=>
 A.test h (A.k 265 [x0] a λi a=>A.wr (Xe zq2 [] a) a λd a=>A.ws (Xb 4) d i a λ_ a=>A.r (Xc true 4) b a λj=>A.r (Xc true 4) d a λl=>
 A.k 261 [.int .i8 10,j,l] a λm a=>A.ws (Xb 4) b m a λ_ a=>g [] a) (A.r (Xc true 4) b a λn=>A.ws (Xb 4) c n a λ_ a=>A.opt (cellV true 4 c a) λr12=>
 e r12 a)) [] a
 |_=>A.stop
theorem g260_ok:GQ 260 1 g260:=gq1 [none,some [],none,none] λ_ _ _ _ _=>by kernel_rfl
def g261:GFun:=λA xs a c=>match xs with
 |[x0,x1,x2]=>
 A.w1 Xk x1 a λd a=>A.w1 Xk x2 a λe a=>A.wr (Xe zq2 [] a) a λb a=>A.r (Xc true 4) d a λf=>A.r (Xc true 4) e a λg=>A.wr (Xi 4 2 zq5 [(0,4),(4,4)] [f,g] a) a λh a=>
 A.rd (Ye zq2 [(0,1),(3,1)] [x0,h] a) λi=>A.ws (Xb 4) b i a λ_ a=>A.opt (cellV true 4 b a) λr7=>c r7 a
 |_=>A.stop
theorem g261_ok:GQ 261 3 g261:=gq3 [] λ_ _ _ _ _ _ _=>by kernel_rfl
def g262:GFun:=λA xs a e=>match xs with
 |[x0]=>
 A.wr (Xe [.int .i8 0,.int .i8 0,.str [],.nils,.nils] [] a) a λc a=>A.k 266 [x0] a λf a=>A.wr (Xe [.int .i8 0,.int .i8 0,.str [],.nils,.nils] [] a) a λb a=>
 A.ws (Xb 5) b f a λ_ a=>A.loop (λg p a=>A.k 201 [x0,(.str [97,110,100])] a λh a=>A.test h (A.k 266 [x0] a λi a=>A.wr (Xe [.int .i8 0,.int .i8 0,.str [],.nils,.nils] [] a) a λd a=>
 A.ws (Xb 5) d i a λ_ a=>A.r (Xc true 5) b a λj=>A.r (Xc true 5) d a λl=>A.wr (Xi 5 2 [.int .i8 0,.int .i8 0,.str [],.nils,.nils,.int .i8 0,.int .i8 0,.str [],.nils,.nils] [(0,5),(5,5)] [j,l] a) a λm a=>
 A.rd (Ye [.int .i8 0,.int .i8 0,.str [],.nils,.nils] [(0,1),(4,1)] [.int .i8 4,m] a) λn=>A.ws (Xb 5) b n a λ_ a=>g [] a) (A.r (Xc true 5) b a λo=>
 A.ws (Xb 5) c o a λ_ a=>A.opt (cellV true 5 c a) λr13=>e r13 a)) [] a
 |_=>A.stop
theorem g262_ok:GQ 262 1 g262:=gq1 [none,some [],none,none] λ_ _ _ _ _=>by kernel_rfl
def g263:GFun:=λA xs a c=>match xs with
 |[]=>
 A.wr (Xe [.int .i8 0,.int .i8 0,.int .i8 0,.int .i8 0,.int .i8 0,.int .i8 0,.int .i8 0,.int .i8 0,.int .i8 0,.int .i8 0,.int .i8 0,.int .i8 0,.int .i8 0,.int .i8 0,.int .i8 0,.int .i8 0] [] a) a λb a=>
 A.rd (Ye zq7 [(0,1),(1,1),(2,1),(3,1)] [.int .i8 0,.int .i8 1,.int .i8 2,.int .i8 3] a) λd=>A.rd (Ye zq7 [(0,1),(1,1),(2,1),(3,1)] [.int .i8 1,.int .i8 1,.int .i8 3,.int .i8 3] a) λe=>
 A.rd (Ye zq7 [(0,1),(1,1),(2,1),(3,1)] [.int .i8 2,.int .i8 3,.int .i8 2,.int .i8 3] a) λf=>A.rd (Ye zq7 [(0,1),(1,1),(2,1),(3,1)] [.int .i8 3,.int .i8 3,.int .i8 3,.int .i8 3] a) λg=>
 A.rd (Ye [.int .i8 0,.int .i8 0,.int .i8 0,.int .i8 0,.int .i8 0,.int .i8 0,.int .i8 0,.int .i8 0,.int .i8 0,.int .i8 0,.int .i8 0,.int .i8 0,.int .i8 0,.int .i8 0,.int .i8 0,.int .i8 0] [(0,4),(4,4),(8,4),(12,4)] [d,e,f,g] a) λh=>
 A.ws (Xb 16) b h a λ_ a=>A.opt (cellV true 16 b a) λr6=>c r6 a
 |_=>A.stop
theorem g263_ok:GQ 263 0 g263:=gq0 [] λ_ _ _ _=>by kernel_rfl
def g264:GFun:=λA xs d m=>match xs with
 |[x0]=>
 A.loop (λq f d=>A.r Zq x0 d λt=>A.b .lss (h0 f) t d λu=>A.test u (A.s Zy x0 (h0 f) d λn=>A.b .or (h1 f) n d λv=>A.s (Zg 256 1) (.rptr row0 0) n d λw=>
 A.a w d λy=>A.r (Qaa .i64) y d λo=>A.r (Qo .xor) o d λz=>A.b .and (h3 f) z d λa0=>A.b .add (h2 f) a0 d λa1=>A.b .add (h0 f) (jv 1) d λa2=>
 q [a2,v,a1,o] d) (A.b .geq (h1 f) (.int .u8 128) d λa3=>A.test a3 (A.k 267 [x0,(.func (.func 268) [] [])] d λa4 d=>m a4 d) (A.wr (Ybb 1 16 [.str []] [(h2 f)] d) d λl d=>
 A.loop (λa5 i d=>A.r Zq x0 d λa6=>A.b .lss (h0 i) a6 d λg=>A.tr g Qh x0 d λa7=>A.tr g Qh (h0 i) d λa8=>A.ts g Zy a7 a8 d λa9=>
 A.ts g (Zg 256 1) (.rptr row0 0) a9 d λb0=>A.ta g b0 d λb1=>A.tb g .neq b1 (.int .u8 0) d λb2=>A.c g b2 (.bool false) d λb3=>A.test b3 (
 A.b .add (h0 i) (jv 1) d λb4=>a5 [b4] d) (A.loop (λp e d=>A.r Zq x0 d λb5=>A.b .lss (h0 e) b5 d λb6=>A.test b6 (A.s Zy x0 (h0 e) d λb7=>
 A.s (Zg 256 1) (.rptr row0 0) b7 d λb8=>A.a b8 d λb9=>A.b .eql b9 (.int .u8 0) d λc0=>A.test c0 (A.b .add (h0 e) (jv 1) d λc1=>p [c1,(h1 e),(h2 e)] d) (
 A.rd (QV [x0,(h2 e),(h0 e)] d) λc2=>A.s (Yc 1) l (h1 e) d λc3=>A.ws (Xb 1) c3 c2 d λ_ d=>A.b .add (h1 e) (jv 1) d λc4=>A.b .add (h0 e) (jv 1) d λc5=>
 A.loop (λc6 j d=>A.r Zq x0 d λc7=>A.b .lss (h0 j) c7 d λh=>A.tr h Qh x0 d λc8=>A.tr h Qh (h0 j) d λc9=>A.ts h Zy c8 c9 d λd0=>
 A.ts h (Zg 256 1) (.rptr row0 0) d0 d λd1=>A.ta h d1 d λd2=>A.tb h .neq d2 (.int .u8 0) d λd3=>A.c h d3 (.bool false) d λd4=>A.test d4 (
 A.b .add (h0 j) (jv 1) d λd5=>c6 [d5] d) (p [(h0 j),c4,(h0 j)] d)) [c5] d)) (A.r Zq x0 d λd6=>A.b .lss (h2 e) d6 d λd7=>A.test d7 (A.s Xab x0 (h2 e) d λd8=>
 A.s (Yc 1) l (h1 e) d λd9=>A.ws (Xb 1) d9 d8 d λ_ d=>m l d) (m l d))) [(h0 i),jv 0,(h0 i)] d)) [jv 0] d))) [jv 0,.int .u8 0,jv 0,jv 1] d
 |_=>A.stop
theorem g264_ok:GQ 264 1 g264:=gq1 [none,some [6,5,3,4],none,none,none,none,some [12],none,none,none,some [12,10,11],none,none,none,none,some [12],none,none,none] λ_ _ _ _ _=>by kernel_rfl
def g265:GFun:=λA xs d f=>match xs with
 |[x0]=>
 A.wr (Xe zq2 [] d) d λe d=>A.pu (Qa [x0] d) λu=>A.pu (Ya 0 [u] d) λv=>A.dr (Qg [v] d) d λw y d=>A.pu (Qa [x0] d) λz=>
 A.pu (Ya 1 [z] d) λt6=>A.dr (Qg [t6] d) d λt7 l8 d=>A.dr (Yc 4 [w,t7] d) d λt9 a0 d=>A.dr (Xc true 4 [t9] d) d λa1 a2 d=>
 A.dr (Xe [.int .i8 0,.str [],jv 0,jv 0] [] d) d λi a3 d=>A.dr (Xb 4 [i,a1] d) d λ_ a4 d=>A.gd (Zi [[],[0],[0,1],[0,1,2],[],[4],[4,5],[4,5,6],[0,1,2,3,4,5,6,7],[0,1,2,3,4,5,6,7,8],[],[0,1,2,3,4,5,6,7,8,9,10]] [([],[]),([],[]),([],[]),y,([],[]),([],[]),([],[]),l8,a0,a2,a3,a4]) <|
 A.k 150 [x0] d λg d=>A.tr g (Ya 0) i d λa5=>A.ta g a5 d λa6=>A.tb g .eql a6 (.int .i8 2) d λa7=>A.c g a7 (.bool false) d λa8=>A.test a8 (
 A.r Qa x0 d λa9=>A.r (Ya 1) a9 d λb0=>A.a b0 d λb1=>A.b .add b1 (jv 1) d λb2=>A.r Qa x0 d λb3=>A.r (Ya 1) b3 d λb4=>
 A.ws (Xb 1) b4 b2 d λ_ d=>A.r (Ya 2) i d λb5=>A.a b5 d λb6=>A.rd (Ye zq2 [(1,1)] [b6] d) λb7=>A.ws (Xb 4) e b7 d λ_ d=>
 A.opt (cellV true 4 e d) λr30=>f r30 d) (A.wr (Xi 1 5 [.str [],.str [],.str [],.str [],.str []] [(0,1),(1,1),(2,1),(3,1),(4,1)] [.str [],(.str [108,105,102,101]),(.str [104,97,110,100]),(.str [100,101,99,107]),(.str [117,110,105,116,115])] d) d λl d=>
 A.loop (λb8 h d=>A.r Qe l d λb9=>A.b .lss (h0 h) b9 d λc0=>A.test c0 (A.s (Yc 1) l (h0 h) d λc1=>A.a c1 d λc2=>A.k 201 [x0,c2] d λc3 d=>
 A.test c3 (A.k 203 [x0,(.str [40])] d λf7 d=>A.r (Qaa .i8) (h0 h) d λc4=>A.k 245 [x0,.bool false] d λc5 d=>A.rd (Ye zq2 [(0,1),(2,1)] [c4,c5] d) λc6=>
 A.wr (Xe zq2 [] d) d λm d=>A.ws (Xb 4) m c6 d λ_ d=>A.k 203 [x0,(.str [41])] d λf8 d=>A.r (Xc true 4) m d λc7=>A.ws (Xb 4) e c7 d λ_ d=>
 A.opt (cellV true 4 e d) λr46=>f r46 d) (A.b .add (h0 h) (jv 1) d λc8=>b8 [c8] d)) (A.k 201 [x0,(.str [109,97,110,97])] d λc9 d=>A.test c9 (A.k 203 [x0,(.str [40])] d λf9 d=>
 A.k 203 [x0,(.str [109,101])] d λg0 d=>A.k 203 [x0,(.str [41])] d λg1 d=>A.rd (Ye zq2 [(0,1)] [.int .i8 5] d) λd0=>A.ws (Xb 4) e d0 d λ_ d=>
 A.opt (cellV true 4 e d) λr53=>f r53 d) (A.k 201 [x0,(.str [99,111,115,116])] d λd1 d=>A.test d1 (A.k 203 [x0,(.str [40])] d λg2 d=>A.k 203 [x0,(.str [116,111,112])] d λg3 d=>
 A.k 203 [x0,(.str [40])] d λg4 d=>A.k 203 [x0,(.str [109,101])] d λg5 d=>A.k 203 [x0,(.str [41])] d λg6 d=>A.k 203 [x0,(.str [41])] d λg7 d=>
 A.rd (Ye zq2 [(0,1)] [.int .i8 6] d) λd2=>A.ws (Xb 4) e d2 d λ_ d=>A.opt (cellV true 4 e d) λr62=>f r62 d) (A.k 201 [x0,(.str [112,111,119,101,114])] d λd3 d=>
 A.test d3 (A.k 203 [x0,(.str [40])] d λg8 d=>A.k 203 [x0,(.str [116,97,114,103,101,116])] d λg9 d=>A.k 203 [x0,(.str [41])] d λi0 d=>A.rd (Ye zq2 [(0,1)] [.int .i8 7] d) λd4=>
 A.ws (Xb 4) e d4 d λ_ d=>A.opt (cellV true 4 e d) λr68=>f r68 d) (A.k 151 [x0,(.str [109,105,110])] d λj d=>A.fr j Qh x0 d λd5=>A.gw j false (λk=>A.k 151 [d5,(.str [109,97,120])] d k) d λd6 d=>
 A.c j (.bool true) d6 d λd7=>A.test d7 (A.k 151 [x0,(.str [109,97,120])] d λd8 d=>joinK (λn=>A.test d8 (n [.int .i8 12] d) (n [.int .i8 11] d)) (λd9 d=>
 A.r Qa x0 d λe0=>A.r (Ya 1) e0 d λe1=>A.a e1 d λe2=>A.b .add e2 (jv 1) d λe3=>A.r Qa x0 d λe4=>A.r (Ya 1) e4 d λe5=>
 A.ws (Xb 1) e5 e3 d λ_ d=>A.k 151 [x0,(.str [40])] d λe6 d=>A.r (Qo .not) e6 d λe7=>joinK (λo=>A.test e7 (A.k 152 [x0,jv 120] d λi1 d=>
 o [] d) (o [] d)) (λi2 d=>A.k 247 [x0] d λi3 d=>A.k 203 [x0,(.str [40])] d λi4 d=>A.k 246 [x0] d λe8 d=>A.wr (Xe zq2 [] d) d λp d=>A.ws (Xb 4) p e8 d λ_ d=>
 A.k 203 [x0,(.str [44])] d λi5 d=>A.k 246 [x0] d λe9 d=>A.wr (Xe zq2 [] d) d λq d=>A.ws (Xb 4) q e9 d λ_ d=>A.k 203 [x0,(.str [41])] d λi6 d=>
 A.k 249 [x0] d λi7 d=>A.r (Xc true 4) p d λf0=>A.r (Xc true 4) q d λf1=>A.k 261 [(h0 d9),f0,f1] d λf2 d=>A.ws (Xb 4) e f2 d λ_ d=>
 A.opt (cellV true 4 e d) λr99=>f r99 d))) (A.k 151 [x0,(.str [40])] d λf3 d=>A.test f3 (A.k 247 [x0] d λi9 d=>A.k 203 [x0,(.str [40])] d λj0 d=>
 A.k 246 [x0] d λf4 d=>A.wr (Xe zq2 [] d) d λt d=>A.ws (Xb 4) t f4 d λ_ d=>A.k 203 [x0,(.str [41])] d λj1 d=>A.k 249 [x0] d λj2 d=>
 A.r (Xc true 4) t d λf5=>A.ws (Xb 4) e f5 d λ_ d=>A.opt (cellV true 4 e d) λr108=>f r108 d) (A.k 152 [x0,jv 120] d λj3 d=>A.rd (Ye zq2 [] [] d) λf6=>
 A.ws (Xb 4) e f6 d λ_ d=>A.opt (cellV true 4 e d) λr111=>f r111 d))))))) [jv 1] d)
 |_=>A.stop
theorem g265_ok:GQ 265 1 g265:=gq1 [none,none,some [5],none,none,none,none,none,none,none,none,some [7],some [],none] λ_ _ _ _ _=>by kernel_rfl
def g266:GFun:=λA xs a d=>match xs with
 |[x0]=>
 A.wr (Xe [.int .i8 0,.int .i8 0,.str [],.nils,.nils] [] a) a λb a=>A.k 151 [x0,(.str [110,111,116])] a λm a=>A.test m (A.k 247 [x0] a λt2 a=>
 A.k 203 [x0,(.str [110,111,116])] a λt3 a=>A.k 266 [x0] a λn a=>A.wr (Xe [.int .i8 0,.int .i8 0,.str [],.nils,.nils] [] a) a λh a=>
 A.ws (Xb 5) h n a λ_ a=>A.k 249 [x0] a λt6 a=>A.r (Xc true 5) h a λo=>A.wr (Xi 5 1 [.int .i8 0,.int .i8 0,.str [],.nils,.nils] [(0,5)] [o] a) a λp a=>
 A.rd (Ye [.int .i8 0,.int .i8 0,.str [],.nils,.nils] [(0,1),(4,1)] [.int .i8 3,p] a) λq=>A.ws (Xb 5) b q a λ_ a=>A.opt (cellV true 5 b a) λr10=>
 d r10 a) (A.k 151 [x0,(.str [40])] a λf a=>A.tr f Qh x0 a λs=>A.gw f true (λk=>A.k 269 [s] a k) a λt a=>A.c f t (.bool false) a λu=>A.test u (
 A.k 247 [x0] a λb4 a=>A.k 203 [x0,(.str [40])] a λb5 a=>A.k 248 [x0] a λv a=>A.wr (Xe [.int .i8 0,.int .i8 0,.str [],.nils,.nils] [] a) a λi a=>
 A.ws (Xb 5) i v a λ_ a=>A.k 203 [x0,(.str [41])] a λb6 a=>A.k 249 [x0] a λb7 a=>A.r (Xc true 5) i a λw=>A.ws (Xb 5) b w a λ_ a=>
 A.opt (cellV true 5 b a) λr22=>d r22 a) (A.k 201 [x0,(.str [104,111,108,100,115])] a λy a=>A.test y (A.k 203 [x0,(.str [40])] a λb8 a=>A.k 245 [x0,.bool false] a λz a=>
 A.rd (Ye [.int .i8 0,.int .i8 0,.str [],.nils,.nils] [(0,1),(1,1)] [.int .i8 6,z] a) λa0=>A.wr (Xe [.int .i8 0,.int .i8 0,.str [],.nils,.nils] [] a) a λg a=>
 A.ws (Xb 5) g a0 a λ_ a=>A.k 203 [x0,(.str [44])] a λb9 a=>A.k 200 [x0] a λa1 a=>A.r (Ya 2) g a λa2=>A.ws (Xb 1) a2 a1 a λ_ a=>
 A.k 203 [x0,(.str [41])] a λc0 a=>A.r (Xc true 5) g a λa3=>A.ws (Xb 5) b a3 a λ_ a=>A.opt (cellV true 5 b a) λr33=>d r33 a) (A.k 246 [x0] a λa4 a=>
 A.wr (Xe zq2 [] a) a λj a=>A.ws (Xb 4) j a4 a λ_ a=>joinK (λe=>A.k 201 [x0,(.str [60])] a λa5 a=>A.test a5 (e [.int .i8 0] a) (A.k 201 [x0,(.str [60,61])] a λa6 a=>
 A.test a6 (e [.int .i8 1] a) (A.k 201 [x0,(.str [61,61])] a λa7 a=>A.test a7 (e [.int .i8 2] a) (A.k 152 [x0,jv 120] a λc1 a=>e [.int .i8 0] a)))) (λa8 a=>
 A.k 246 [x0] a λa9 a=>A.wr (Xe zq2 [] a) a λl a=>A.ws (Xb 4) l a9 a λ_ a=>A.r (Xc true 4) j a λb0=>A.r (Xc true 4) l a λb1=>
 A.wr (Xi 4 2 zq5 [(0,4),(4,4)] [b0,b1] a) a λb2 a=>A.rd (Ye [.int .i8 0,.int .i8 0,.str [],.nils,.nils] [(0,1),(3,1)] [(h0 a8),b2] a) λb3=>
 A.ws (Xb 5) b b3 a λ_ a=>A.opt (cellV true 5 b a) λr48=>d r48 a))))
 |_=>A.stop
theorem g266_ok:GQ 266 1 g266:=gq1 [none,none,none,none,some [7],none,none,none] λ_ _ _ _ _=>by kernel_rfl
def g269:GFun:=λA xs c g=>match xs with
 |[x0]=>
 A.r Qa x0 c λw=>A.r (Ya 1) w c λy=>A.a y c λz=>A.loop (λa0 d c=>A.r Qa x0 c λt5=>A.r (Ya 0) t5 c λt6=>
 A.a t6 c λt7=>A.r Qe t7 c λt8=>A.b .lss (h0 d) t8 c λt9=>A.test t9 (joinK (λj=>A.r Qa x0 c λa1=>A.r (Ya 0) a1 c λa2=>
 A.a a2 c λa3=>A.s (Yc 4) a3 (h0 d) c λa4=>A.r (Xc true 4) a4 c λa5=>A.wr (Xe [.int .i8 0,.str [],jv 0,jv 0] [] c) c λh c=>
 A.ws (Xb 4) h a5 c λ_ c=>A.r (Ya 0) h c λa6=>A.a a6 c λa7=>A.b .neq a7 (.int .i8 3) c λa8=>A.test a8 (j [(h1 d)] c) (A.r (Ya 1) h c λa9=>
 A.a a9 c λb0=>A.rd (Yi .eql false [b0,(.str [40])] c) λb1=>joinK (λl=>A.test b1 (A.b .add (h1 d) (jv 1) c λb2=>l [b2] c) (l [(h1 d)] c)) (λm c=>
 A.r (Ya 1) h c λb3=>A.a b3 c λb4=>A.rd (Yi .eql false [b4,(.str [41])] c) λb5=>joinK (λn=>A.test b5 (A.b .sub (h0 m) (jv 1) c λb6=>
 n [b6] c) (n [(h0 m)] c)) (λo c=>A.b .eql (h0 o) (jv 0) c λb7=>A.test b7 (A.r Qa x0 c λb8=>A.r (Ya 0) b8 c λb9=>A.a b9 c λc0=>
 A.b .add (h0 d) (jv 1) c λc1=>A.s (Yc 4) c0 c1 c λc2=>A.r (Xc true 4) c2 c λc3=>A.wr (Xe [.int .i8 0,.str [],jv 0,jv 0] [] c) c λi c=>
 A.ws (Xb 4) i c3 c λ_ c=>A.r (Ya 0) i c λc4=>A.a c4 c λc5=>A.b .neq c5 (.int .i8 3) c λc6=>A.test c6 (g (.bool true) c) (A.r (Ya 1) i c λc7=>
 A.a c7 c λe=>A.rd (Yi .eql false [e,(.str [60])] c) λp=>joinK (λf=>A.test p (f [p] c) (A.rd (Yi .eql false [e,(.str [60,61])] c) λq=>A.test q (
 f [q] c) (A.rd (Yi .eql false [e,(.str [61,61])] c) λt=>A.test t (f [t] c) (A.rd (Yi .eql false [e,(.str [43])] c) λu=>A.test u (f [u] c) (A.rd (Yi .eql false [e,(.str [45])] c) λv=>
 A.test v (f [v] c) (A.rd (Yi .eql false [e,(.str [42])] c) λc8=>f [c8] c)))))) (λc9 c=>A.test (h0 c9) (g (.bool false) c) (g (.bool true) c)))) (j [(h0 o)] c))))) (λd0 c=>
 A.b .add (h0 d) (jv 1) c λd1=>a0 [d1,(h0 d0)] c)) (g (.bool true) c)) [z,jv 0] c
 |_=>A.stop
theorem g269_ok:GQ 269 1 g269:=gq1 [none,some [4,3],none,some [3],none,some [3],some [3],none,none,none,some [55],none,none,none,none,none] λ_ _ _ _ _=>by kernel_rfl
def g289:GFun:=λA xs c e=>match xs with
 |[x0,x1]=>
 A.w1 Xk x0 c λd c=>A.r (Ya 0) d c λf=>A.a f c λg=>A.r Qa g c λh=>A.r (Ya 0) h c λi=>A.a i c λj=>A.b .lss j (.int .i8 8) c λl=>
 A.test l (A.dcall (.call 291) [x1] c λm n c=>A.pu (Ya 0 [d] c) λo=>A.dr (Qg [o] c) c λp q c=>A.pu (Qa [p] c) λt=>A.pu (Ya 0 [t] c) λu=>
 A.dr (Qg [u] c) c λv w c=>A.pu (YX false 8 1 [m,v] c) λy=>A.pu (Ya 0 [d] c) λz=>A.dr (Qg [z] c) c λa0 a1 c=>A.dcall .callv [y,a0] c λa2 a3 c=>
 A.dcall (.call 290) [a2] c λa4 a5 c=>A.pu (Yn 3 [a4] c) λa6=>A.gd (Zi [[],[0],[],[2],[2,3],[2,3,4],[2,3,4,5],[0,1,2,3,4,5,6],[],[8],[0,1,2,3,4,5,6,7,8,9],[0,1,2,3,4,5,6,7,8,9,10],[0,1,2,3,4,5,6,7,8,9,10,11],[0,1,2,3,4,5,6,7,8,9,10,11,12]] [([],[]),n,([],[]),q,([],[]),([],[]),w,([],[]),([],[]),a1,a3,a5,([],[]),([],[])]) <|
 e a6 c) (A.r (Ya 0) d c λa7=>A.a a7 c λa8=>A.r Qa a8 c λa9=>A.r (Ya 3) a9 c λb0=>A.a b0 c λb1=>A.s (Yc 4) b1 (jv 0) c λb2=>
 A.rd (Ye [.nilp] [(0,1)] [b2] c) λb3=>A.k 289 [b3,x1] c λb4 c=>A.r (ZB 3 false (jv 0)) b4 c λb5=>A.r (Ya 0) d c λb6=>A.a b6 c λb7=>
 A.r Qa b7 c λb8=>A.r (Ya 3) b8 c λb9=>A.a b9 c λc0=>A.s (Yc 4) c0 (jv 1) c λc1=>A.rd (Ye [.nilp] [(0,1)] [c1] c) λc2=>
 A.k 289 [c2,x1] c λc3 c=>A.r (ZB 3 false (jv 0)) c3 c λc4=>A.dcall (.call 292) [] c λc5 c6 c=>A.pu (Ya 0 [d] c) λc7=>A.dr (Qg [c7] c) c λc8 c9 c=>
 A.pu (Qa [c8] c) λd0=>A.pu (Ya 0 [d0] c) λd1=>A.dr (Qg [d1] c) c λd2 d3 c=>A.pu (Yi .sub false [d2,.int .i8 8] c) λd4=>
 A.pu (YX false 5 1 [c5,d4] c) λd5=>A.dcall .callv [d5,b5,c4] c λd6 d7 c=>A.dcall (.call 290) [d6] c λd8 d9 c=>A.pu (Yn 3 [d8] c) λe0=>
 A.gd (Zi [[],[],[1],[1,2],[1,2,3],[1,2,3,4],[1,2,3,4,5],[0,1,2,3,4,5,6],[],[],[0,1,2,3,4,5,6,7,8,9],[0,1,2,3,4,5,6,7,8,9,10],[0,1,2,3,4,5,6,7,8,9,10,11],[0,1,2,3,4,5,6,7,8,9,10,11,12]] [c6,([],[]),c9,([],[]),([],[]),d3,([],[]),([],[]),([],[]),([],[]),d7,d9,([],[]),([],[])]) <|
 e e0 c)
 |_=>A.stop
theorem g289_ok:GQ 289 2 g289:=gq2 [none] λ_ _ _ _ _ _=>by kernel_rfl
def g290:GFun:=λA xs a b=>match xs with
 |[x0]=>
 A.s Yaq x0 (jv (-1000000)) a λc=>A.s XR c (jv 1000000) a λd=>b d a
 |_=>A.stop
theorem g290_ok:GQ 290 1 g290:=gq1 [] λ_ _ _ _ _=>by kernel_rfl
def g291:GFun:=λA xs a d=>match xs with
 |[x0]=>
 A.w1 Xk x0 a λb a=>A.wr (Xe [.nilf,.nilf,.nilf,.nilf,.nilf,.nilf,.nilf,.nilf] [] a) a λc a=>A.r (Qn (.func 294) 0) b a λe=>A.r (Qn (.func 296) 0) b a λf=>
 A.r (Qn (.func 297) 0) b a λg=>A.r (Qn (.func 298) 0) b a λh=>A.r (Qn (.func 299) 0) b a λi=>A.r (Qn (.func 300) 0) b a λj=>
 A.r (Qn (.func 301) 0) b a λl=>A.rd (Ye [.nilf,.nilf,.nilf,.nilf,.nilf,.nilf,.nilf,.nilf] [(0,1),(1,1),(2,1),(3,1),(4,1),(5,1),(6,1),(7,1)] [(.func (.func 293) [] []),e,f,g,h,i,j,l] a) λm=>
 A.ws (Xb 8) c m a λ_ a=>A.opt (cellV true 8 c a) λr10=>d r10 a
 |_=>A.stop
theorem g291_ok:GQ 291 1 g291:=gq1 [] λ_ _ _ _ _=>by kernel_rfl
def g292:GFun:=λA xs a c=>match xs with
 |[]=>
 A.wr (Xe [.nilf,.nilf,.nilf,.nilf,.nilf] [] a) a λb a=>A.rd (Ye [.nilf,.nilf,.nilf,.nilf,.nilf] [(0,1),(1,1),(2,1),(3,1),(4,1)] [(.func (.func 302) [] []),(.func (.func 303) [] []),(.func (.func 304) [] []),(.func (.func 305) [] []),(.func (.func 306) [] [])] a) λd=>
 A.ws (Xb 5) b d a λ_ a=>A.opt (cellV true 5 b a) λr2=>c r2 a
 |_=>A.stop
theorem g292_ok:GQ 292 0 g292:=gq0 [] λ_ _ _ _=>by kernel_rfl
def g293:GFun:=λA xs b c=>match xs with
 |[x0]=>
 A.r Qa x0 b λd=>A.r (Ya 1) d b λe=>A.a e b λf=>c f b
 |_=>A.stop
theorem g293_ok:GQ 293 1 g293:=gq1 [] λ_ _ _ _ _=>by kernel_rfl
def g294:GFun:=λA xs a b=>match xs with
 |[x0,x1]=>
 A.dr (Qg [x1] a) a λc d a=>A.pu (Qa [x0] a) λe=>A.pu (Ya 2 [e] a) λf=>A.dr (Qg [f] a) a λg h a=>A.dcall (.call 295) [c,g] a λi j a=>
 A.pu (Qa [i] a) λl=>A.pu (Ya 0 [l] a) λm=>A.dr (Qg [m] a) a λn o a=>A.gd (Zi [[],[],[1],[1,2],[1,2,3],[0,1,2,3,4],[0,1,2,3,4,5],[0,1,2,3,4,5,6],[0,1,2,3,4,5,6,7],[0,1,2,3,4,5,6,7,8]] [d,([],[]),([],[]),([],[]),h,j,([],[]),([],[]),o,([],[])]) <|
 b n a
 |_=>A.stop
theorem g294_ok:GQ 294 2 g294:=gq2 [] λ_ _ _ _ _ _=>by kernel_rfl
def g295:GFun:=λA xs c d=>match xs with
 |[x0,x1]=>
 A.b .eql x1 (.int .i8 1) c λe=>A.test e (A.r Qa x0 c λf=>A.r (Ya 1) f c λg=>A.a g c λh=>A.r Qa x0 c λi=>A.r (Ya 2) i c λj=>
 A.r (Ya 0) j c λl=>A.a l c λm=>A.b .sub (jv 1) m c λn=>A.r Qa h c λo=>A.r (Ya 7) o c λp=>A.s (Zg 2 8) p n c λq=>
 d q c) (A.r Qa x0 c λt=>A.r (Ya 1) t c λu=>A.a u c λv=>A.r Qa x0 c λw=>A.r (Ya 2) w c λy=>A.r (Ya 0) y c λz=>
 A.a z c λa0=>A.r Qa v c λa1=>A.r (Ya 7) a1 c λa2=>A.s (Zg 2 8) a2 a0 c λa3=>d a3 c)
 |_=>A.stop
theorem g295_ok:GQ 295 2 g295:=gq2 [none] λ_ _ _ _ _ _=>by kernel_rfl
def g296:GFun:=λA xs a b=>match xs with
 |[x0,x1]=>
 A.dr (Qg [x1] a) a λc d a=>A.pu (Qa [x0] a) λe=>A.pu (Ya 2 [e] a) λf=>A.dr (Qg [f] a) a λg h a=>A.dcall (.call 295) [c,g] a λi j a=>
 A.pu (Qa [i] a) λl=>A.pu (Ya 4 [l] a) λm=>A.dr (Qg [m] a) a λn o a=>A.pu (Qe [n] a) λp=>A.gd (Zi [[],[],[1],[1,2],[1,2,3],[0,1,2,3,4],[0,1,2,3,4,5],[0,1,2,3,4,5,6],[0,1,2,3,4,5,6,7],[0,1,2,3,4,5,6,7,8],[0,1,2,3,4,5,6,7,8,9]] [d,([],[]),([],[]),([],[]),h,j,([],[]),([],[]),o,([],[]),([],[])]) <|
 b p a
 |_=>A.stop
theorem g296_ok:GQ 296 2 g296:=gq2 [] λ_ _ _ _ _ _=>by kernel_rfl
def g297:GFun:=λA xs a b=>match xs with
 |[x0,x1]=>
 A.dr (Qg [x1] a) a λc d a=>A.pu (Qa [x0] a) λe=>A.pu (Ya 2 [e] a) λf=>A.dr (Qg [f] a) a λg h a=>A.dcall (.call 295) [c,g] a λi j a=>
 A.pu (Qa [i] a) λl=>A.pu (Ya 3 [l] a) λm=>A.dr (Qg [m] a) a λn o a=>A.pu (Qe [n] a) λp=>A.gd (Zi [[],[],[1],[1,2],[1,2,3],[0,1,2,3,4],[0,1,2,3,4,5],[0,1,2,3,4,5,6],[0,1,2,3,4,5,6,7],[0,1,2,3,4,5,6,7,8],[0,1,2,3,4,5,6,7,8,9]] [d,([],[]),([],[]),([],[]),h,j,([],[]),([],[]),o,([],[]),([],[])]) <|
 b p a
 |_=>A.stop
theorem g297_ok:GQ 297 2 g297:=gq2 [] λ_ _ _ _ _ _=>by kernel_rfl
def g298:GFun:=λA xs a b=>match xs with
 |[x0,x1]=>
 A.dr (Qg [x1] a) a λc d a=>A.pu (Qa [x0] a) λe=>A.pu (Ya 2 [e] a) λf=>A.dr (Qg [f] a) a λg h a=>A.dcall (.call 295) [c,g] a λi j a=>
 A.pu (Qa [i] a) λl=>A.pu (Ya 6 [l] a) λm=>A.dr (Qg [m] a) a λn o a=>A.pu (Qe [n] a) λp=>A.gd (Zi [[],[],[1],[1,2],[1,2,3],[0,1,2,3,4],[0,1,2,3,4,5],[0,1,2,3,4,5,6],[0,1,2,3,4,5,6,7],[0,1,2,3,4,5,6,7,8],[0,1,2,3,4,5,6,7,8,9]] [d,([],[]),([],[]),([],[]),h,j,([],[]),([],[]),o,([],[]),([],[])]) <|
 b p a
 |_=>A.stop
theorem g298_ok:GQ 298 2 g298:=gq2 [] λ_ _ _ _ _ _=>by kernel_rfl
def g299:GFun:=λA xs b c=>match xs with
 |[x0,x1]=>
 A.a x1 b λd=>A.k 295 [d,.int .i8 0] b λe b=>A.r Qa e b λf=>A.r (Ya 1) f b λg=>A.a g b λh=>c h b
 |_=>A.stop
theorem g299_ok:GQ 299 2 g299:=gq2 [] λ_ _ _ _ _ _=>by kernel_rfl
def g300:GFun:=λA xs c d=>match xs with
 |[x0,x1]=>
 A.a x1 c λf=>A.k 295 [f,.int .i8 0] c λg c=>A.r Qa g c λh=>A.r (Ya 3) h c λi=>A.a i c λe=>A.r Qe e c λj=>A.b .gtr j (jv 0) c λl=>
 A.test l (A.a x1 c λm=>A.r Qa m c λn=>A.r (Ya 0) n c λo=>A.a o c λp=>A.r Qa p c λq=>A.r (Ya 0) q c λt=>
 A.a t c λu=>A.s (Yc 1) e (jv 0) c λv=>A.a v c λw=>A.s (Yc 12) u w c λy=>A.r (Ya 2) y c λz=>A.a z c λa0=>d a0 c) (
 d (jv 0) c)
 |_=>A.stop
theorem g300_ok:GQ 300 2 g300:=gq2 [none] λ_ _ _ _ _ _=>by kernel_rfl
def g301:GFun:=λA xs a c=>match xs with
 |[x0,x1]=>
 A.dr (Qg [x1] a) a λd e a=>A.pu (Qa [d] a) λf=>A.pu (Ya 0 [f] a) λg=>A.dr (Qg [g] a) a λh i a=>A.pu (Qa [h] a) λj=>
 A.dr (Xc true 2 [j] a) a λl m a=>A.dr (Qg [x1] a) a λn o a=>A.pu (Qa [n] a) λp=>A.pu (Ya 1 [p] a) λq=>A.dr (Qg [q] a) a λr s a=>
 A.pu (Qa [r] a) λt=>A.dr (Xc true 23 [t] a) a λu v a=>A.dr (Qg [x1] a) a λw y a=>A.pu (Qa [w] a) λz=>A.pu (Ya 2 [z] a) λa0=>
 A.pu (Ya 1 [a0] a) λa1=>A.dr (Qg [a1] a) a λa2 a3 a=>A.dcall (.call 54) [l,u,a2] a λb a4 a=>A.pu (Qd 0 [b] a) λa5=>A.pu (Qd 1 [b] a) λa6=>
 A.pu (Qd 2 [b] a) λa7=>A.gd (Zi [[],[0],[0,1],[0,1,2],[0,1,2,3],[0,1,2,3,4],[],[6],[6,7],[6,7,8],[6,7,8,9],[6,7,8,9,10],[],[12],[12,13],[12,13,14],[12,13,14,15],[0,1,2,3,4,5,6,7,8,9,10,11,12,13,14,15,16],[0,1,2,3,4,5,6,7,8,9,10,11,12,13,14,15,16,17],[0,1,2,3,4,5,6,7,8,9,10,11,12,13,14,15,16,17,18],[0,1,2,3,4,5,6,7,8,9,10,11,12,13,14,15,16,17,18],[0,1,2,3,4,5,6,7,8,9,10,11,12,13,14,15,16,17,18],[0,1,2,3,4,5,6,7,8,9,10,11,12,13,14,15,16,17,18,19],[0,1,2,3,4,5,6,7,8,9,10,11,12,13,14,15,16,17,18,19,20,22],[0,1,2,3,4,5,6,7,8,9,10,11,12,13,14,15,16,17,18,19,20,21,22,23]] [e,([],[]),([],[]),i,([],[]),m,o,([],[]),([],[]),s,([],[]),v,y,([],[]),([],[]),([],[]),a3,a4,([],[]),([],[]),([],[]),([],[]),([],[]),([],[]),([],[])]) <|
 c a5 a
 |_=>A.stop
theorem g301_ok:GQ 301 2 g301:=gq2 [] λ_ _ _ _ _ _=>by kernel_rfl
def g302:GFun:=λA xs a c=>match xs with
 |[x0,x1]=>
 A.b .add x0 x1 a λd=>c d a
 |_=>A.stop
theorem g302_ok:GQ 302 2 g302:=gq2 [] λ_ _ _ _ _ _=>by kernel_rfl
def g303:GFun:=λA xs a c=>match xs with
 |[x0,x1]=>
 A.b .sub x0 x1 a λd=>c d a
 |_=>A.stop
theorem g303_ok:GQ 303 2 g303:=gq2 [] λ_ _ _ _ _ _=>by kernel_rfl
def g304:GFun:=λA xs a c=>match xs with
 |[x0,x1]=>
 A.b .mul x0 x1 a λd=>c d a
 |_=>A.stop
theorem g304_ok:GQ 304 2 g304:=gq2 [] λ_ _ _ _ _ _=>by kernel_rfl
def g305:GFun:=λA xs a b=>match xs with
 |[x0,x1]=>
 A.s XR x0 x1 a λc=>b c a
 |_=>A.stop
theorem g305_ok:GQ 305 2 g305:=gq2 [] λ_ _ _ _ _ _=>by kernel_rfl
def g306:GFun:=λA xs a b=>match xs with
 |[x0,x1]=>
 A.s Yaq x0 x1 a λc=>b c a
 |_=>A.stop
theorem g306_ok:GQ 306 2 g306:=gq2 [] λ_ _ _ _ _ _=>by kernel_rfl
def g307:GFun:=λA xs d e=>match xs with
 |[x0,x1]=>
 A.w1 Xk x0 d λf d=>A.wr (Xe [jv 0,jv 0] [] d) d λg d=>A.wr (Xe [.bool false,.bool false] [] d) d λh d=>A.r (Ya 0) f d λq=>
 A.a q d λt=>A.r Qa t d λu=>A.r (Ya 3) u d λv=>A.a v d λw=>A.r Qe w d λy=>A.loop (λz j d=>A.b .lss (h0 j) y d λa0=>
 A.test a0 (A.r (Ya 0) f d λa1=>A.a a1 d λa2=>A.r Qa a2 d λa3=>A.r (Ya 3) a3 d λa4=>A.a a4 d λa5=>A.s (Yc 4) a5 (h0 j) d λa6=>
 A.rd (Ye [.nilp] [(0,1)] [a6] d) λa7=>A.k 289 [a7,x1] d λa8 d=>A.r (ZB 3 false (jv 0)) a8 d λa9=>A.s (Zg 2 1) g (h0 j) d λb0=>
 A.ws (Xb 1) b0 a9 d λ_ d=>A.b .add (h0 j) (jv 1) d λb1=>z [b1] d) (A.r (Ya 0) f d λb2=>A.a b2 d λb3=>A.r Qa b3 d λb4=>
 A.r (Ya 4) b4 d λb5=>A.a b5 d λb6=>A.r Qe b6 d λb7=>A.loop (λb8 l d=>A.b .lss (h0 l) b7 d λb9=>A.test b9 (A.r (Ya 0) f d λc0=>
 A.a c0 d λc1=>A.r Qa c1 d λc2=>A.r (Ya 4) c2 d λc3=>A.a c3 d λc4=>A.s (Yc 5) c4 (h0 l) d λc5=>A.rd (Ye [.nilp] [(0,1)] [c5] d) λc6=>
 A.k 307 [c6,x1] d λc7 d=>A.r (ZB 4 false (.bool false)) c7 d λc8=>A.s (Zg 2 1) h (h0 l) d λc9=>A.ws (Xb 1) c9 c8 d λ_ d=>A.b .add (h0 l) (jv 1) d λd0=>
 b8 [d0] d) (A.r (Ya 0) f d λd1=>A.a d1 d λd2=>A.r Qa d2 d λd3=>A.r (Ya 0) d3 d λd4=>A.a d4 d λi=>A.b .eql i (.int .i8 0) d λd5=>
 A.test d5 (A.s (Zg 2 1) g (jv 0) d λd6=>A.a d6 d λd7=>A.s (Zg 2 1) g (jv 1) d λd8=>A.a d8 d λd9=>A.b .lss d7 d9 d λe0=>A.r (Yn 4) e0 d λe1=>
 e e1 d) (A.b .eql i (.int .i8 1) d λe2=>A.test e2 (A.s (Zg 2 1) g (jv 0) d λe3=>A.a e3 d λe4=>A.s (Zg 2 1) g (jv 1) d λe5=>A.a e5 d λe6=>
 A.b .leq e4 e6 d λe7=>A.r (Yn 4) e7 d λe8=>e e8 d) (A.b .eql i (.int .i8 2) d λe9=>A.test e9 (A.s (Zg 2 1) g (jv 0) d λf0=>A.a f0 d λf1=>
 A.s (Zg 2 1) g (jv 1) d λf2=>A.a f2 d λf3=>A.b .eql f1 f3 d λf4=>A.r (Yn 4) f4 d λf5=>e f5 d) (A.b .eql i (.int .i8 3) d λf6=>
 A.test f6 (A.s (Zg 2 1) h (jv 0) d λf7=>A.a f7 d λf8=>A.r (Qo .not) f8 d λf9=>A.r (Yn 4) f9 d λg0=>e g0 d) (A.b .eql i (.int .i8 4) d λg1=>
 A.test g1 (A.s (Zg 2 1) h (jv 0) d λg2=>A.a g2 d λm=>A.ts m (Zg 2 1) h (jv 1) d λg3=>A.ta m g3 d λg4=>A.c m g4 (.bool false) d λg5=>
 A.r (Yn 4) g5 d λg6=>e g6 d) (A.b .eql i (.int .i8 5) d λg7=>A.test g7 (A.s (Zg 2 1) h (jv 0) d λg8=>A.a g8 d λn=>A.fs n (Zg 2 1) h (jv 1) d λg9=>
 A.fa n g9 d λi0=>A.c n (.bool true) i0 d λi1=>A.r (Yn 4) i1 d λi2=>e i2 d) (A.r (Ya 0) f d λi3=>A.a i3 d λi4=>A.r Qa i4 d λi5=>
 A.r (Ya 1) i5 d λi6=>A.a i6 d λi7=>A.k 295 [x1,i7] d λi9 d=>A.r Qa i9 d λj0=>A.r (Ya 4) j0 d λj1=>A.a j1 d λp=>
 A.r Qe p d λj2=>A.loop (λj3 o d=>A.b .lss (h0 o) j2 d λj4=>A.test j4 (A.s (Yc 1) p (h0 o) d λj5=>A.a j5 d λj6=>A.r Qa x1 d λj7=>
 A.r (Ya 0) j7 d λj8=>A.a j8 d λj9=>A.r Qa j9 d λl0=>A.r (Ya 0) l0 d λl1=>A.a l1 d λl2=>A.s (Yc 12) l2 j6 d λl3=>
 A.r (Ya 0) l3 d λl4=>A.a l4 d λl5=>A.r (Ya 0) f d λl6=>A.a l6 d λl7=>A.r Qa l7 d λl8=>A.r (Ya 2) l8 d λl9=>
 A.a l9 d λm0=>A.b .eql l5 m0 d λm1=>A.test m1 (A.r (Yn 4) (.bool true) d λm2=>e m2 d) (A.b .add (h0 o) (jv 1) d λm3=>j3 [m3] d)) (A.r (Yn 4) (.bool false) d λm4=>
 e m4 d)) [jv 0] d)))))))) [jv 0] d)) [jv 0] d
 |_=>A.stop
theorem g307_ok:GQ 307 2 g307:=gq2 [none,some [17],none,none,none,some [40],none,none,none,none,none,none,none,none,none,none,some [121],none,none,none] λ_ _ _ _ _ _=>by kernel_rfl
def tb:GT:=(.node 192 1 g192 (.node 121 1 g121 (.node 72 3 g72 (.node 57 1 g57 (.node 53 0 g53 (.node 22 5 g22 (.node 18 3 g18 (.node 17 0 g17 .leaf .leaf) .leaf) (.node 27 3 g27 .leaf .leaf)) (.node 55 2 g55 (.node 54 3 g54 .leaf .leaf) (.node 56 2 g56 .leaf .leaf))) (.node 65 1 g65 (.node 59 1 g59 (.node 58 2 g58 .leaf .leaf) (.node 64 7 g64 .leaf .leaf)) (.node 67 1 g67 (.node 66 4 g66 .leaf .leaf) (.node 71 2 g71 .leaf .leaf)))) (.node 111 3 g111 (.node 77 2 g77 (.node 75 3 g75 (.node 74 2 g74 (.node 73 2 g73 .leaf .leaf) .leaf) (.node 76 1 g76 .leaf .leaf)) (.node 96 1 g96 (.node 78 1 g78 .leaf .leaf) (.node 110 1 g110 .leaf .leaf))) (.node 115 2 g115 (.node 113 1 g113 (.node 112 1 g112 .leaf .leaf) (.node 114 1 g114 .leaf .leaf)) (.node 119 2 g119 (.node 118 2 g118 .leaf .leaf) (.node 120 2 g120 .leaf .leaf))))) (.node 155 2 g155 (.node 147 1 g147 (.node 143 1 g143 (.node 130 1 g130 (.node 124 1 g124 (.node 122 1 g122 .leaf .leaf) .leaf) (.node 142 1 g142 .leaf .leaf)) (.node 145 2 g145 (.node 144 4 g144 .leaf .leaf) (.node 146 2 g146 .leaf .leaf))) (.node 151 2 g151 (.node 149 1 g149 (.node 148 2 g148 .leaf .leaf) (.node 150 1 g150 .leaf .leaf)) (.node 153 2 g153 (.node 152 2 g152 .leaf .leaf) (.node 154 2 g154 .leaf .leaf)))) (.node 184 1 g184 (.node 180 1 g180 (.node 178 1 g178 (.node 157 3 g157 (.node 156 2 g156 .leaf .leaf) .leaf) (.node 179 1 g179 .leaf .leaf)) (.node 182 1 g182 (.node 181 1 g181 .leaf .leaf) (.node 183 1 g183 .leaf .leaf))) (.node 188 3 g188 (.node 186 2 g186 (.node 185 2 g185 .leaf .leaf) (.node 187 1 g187 .leaf .leaf)) (.node 190 2 g190 (.node 189 2 g189 .leaf .leaf) (.node 191 1 g191 .leaf .leaf)))))) (.node 235 2 g235 (.node 209 1 g209 (.node 201 2 g201 (.node 197 1 g197 (.node 195 2 g195 (.node 194 1 g194 (.node 193 2 g193 .leaf .leaf) .leaf) (.node 196 2 g196 .leaf .leaf)) (.node 199 0 g199 (.node 198 1 g198 .leaf .leaf) (.node 200 1 g200 .leaf .leaf))) (.node 205 1 g205 (.node 203 2 g203 (.node 202 1 g202 .leaf .leaf) (.node 204 3 g204 .leaf .leaf)) (.node 207 1 g207 (.node 206 1 g206 .leaf .leaf) (.node 208 2 g208 .leaf .leaf)))) (.node 225 1 g225 (.node 221 2 g221 (.node 212 1 g212 (.node 211 2 g211 (.node 210 1 g210 .leaf .leaf) .leaf) (.node 213 2 g213 .leaf .leaf)) (.node 223 1 g223 (.node 222 2 g222 .leaf .leaf) (.node 224 2 g224 .leaf .leaf))) (.node 229 0 g229 (.node 227 1 g227 (.node 226 2 g226 .leaf .leaf) (.node 228 3 g228 .leaf .leaf)) (.node 231 1 g231 (.node 230 1 g230 .leaf .leaf) (.node 232 1 g232 .leaf .leaf))))) (.node 252 1 g252 (.node 244 2 g244 (.node 240 3 g240 (.node 238 2 g238 (.node 237 2 g237 (.node 236 2 g236 .leaf .leaf) .leaf) (.node 239 2 g239 .leaf .leaf)) (.node 242 1 g242 (.node 241 1 g241 .leaf .leaf) (.node 243 2 g243 .leaf .leaf))) (.node 248 1 g248 (.node 246 1 g246 (.node 245 2 g245 .leaf .leaf) (.node 247 1 g247 .leaf .leaf)) (.node 250 2 g250 (.node 249 1 g249 .leaf .leaf) (.node 251 1 g251 .leaf .leaf)))) (.node 260 1 g260 (.node 256 1 g256 (.node 254 1 g254 (.node 253 2 g253 .leaf .leaf) (.node 255 2 g255 .leaf .leaf)) (.node 258 0 g258 (.node 257 1 g257 .leaf .leaf) (.node 259 2 g259 .leaf .leaf))) (.node 264 1 g264 (.node 262 1 g262 (.node 261 3 g261 .leaf .leaf) (.node 263 0 g263 .leaf .leaf)) (.node 266 1 g266 (.node 265 1 g265 .leaf .leaf) (.node 269 1 g269 .leaf .leaf)))))))
theorem tb_ok:tb.Ok prog GL0:=⟨g192_ok,⟨g121_ok,⟨g72_ok,⟨g57_ok,⟨g53_ok,⟨g22_ok,⟨g18_ok,⟨g17_ok,trivial,trivial⟩,trivial⟩,⟨g27_ok,trivial,trivial⟩⟩,⟨g55_ok,⟨g54_ok,trivial,trivial⟩,⟨g56_ok,trivial,trivial⟩⟩⟩,⟨g65_ok,⟨g59_ok,⟨g58_ok,trivial,trivial⟩,⟨g64_ok,trivial,trivial⟩⟩,⟨g67_ok,⟨g66_ok,trivial,trivial⟩,⟨g71_ok,trivial,trivial⟩⟩⟩⟩,⟨g111_ok,⟨g77_ok,⟨g75_ok,⟨g74_ok,⟨g73_ok,trivial,trivial⟩,trivial⟩,⟨g76_ok,trivial,trivial⟩⟩,⟨g96_ok,⟨g78_ok,trivial,trivial⟩,⟨g110_ok,trivial,trivial⟩⟩⟩,⟨g115_ok,⟨g113_ok,⟨g112_ok,trivial,trivial⟩,⟨g114_ok,trivial,trivial⟩⟩,⟨g119_ok,⟨g118_ok,trivial,trivial⟩,⟨g120_ok,trivial,trivial⟩⟩⟩⟩⟩,⟨g155_ok,⟨g147_ok,⟨g143_ok,⟨g130_ok,⟨g124_ok,⟨g122_ok,trivial,trivial⟩,trivial⟩,⟨g142_ok,trivial,trivial⟩⟩,⟨g145_ok,⟨g144_ok,trivial,trivial⟩,⟨g146_ok,trivial,trivial⟩⟩⟩,⟨g151_ok,⟨g149_ok,⟨g148_ok,trivial,trivial⟩,⟨g150_ok,trivial,trivial⟩⟩,⟨g153_ok,⟨g152_ok,trivial,trivial⟩,⟨g154_ok,trivial,trivial⟩⟩⟩⟩,⟨g184_ok,⟨g180_ok,⟨g178_ok,⟨g157_ok,⟨g156_ok,trivial,trivial⟩,trivial⟩,⟨g179_ok,trivial,trivial⟩⟩,⟨g182_ok,⟨g181_ok,trivial,trivial⟩,⟨g183_ok,trivial,trivial⟩⟩⟩,⟨g188_ok,⟨g186_ok,⟨g185_ok,trivial,trivial⟩,⟨g187_ok,trivial,trivial⟩⟩,⟨g190_ok,⟨g189_ok,trivial,trivial⟩,⟨g191_ok,trivial,trivial⟩⟩⟩⟩⟩⟩,⟨g235_ok,⟨g209_ok,⟨g201_ok,⟨g197_ok,⟨g195_ok,⟨g194_ok,⟨g193_ok,trivial,trivial⟩,trivial⟩,⟨g196_ok,trivial,trivial⟩⟩,⟨g199_ok,⟨g198_ok,trivial,trivial⟩,⟨g200_ok,trivial,trivial⟩⟩⟩,⟨g205_ok,⟨g203_ok,⟨g202_ok,trivial,trivial⟩,⟨g204_ok,trivial,trivial⟩⟩,⟨g207_ok,⟨g206_ok,trivial,trivial⟩,⟨g208_ok,trivial,trivial⟩⟩⟩⟩,⟨g225_ok,⟨g221_ok,⟨g212_ok,⟨g211_ok,⟨g210_ok,trivial,trivial⟩,trivial⟩,⟨g213_ok,trivial,trivial⟩⟩,⟨g223_ok,⟨g222_ok,trivial,trivial⟩,⟨g224_ok,trivial,trivial⟩⟩⟩,⟨g229_ok,⟨g227_ok,⟨g226_ok,trivial,trivial⟩,⟨g228_ok,trivial,trivial⟩⟩,⟨g231_ok,⟨g230_ok,trivial,trivial⟩,⟨g232_ok,trivial,trivial⟩⟩⟩⟩⟩,⟨g252_ok,⟨g244_ok,⟨g240_ok,⟨g238_ok,⟨g237_ok,⟨g236_ok,trivial,trivial⟩,trivial⟩,⟨g239_ok,trivial,trivial⟩⟩,⟨g242_ok,⟨g241_ok,trivial,trivial⟩,⟨g243_ok,trivial,trivial⟩⟩⟩,⟨g248_ok,⟨g246_ok,⟨g245_ok,trivial,trivial⟩,⟨g247_ok,trivial,trivial⟩⟩,⟨g250_ok,⟨g249_ok,trivial,trivial⟩,⟨g251_ok,trivial,trivial⟩⟩⟩⟩,⟨g260_ok,⟨g256_ok,⟨g254_ok,⟨g253_ok,trivial,trivial⟩,⟨g255_ok,trivial,trivial⟩⟩,⟨g258_ok,⟨g257_ok,trivial,trivial⟩,⟨g259_ok,trivial,trivial⟩⟩⟩,⟨g264_ok,⟨g262_ok,⟨g261_ok,trivial,trivial⟩,⟨g263_ok,trivial,trivial⟩⟩,⟨g266_ok,⟨g265_ok,trivial,trivial⟩,⟨g269_ok,trivial,trivial⟩⟩⟩⟩⟩⟩⟩
end Go.Ah.Tz
end
section
namespace Go.Ah.Tz
open Go.Proofs.Tryz (prog)
set_option maxRecDepth 1000000
theorem hTm:∀f np g,tb.get f=some (np,g)→GQ f np g:=GT.get_ok tb_ok
def ownTx:Tx:=[99,97,114,100,32,117,110,105,116,32,99,104,97,114,109,32,102,111,114,109,97,116,32,112,108,97,121,101,100,32,100,101,97,100,32,100,97,119,110,32,97,117,114,97,32,115,104,105,101,108,100,32,104,97,114,109,32,109,101,110,100,32,100,114,97,119,32,103,97,105,110,32,100,114,111,112,32,108,111,111,107,32,115,104,111,119,32,115,117,109,109,111,110,32,105,102,32,101,108,115,101,32,109,101,32,102,111,101,32,116,97,114,103,101,116,32,108,105,102,101,32,104,97,110,100,32,100,101,99,107,32,117,110,105,116,115,32,109,97,110,97,32,99,111,115,116,32,116,111,112,32,112,111,119,101,114,32,109,105,110,32,109,97,120,32,110,111,116,32,97,110,100,32,111,114,32,104,111,108,100,115,32,108,101,97,115,116,32,109,111,115,116,32,99,111,112,105,101,115,32,98,97,110,110,101,100,32,115,105,110,103,108,101]
theorem p264:PC 264 [.str ownTx] (.rsl true false 1 (keysR.map txC)):=XM hP hTm (much:=1000000000) 60 (by kernel_rfl)
def ownM:List (Tx×Bool):=keysR.foldl (λm k=>tput k true m) []
theorem YaP(t:Tx):∀(l:List Tx) (m:List (Tx×Bool)),(tlook t (l.foldl (λm k=>tput k true m) m)).getD false=((tlook t m).getD false||ownIn l t)
 |[],m=>by simp[ownIn]
 |k::l,m=>by
  rw[List.foldl_cons,YaP t l,ZP,ownIn];by_cases h:t==k
  ·have e:t=k:=by simpa using h
   subst e; simp
  ·have h2:(k==t)=false:=by
    rw[Bool.eq_false_iff]; intro q; apply h; simp at q; simp[q]
   rw[if_neg h,h2,Bool.false_or]
theorem Qct(t:Tx):(tlook t ownM).getD false=ownIn keysR t:=by
 rw[ownM,YaP]; rfl
attribute [local irreducible] Ans.rd Ans.pu Ans.wr Ans.dr Ans.gr Ans.gw Ans.gl Ans.gd Ans.opt joinK W
theorem c258:PC 258 [] (.rmap (mpE ownM)):=by
 refine XaC hP g258_ok rfl ⟨.map 0,[.map (mpE ownM)],?_,?_⟩
 ·show (match Yr [.map (mpE ownM)] (998 + 1 + 1) [.map 0] with
   |some ([y],_)=>some y
   | _=>none)=_
  have:hget [ABlk.map (mpE ownM)] 0=.map (mpE ownM):=rfl;simp only[Yr,this,Zaw,cond_true]
 unfold g258;refine Xf rfl rfl ?_;refine Yd p264 rfl g264_ok.plain rfl ?_;refine Za rfl ?_;have hlen:keysR.length=41:=rfl;unfold ownM;generalize keysR=l at hlen ⊢;refine Qk (ι:=Nat) (λi vs σ=>∃m,vs=[iv i]∧σ=[.map (mpE m)]∧i≤l.length∧l.foldl (λm k=>tput k true m) []=(l.drop i).foldl (λm k=>tput k true m) m) (λi=>l.length-i) 0 ⟨[],rfl,rfl,by omega,by simp⟩ ?_;rintro i vs σ again ⟨m,rfl,rfl,hi,hu⟩ hag;refine Za rfl ?_;refine Qb (λh=>?_) (λh=>?_)
 ·have h:i<l.length:=by simpa using h
  have hdr:l.drop i=l[i]::l.drop (i+1):=by rw[YLD h]
  rw[hdr,List.foldl_cons] at hu;refine Za (Yo _ txC _ _ _ l .i64 i h) (Za (ldr (txLd _)) (Xf (QaJ (b:=0) rfl _ _) rfl (Za (Zk ..) ?_)));rw[Yg (n:=i) (by omega)];exact hag (i+1) _ _ (by omega) ⟨_,rfl,rfl,by omega,hu⟩
 ·have h:i=l.length:=by simp at h; omega
  subst h;rw[List.drop_length,List.foldl_nil] at hu;rw[hu]; exact⟨rfl,rfl⟩
theorem c242(s:Tx):PC 242 [.str s] (.bool (ownIn keysR s)):=by
 refine Qc hP g242_ok rfl rfl ?_;unfold g242;refine Yd c258 rfl g258_ok.plain rfl ?_;refine Za (Zl ..) ?_;rw[Qct]
end Go.Ah.Tz
end
section
namespace Go.Ah.Tz
open Go.Proofs.Tryz (prog)
attribute [local irreducible] Ans.rd Ans.pu Ans.wr Ans.dr Ans.gr Ans.gw Ans.gl Ans.gd Ans.opt joinK W
theorem c257(x:Int):PC 257 [.int .i32 x] (.bool (isDig x)):=by
 refine Qc hP g257_ok rfl rfl ?_;unfold g257;refine Za rfl (Z1 rfl rfl ?_);exact congrArg AVal.bool (by rw[Bool.eq_iff_iff]; simp[isDig])
theorem c256(x:Int):PC 256 [.int .i32 x] (.bool (isLet x)):=by
 refine Qc hP g256_ok rfl rfl ?_;unfold g256;refine Za rfl (Z1 rfl rfl ?_);refine Ql λk1 hk1=>?_;have kk:∀c,c=decide ((97≤x∧x≤122)∨(65≤x∧x≤90))→k1 [.bool c] []:=by
  rintro c hc;rw[hk1]; clear hk1 k1;refine Qb (λh=>?_) (λh=>?_)
  ·rw[h] at hc;have hc:(97≤x∧x≤122)∨(65≤x∧x≤90):=by simpa using hc.symm
   exact congrArg AVal.bool (by rw[eq_comm,isLet,decide_eq_true_eq]; omega)
  rw[h] at hc;have hc:¬((97≤x∧x≤122)∨(65≤x∧x≤90)):=of_decide_eq_false hc.symm;refine Za (Yf ..) ?_;refine Ql λk1 hk1=>?_;have k2:∀c,c=decide (x=215∨x=247)→k1 [.bool c] []:=by
   rintro c hc2;rw[hk1]; clear hk1 k1;refine Qb (λh=>?_) (λh=>?_)
   ·rw[h] at hc2;have hc2:x=215∨x=247:=of_decide_eq_true hc2.symm;exact congrArg AVal.bool (by rw[eq_comm,isLet,decide_eq_false_iff_not]; omega)
   rw[h] at hc2;have hc2:¬(x=215∨x=247):=of_decide_eq_false hc2.symm;refine Za rfl (Z1 rfl rfl ?_);exact congrArg AVal.bool (by rw[Bool.eq_iff_iff,Bool.and_eq_true,isLet,decide_eq_true_eq,decide_eq_true_eq,decide_eq_true_eq]; omega)
  clear hk1;refine Qb (λh=>k2 _ ?_) (λh=>?_)
  ·rw[h]; rw[eq_comm,decide_eq_true_eq]; exact Or.inl (of_decide_eq_true h)
  ·have h:x≠215:=of_decide_eq_false h;refine Za (Yf ..) (k2 _ ?_);rw[Bool.eq_iff_iff,decide_eq_true_eq,decide_eq_true_eq]; omega
 clear hk1;refine Qb (λh=>kk _ ?_) (λh=>?_)
 ·rw[h]; rw[eq_comm,decide_eq_true_eq]; simp at h; omega
 ·refine Za rfl (Z1 rfl rfl (kk _ ?_));rw[Bool.eq_iff_iff,Bool.and_eq_true,decide_eq_true_eq,decide_eq_true_eq,decide_eq_true_eq]; simp at h; omega
end Go.Ah.Tz
end
section
namespace Go.Ah.Tz
theorem all256{p:Nat→Bool}(h:(List.range 256).all p=true){c:Nat}(hc:c<256):p c=true:=List.all_eq_true.1 h c (List.mem_range.2 hc)
theorem and31{c:Nat}(hc:c<256):bits .and .i64 (c:Int) 31=((c%32:Nat):Int):=by
 have:=all256 (p:=λc=>bits .and .i64 (c:Int) 31==((c%32:Nat):Int)) (by kernel_rfl) hc;simpa using this
theorem and15{c:Nat}(hc:c<256):bits .and .i64 (c:Int) 15=((c%16:Nat):Int):=by
 have:=all256 (p:=λc=>bits .and .i64 (c:Int) 15==((c%16:Nat):Int)) (by kernel_rfl) hc;simpa using this
theorem and7{c:Nat}(hc:c<256):bits .and .i64 (c:Int) 7=((c%8:Nat):Int):=by
 have:=all256 (p:=λc=>bits .and .i64 (c:Int) 7==((c%8:Nat):Int)) (by kernel_rfl) hc;simpa using this
theorem and63{c:Nat}(hc:c<256):bits .and .u8 (c:Int) 63=((c%64:Nat):Int):=by
 have:=all256 (p:=λc=>bits .and .u8 (c:Int) 63==((c%64:Nat):Int)) (by kernel_rfl) hc;simpa using this
theorem and192{c:Nat}(hc:c<256):(bits .and .u8 (c:Int) 192 != 128) = !(c/64==2):=by
 have:=all256 (p:=λc=>(bits .and .u8 (c:Int) 192 != 128) == !(c/64==2)) (by kernel_rfl) hc;simpa using this
theorem Xb8(c:UInt8):rCont c = !(c.toNat/64==2):=and192 c.toNat_lt
theorem or64(q y:Nat)(hq:q<1099511627776)(hy:y<64):bits .or .i64 ((q*64:Nat):Int) (y:Int)=((q*64+y:Nat):Int):=by
 have h1:(BitVec.ofInt 64 ((q*64:Nat):Int)).toNat=q*64:=by
  rw[BitVec.toNat_ofInt]; omega
 have h2:(BitVec.ofInt 64 (y:Int)).toNat=y:=by
  rw[BitVec.toNat_ofInt]; omega
 have h3:q*64 ||| y=q*64+y:=by
  have:=Nat.two_pow_add_eq_or_of_lt (i:=6) (b:=y) (by omega) q;rw[show 2 ^ 6*q=q*64 by omega] at this;exact this.symm
 show IntKind.i64.wrap (((BitVec.ofInt 64 ((q*64:Nat):Int)) ||| (BitVec.ofInt 64 (y:Int))).toNat:Int)=_;rw[BitVec.toNat_or,h1,h2,h3];exact wrapI (by omega) (by omega)
theorem Zb9(x:Nat)(hx:x<1099511627776)(c:UInt8):rStep (x:Int) c=((x*64+c.toNat%64:Nat):Int):=by
 have e:shl6 (x:Int)=((x*64:Nat):Int):=by
  show IntKind.i64.wrap ((x:Int)*64)=_;rw[wrapI (by omega) (by omega)]; simp
 rw[rStep,e,and63 c.toNat_lt,wrapI (by omega) (by omega)];exact or64 x _ hx (Nat.mod_lt _ (by omega))
theorem QbM(s:Tx)(a:Nat)(ha:a<s.length) :
  (((runeR s a).2≠0→((Utf8.decode ⟨s.toArray⟩ a).1:Int)=(runeR s a).1∧(Utf8.decode ⟨s.toArray⟩ a).2=(runeR s a).2)∧((runeR s a).2=0→(Utf8.decode ⟨s.toArray⟩ a).1=65533)):=by
 have hat:∀k,((⟨s.toArray⟩:ByteArray).get! (a+k))=(s[a+k]?).getD 0:=by
  intro k;show (s.toArray)[a+k]! = _;simp[List.getElem!_eq_getElem?_getD];rfl
 have hsz:(⟨s.toArray⟩:ByteArray).size=s.length:=by simp[ByteArray.size]
 rw[runeR,List.getElem?_eq_getElem ha];unfold Utf8.decode;simp only[hat,hsz];have h0:(s[a+0]?).getD 0=s[a]:=by simp[List.getElem?_eq_getElem ha]
 rw[h0];have hb:s[a].toNat<256:=s[a].toNat_lt;generalize s[a].toNat=b at hb ⊢;have hcn:∀k,¬a+k<s.length→s[a+k]?=none:=λk h=>by simp; omega
 have ht:∀(i x:Nat),x<1000000→∀m,rTail s a (m+1) i (x:Int)=if a+i<s.length∧((s[a+i]?).getD 0).toNat/64=2 then rTail s a m (i+1) ((x*64+((s[a+i]?).getD 0).toNat%64:Nat):Int) else none:=by
  intro i x hx m;by_cases h:a+i<s.length
  ·rw[rTail,List.getElem?_eq_getElem h];simp only[Xb8,Option.getD_some,h,true_and];by_cases h2:s[a+i].toNat/64=2
   ·simp[h2,Zb9 x (by omega)]
   ·simp[h2]
  ·rw[rTail,hcn i h]; simp[h]
 have hcd:∀k,(decide (a+k<s.length)&&(((s[a+k]?).getD 0).toNat/64==2))=decide (a+k<s.length∧((s[a+k]?).getD 0).toNat/64=2):=by
  intro k; rw[Bool.eq_iff_iff]; simp
 simp only[hcd];have t1:=λx hx m=>ht 1 x hx m;have t2:=λx hx m=>ht 2 x hx m;have t3:=λx hx m=>ht 3 x hx m;clear ht hcd hcn hat hsz h0;generalize ((s[a+1]?).getD 0).toNat=d1 at *;generalize ((s[a+2]?).getD 0).toNat=d2 at *;generalize ((s[a+3]?).getD 0).toNat=d3 at *;by_cases c1:b<128
 ·have hh:rHead (b:Int)=some (1,(b:Int),0):=by
   rw[rHead,if_neg (by omega),if_neg (by omega),if_neg (by omega),if_neg (by omega)]
  simp only[hh,if_pos c1,Nat.sub_self,rTail,rEnd];rw[if_neg (by omega)]; simp
 rw[if_neg c1];by_cases c2:b<192
 ·have hh:rHead (b:Int)=none:=by
   rw[rHead,if_neg (by omega),if_neg (by omega),if_neg (by omega),if_pos (by omega)]
  simp only[hh];have e1:¬b/32=6:=by omega
  have e2:¬b/16=14:=by omega
  have e3:¬b/8=30:=by omega
  simp[e1,e2,e3,Utf8.runeError]
 by_cases c3:b<224
 ·have hh:rHead (b:Int)=some (2,((b%32:Nat):Int),128):=by
   rw[rHead,if_pos (by omega),and31 hb]
  have e1:b/32=6:=by omega
  have e2:¬b/16=14:=by omega
  have e3:¬b/8=30:=by omega
  simp only[hh];rw[t1 _ (by omega) 0];by_cases p1:a+1<s.length∧d1/64=2
  ·simp only[if_pos p1,rTail,rEnd,e1,decide_eq_true p1,beq_self_eq_true,Bool.and_self,if_true];by_cases y:b%32*64+d1%64 ≥ 128
   ·rw[if_pos y,if_neg (by omega)]; simp
   ·rw[if_neg y,if_pos (by omega)]; simp[Utf8.runeError]
  ·simp only[if_neg p1,rEnd,decide_eq_false p1,Bool.and_false,Bool.false_and,Bool.false_eq_true,if_false];simp[Utf8.runeError]
 by_cases c4:b<240
 ·have hh:rHead (b:Int)=some (3,((b%16:Nat):Int),2048):=by
   rw[rHead,if_neg (by omega),if_pos (by omega),and15 hb]
  have e1:¬b/32=6:=by omega
  have e2:b/16=14:=by omega
  have e3:¬b/8=30:=by omega
  simp only[hh];rw[t1 _ (by omega) 1];have f1:(b/32==6)=false:=by simpa using e1
  by_cases p1:a+1<s.length∧d1/64=2
  ·rw[if_pos p1,t2 _ (by omega) 0];by_cases p2:a+2<s.length∧d2/64=2
   ·simp only[if_pos p2,rTail,rEnd,f1,e2,decide_eq_true p1,decide_eq_true p2,beq_self_eq_true,Bool.and_self,if_true,Bool.false_and,Bool.false_eq_true,if_false];by_cases y:(b%16*64+d1%64)*64+d2%64<2048∨(55296≤(b%16*64+d1%64)*64+d2%64∧(b%16*64+d1%64)*64+d2%64≤57343)
    ·rw[if_pos (by omega),if_neg (by simp[Utf8.valid]; omega)]; simp[Utf8.runeError]
    ·rw[if_neg (by omega),if_pos (by simp[Utf8.valid]; omega)]; simp; omega
   ·simp only[if_neg p2,rEnd,f1,decide_eq_false p2,Bool.and_false,Bool.false_and,Bool.false_eq_true,if_false];simp[Utf8.runeError]
  ·simp only[if_neg p1,rEnd,f1,decide_eq_false p1,Bool.and_false,Bool.false_and,Bool.false_eq_true,if_false];simp[Utf8.runeError]
 by_cases c5:b<248
 ·have hh:rHead (b:Int)=some (4,((b%8:Nat):Int),65536):=by
   rw[rHead,if_neg (by omega),if_neg (by omega),if_pos (by omega),and7 hb]
  have e3:b/8=30:=by omega
  have f1:(b/32==6)=false:=by simp; omega
  have f2:(b/16==14)=false:=by simp; omega
  simp only[hh];rw[t1 _ (by omega) 2];by_cases p1:a+1<s.length∧d1/64=2
  ·rw[if_pos p1,t2 _ (by omega) 1];by_cases p2:a+2<s.length∧d2/64=2
   ·rw[if_pos p2,t3 _ (by omega) 0];by_cases p3:a+3<s.length∧d3/64=2
    ·simp only[if_pos p3,rTail,rEnd,f1,f2,e3,decide_eq_true p1,decide_eq_true p2,decide_eq_true p3,beq_self_eq_true,Bool.and_self,if_true,Bool.false_and,Bool.false_eq_true,if_false];by_cases y:((b%8*64+d1%64)*64+d2%64)*64+d3%64<65536∨1114111<((b%8*64+d1%64)*64+d2%64)*64+d3%64
     ·rw[if_pos (by omega),if_neg (by simp[Utf8.valid]; omega)]; simp[Utf8.runeError]
     ·rw[if_neg (by omega),if_pos (by simp[Utf8.valid]; omega)]; simp; omega
    ·simp only[if_neg p3,rEnd,f1,f2,decide_eq_false p3,Bool.and_false,Bool.false_and,Bool.false_eq_true,if_false];simp[Utf8.runeError]
   ·simp only[if_neg p2,rEnd,f1,f2,decide_eq_false p2,Bool.and_false,Bool.false_and,Bool.false_eq_true,if_false];simp[Utf8.runeError]
  ·simp only[if_neg p1,rEnd,f1,f2,decide_eq_false p1,Bool.and_false,Bool.false_and,Bool.false_eq_true,if_false];simp[Utf8.runeError]
 ·have hh:rHead (b:Int)=none:=by
   rw[rHead,if_neg (by omega),if_neg (by omega),if_neg (by omega),if_pos (by omega)]
  simp only[hh];have e1:¬b/32=6:=by omega
  have e2:¬b/16=14:=by omega
  have e3:¬b/8=30:=by omega
  simp[e1,e2,e3,Utf8.runeError]
end Go.Ah.Tz
end
section
namespace Go.Ah.Tz
open Go.Proofs.Tryz (prog)
theorem Ybs(s:Tx)(a:Nat):∀(m i:Nat) (x y:Int),rTail s a (m+1) i x=some y→a+i+m<s.length
 |m,i,x,y,h=>by
  rw[rTail] at h;cases e:s[a+i]? with
  |none=>rw[e] at h; cases h
  |some c=>
   have hl:a+i<s.length:=(YLG e).1;rw[e] at h;cases m with
   |zero=>omega
   |succ m=>
    have h2:(if rCont c=true then none else rTail s a (m+1) (i+1) (rStep x c))=some y:=h;split at h2
    ·cases h2
    ·have:=Ybs s a m (i+1) _ _ h2;omega
theorem Yb9(s:Tx)(a:Nat)(ha:a<s.length)(h:(runeR s a).2≠0):a+(runeR s a).2≤s.length:=by
 unfold runeR at h ⊢;rw[List.getElem?_eq_getElem ha] at h ⊢;simp only at h ⊢;cases e:rHead (s[a].toNat:Int) with
 |none=>rw[e] at h; simp at h
 |some p=>
  obtain⟨n,x,least⟩:=p;rw[e] at h;simp only at h ⊢;cases e2:rTail s a (n-1) 1 x with
  |none=>rw[e2] at h; simp[rEnd] at h
  |some y=>
   rw[e2] at h;have h3:(rEnd n least (some y)).2≤n:=by rw[rEnd]; split<;>simp
   by_cases hn:n≤1
   ·omega
   ·have:=Ybs s a (n-2) 1 x y (by rw[show n-2+1=n-1 by omega]; exact e2);omega
attribute [local irreducible] Ans.rd Ans.pu Ans.wr Ans.dr Ans.gr Ans.gw Ans.gl Ans.gd Ans.opt joinK W
set_option maxHeartbeats 1000000
theorem ZcF{s:Tx}{a:Nat}(h:a<s.length):YaY [.iter 0] [.siter s a]=.ok (.tup [.bool true,iv a,.int .i32 (Utf8.decode ⟨s.toArray⟩ a).1]) [] [(0,.siter s (a+(Utf8.decode ⟨s.toArray⟩ a).2))]:=by
 have hb:Nat.blt a s.length=true:=by simpa[Nat.blt_eq] using h
 show (bif Nat.blt a s.length then _ else _)=_;rw[hb]; rfl
theorem Xcr{s:Tx}{a:Nat}(h:¬a<s.length):YaY [.iter 0] [.siter s a]=.ok (.tup [.bool false]) [0] []:=by
 have hb:Nat.blt a s.length=false:=by rw[Bool.eq_false_iff]; intro q; exact h (by simpa[Nat.blt_eq] using q)
 show (bif Nat.blt a s.length then _ else _)=_;rw[hb]; rfl
theorem c241(s:Tx)(hs:s.length≤big):PC 241 [.str s] (.tup [iv (nameR s 0 0).1,iv (nameR s 0 0).2]):=by
 rw[bigE] at hs;refine Qc hP g241_ok rfl rfl ?_;unfold g241;refine Xf rfl rfl ?_;refine Qk (ι:=Nat) (λa vs σ=>∃n:Nat,vs=[iv n]∧σ=[.siter s a]∧n≤a∧(a=0↔n=0)∧a≤s.length∧nameR s 0 0=nameR s a n) (λa=>s.length-a) 0 ⟨0,rfl,rfl,by omega,by simp,by omega,rfl⟩ ?_;rintro a vs σ again ⟨n,rfl,rfl,i1,i0,i2,hu⟩ hag;by_cases h:a<s.length;rotate_left
 ·refine Xf (Xcr h) rfl (Za rfl (Yh (Za rfl ?_)));rw[show nameR s a n=(a,n) by rw[nameR,dif_neg h]] at hu;rw[hu,show s.length=a by omega]; rfl
 refine Xf (ZcF h) rfl (Za rfl (Ze (Za rfl (Za rfl ?_))));obtain⟨d1,d2⟩:=QbM s a h;have hin:=Yb9 s a h;generalize Utf8.decode ⟨s.toArray⟩ a=p at d1 d2 ⊢;have hst:Xao s a n↔(isLet (p.1:Int)=false∧(a=0∨(isDig (p.1:Int)=false∧(p.1:Int)≠39))):=by
  unfold Xao;by_cases h0:(runeR s a).2=0
  ·have:=d2 h0;rw[this];have e1:isLet 65533=false:=by decide
   have e2:isDig 65533=false:=by decide
   simp[h0,e1,e2]
  ·rw[(d1 h0).1];simp[h0,i0]
 have stp:(isLet (p.1:Int)=false∧(a=0∨(isDig (p.1:Int)=false∧(p.1:Int)≠39)))→AVal.tup [iv a,iv n]=AVal.tup [iv (nameR s 0 0).1,iv (nameR s 0 0).2]:=by
  intro q;rw[hu,nameR,dif_pos h,dif_pos (hst.2 q)]
 have go:¬(isLet (p.1:Int)=false∧(a=0∨(isDig (p.1:Int)=false∧(p.1:Int)≠39)))→VV.rd (Yi .add false [iv n,(.int .i64 1)] [.siter s (a+p.2)]) λt31=>again [t31] [.siter s (a+p.2)]:=by
  intro q;have q2:¬Xao s a n:=λz=>q (hst.1 z);have h0:(runeR s a).2≠0:=λe=>q2 (Or.inl e);have:=(d1 h0).2;have:=hin h0;refine Za (Zk ..) ?_;rw[Yg (n:=n) (by omega)];refine hag (a+p.2) _ _ (by omega) ⟨n+1,rfl,rfl,by omega,by omega,by omega,?_⟩;rw[hu,nameR,dif_pos h,dif_neg q2,(d1 h0).2]
 clear hag hu hst d1 d2 hin;generalize (p.1:Int)=r at stp go ⊢;refine Yd (c256 r) rfl g256_ok.plain rfl ?_;refine Za rfl ?_;rcases YBE (!isLet r) with h1|h1
 rotate_left
 ·rw[h1];repeat first|refine Xa ?_|refine Zb ?_|refine Yb rfl ?_|refine Zc rfl ?_|refine Zd rfl ?_|refine Xd rfl ?_|refine Za rfl ?_
  exact Yh (go (by have h1:isLet r=true:=(by simpa using h1); simp[h1]))
 rw[h1];have h1:isLet r=false:=by simpa using h1
 repeat first|refine Xa ?_|refine Zb ?_|refine Za rfl ?_
 rcases YBE ((a:Int)==0) with h2|h2
 ·rw[h2];repeat first|refine Xa ?_|refine Zb ?_|refine Yb rfl ?_|refine Zc rfl ?_|refine Zd rfl ?_|refine Xd rfl ?_|refine Za rfl ?_
  exact Ze (stp ⟨h1,Or.inl (by simpa using h2)⟩)
 rw[h2];have h2:a≠0:=by simpa using h2
 repeat first|refine Xa ?_|refine Zb ?_|refine Za rfl ?_
 refine Yd (c257 r) rfl g257_ok.plain rfl ?_;repeat first|refine Xa ?_|refine Zb ?_|refine Za rfl ?_
 rcases YBE (!isDig r) with h3|h3
 rotate_left
 ·rw[h3];repeat first|refine Xa ?_|refine Zb ?_|refine Yb rfl ?_|refine Zc rfl ?_|refine Zd rfl ?_|refine Xd rfl ?_|refine Za rfl ?_
  exact Yh (go (by have h3:isDig r=true:=(by simpa using h3); simp[h2,h3]))
 rw[h3];have h3:isDig r=false:=by simpa using h3
 repeat first|refine Xa ?_|refine Zb ?_|refine Za rfl ?_
 refine Qb (λh4=>stp ⟨h1,Or.inr ⟨h3,by simpa using h4⟩⟩) (λh4=>go ?_);have h4:r=39:=by simpa using h4
 simp[h2,h4]
theorem c223(s:Tx)(hs:s.length≤big):PC 223 [.str s] (.bool (nameOk s)):=by
 refine Qc hP g223_ok rfl rfl ?_;unfold g223;refine Yd (c241 s hs) rfl g241_ok.plain rfl ?_;unfold nameOk;generalize (nameR s 0 0).1=e;generalize (nameR s 0 0).2=n;refine Za rfl (Za rfl (Za rfl ?_));rcases YBE (decide ((n:Int)>0)) with h1|h1
 rotate_left
 ·rw[h1];repeat first|refine Yb rfl ?_|refine Zc rfl ?_|refine Zd rfl ?_|refine Xd rfl ?_|refine Za rfl ?_
  have h1:¬1≤n:=by simp at h1; omega
  simp[h1]
 rw[h1];repeat first|refine Xa ?_|refine Zb ?_|refine Za rfl ?_
 rcases YBE (decide ((n:Int)≤24)) with h2|h2
 rotate_left
 ·rw[h2];repeat first|refine Yb rfl ?_|refine Zc rfl ?_|refine Zd rfl ?_|refine Xd rfl ?_|refine Za rfl ?_
  have h2:¬n≤24:=by simp at h2; omega
  simp[h2]
 rw[h2];repeat first|refine Xa ?_|refine Zb ?_|refine Za rfl ?_
 rcases YBE ((e:Int)==(s.length:Int)) with h3|h3
 rotate_left
 ·rw[h3];repeat first|refine Yb rfl ?_|refine Zc rfl ?_|refine Zd rfl ?_|refine Xd rfl ?_|refine Za rfl ?_
  have h3:¬e=s.length:=by simp at h3; omega
  simp[h3]
 rw[h3];repeat first|refine Xa ?_|refine Zb ?_|refine Za rfl ?_
 have h3:e=s.length:=by simp at h3; omega
 subst h3;rcases YBE (decide ((s.length:Int)≤40)) with h4|h4
 rotate_left
 ·rw[h4];repeat first|refine Yb rfl ?_|refine Zc rfl ?_|refine Zd rfl ?_|refine Xd rfl ?_|refine Za rfl ?_
  have h4:¬s.length≤40:=by simp at h4; omega
  simp[h4]
 rw[h4];repeat first|refine Xa ?_|refine Zb ?_|refine Za rfl ?_
 refine Yd (c242 _) rfl g242_ok.plain rfl ?_;repeat first|refine Xa ?_|refine Zb ?_|refine Za rfl ?_
 have h1:1≤n:=by simp at h1; omega
 have h2:n≤24:=by simp at h2; omega
 have h4:s.length≤40:=by simp at h4; omega
 simp[h1,h2,h4]
end Go.Ah.Tz
end
section
namespace Go.Ah.Tz
open Go.Proofs.Tryz (prog)
theorem Ya2(a:Int):lbN a=0∨lbN a=1∨lbN a=2∨lbN a=3:=by unfold lbN; split<;>omega
attribute [local irreducible] Ans.rd Ans.pu Ans.wr Ans.dr Ans.gr Ans.gw Ans.gl Ans.gd Ans.opt joinK W
theorem c252(a:Int):PC 252 [iv8 a] (iv8 (lbN a)):=by
 refine Qc hP g252_ok rfl rfl ?_;unfold g252;refine Za rfl (XB rfl rfl ?_);refine Qb (λh=>?_) (λh=>?_)
 ·rw[lbN,if_pos (by simpa using h)]
 ·rw[lbN,if_neg (by simpa using h)]
def joinT:AVal:=.agg [iv8 0,iv8 1,iv8 2,iv8 3,iv8 1,iv8 1,iv8 3,iv8 3,iv8 2,iv8 3,iv8 2,iv8 3,iv8 3,iv8 3,iv8 3,iv8 3]
theorem c263:PC 263 [] joinT:=by
 refine Qc hP g263_ok rfl rfl ?_;unfold g263;refine Xf rfl rfl (Za rfl (Za rfl (Za rfl (Za rfl (Za rfl (Xf rfl rfl (Zt rfl ?_)))))));rfl
theorem c250(a b:Int):PC 250 [iv8 a,iv8 b] (iv8 (joinL a b)):=by
 refine Qc hP g250_ok rfl rfl ?_;unfold g250;refine Zh c263 rfl g263_ok.plain rfl ?_;refine Zh (c252 a) rfl g252_ok.plain rfl ?_;have h1:=Ya2 a;have h2:=Ya2 b;unfold joinL;have k:=c252 b;generalize lbN a=p at h1 ⊢;generalize lbN b=q at h2 k ⊢;rcases h1 with h1|h1|h1|h1<;>subst h1<;>refine Xg rfl ?_<;>refine Zh k rfl g252_ok.plain rfl ?_<;>rcases h2 with h2|h2|h2|h2<;>subst h2<;>exact Xg rfl (Xx (by kernel_rfl) rfl)
theorem c253(a b:Int):PC 253 [iv8 a,iv8 b] (.bool (decide (joinL a b=lbN b))):=by
 refine Qc hP g253_ok rfl rfl ?_;unfold g253;refine Yd (c250 a b) rfl g250_ok.plain rfl ?_;refine Yd (c252 b) rfl g252_ok.plain rfl ?_;refine Za (Yf ..) ?_;rfl
theorem XaL(b:Int):joinL b b=lbN b:=by rw[joinL,if_pos (Or.inl rfl)]
end Go.Ah.Tz
end
section
namespace Go.Ah.Tz
open Go.Proofs.Tryz (prog)
attribute [local irreducible] Ans.rd Ans.pu Ans.wr Ans.dr Ans.gr Ans.gw Ans.gl Ans.gd Ans.opt joinK W
set_option maxHeartbeats 1000000
theorem Yct(x:Nm):nmL x=if x.op=6 then 3 else if 8≤x.op∧x.op≤12 then nmLs 0 x.kids else 0:=by
 rw[Xcm];by_cases h:x.op=6
 ·rw[if_neg (by omega),if_pos h,if_pos h]
 ·rw[if_neg h,if_neg h]
theorem c251':∀(k:Nat) (x:Nm),SizeOf.sizeOf x≤k→nmFit x=true→PC 251 [.agg (nmC x)] (iv8 (nmL x))
 |0,x,h,_=>by cases x; simp at h
 |k+1,x,hk,hf=>by
  rw[Qx];refine Qc hP g251_ok rfl rfl ?_;unfold g251;refine Xf rfl rfl ?_;rw[Yct];have hlen:=ZX hf;rw[bigE] at hlen;generalize hB:([]++[ABlk.box [iv8 x.op,iv x.n,iv8 x.who,.rsl false false 4 (x.kids.map nmC)]]:List ABlk)=base;have hB0:hget base 0=.box [iv8 x.op,iv x.n,iv8 x.who,.rsl false false 4 (x.kids.map nmC)]:=by rw[←hB]; rfl
  clear hB;refine Za rfl (Za (ld hB0 rfl) (Za (Yf ..) ?_));refine Qb (λh=>?_) (λh=>?_)
  ·rw[if_pos (by simpa using h)]
  rw[if_neg (by simpa using h)];refine Za rfl (Za (ld hB0 rfl) (Za rfl ?_));refine X8 rfl (ld hB0 rfl) rfl ?_;rw[show (decide (x.op ≥ 8)&&decide (x.op≤12))=decide (8≤x.op∧x.op≤12) by simp];refine Qb (λh=>?_) (λh=>?_);rotate_left
  ·rw[if_neg (by simpa using h)]
  rw[if_pos (by simpa using h)];refine Za rfl (Za (ld hB0 rfl) (Za rfl ?_));clear hB0;refine Qk (ι:=Nat) (λi vs σ=>∃n,vs=[iv i,iv8 n]∧i≤x.kids.length∧nmLs 0 x.kids=nmLs n (x.kids.drop i)) (λi=>x.kids.length-i) 0 ⟨0,rfl,by omega,by simp⟩ ?_;rintro i vs σ again ⟨n,rfl,hi,hu⟩ hag;refine Za rfl ?_;refine Qb (λh=>?_) (λh=>?_)
  ·have h:i<x.kids.length:=by simpa using h
   have hdr:x.kids.drop i=x.kids[i]::x.kids.drop (i+1):=by rw[YLD h]
   rw[hdr,nmLs] at hu;have hm:x.kids[i]∈x.kids:=List.getElem_mem h;have hix:=λ(s:List ABlk)=>Yo s nmC false false 4 x.kids .i64 i h;have hsz:=ZV hm;have hfk:=YH hf hm;generalize x.kids[i]=y at hu hix hsz hfk;refine Za (hix _) (Za (ldr (nmLd _)) ?_);refine Xz (row:=[iv8 y.op,iv y.n,iv8 y.who,.rsl false false 4 (y.kids.map nmC)]) (row':=[iv8 y.op,iv y.n,iv8 y.who,.rsl false false 4 (y.kids.map nmC)]) (by rw[Qx]; rfl) rfl rfl ?_;have hB1:=Yl σ (ABlk.box [iv8 y.op,iv y.n,iv8 y.who,.rsl false false 4 (y.kids.map nmC)]);have hN:Xc true 4 [.bptr σ.length 0] (σ++[ABlk.box [iv8 y.op,iv y.n,iv8 y.who,.rsl false false 4 (y.kids.map nmC)]])=.ok (.agg (nmC y)) [σ.length] []:=ld hB1 (by rw[Qx]; rfl);refine Za hN ?_;refine Yd (c251' k y (by omega) hfk) rfl g251_ok.plain (nmRo _) ?_;refine Yd (c250 _ _) rfl g250_ok.plain rfl ?_;refine Za (Zk ..) ?_;rw[Yg (n:=i) (by omega)];exact hag (i+1) _ _ (by omega) ⟨_,rfl,by omega,hu⟩
  ·have h:i=x.kids.length:=by simp at h; omega
   subst h;rw[List.drop_length,nmLs] at hu;rw[hu]; rfl
theorem c251(x:Nm)(hf:nmFit x=true):PC 251 [.agg (nmC x)] (iv8 (nmL x)):=c251' _ x (Nat.le_refl _) hf
theorem c254':∀(k:Nat) (x:Cn),SizeOf.sizeOf x≤k→cnFit x=true→PC 254 [.agg (cnC x)] (iv8 (cnL x))
 |0,x,h,_=>by cases x; simp at h
 |k+1,x,hk,hf=>by
  rw[ZM];refine Qc hP g254_ok rfl rfl ?_;unfold g254;refine Xf rfl rfl ?_;rw[Zcj];have hl1:=QN hf;have hl2:=XN hf;rw[bigE] at hl1 hl2;generalize hB:([]++[ABlk.box [iv8 x.op,iv8 x.who,.str x.name,.rsl false false 4 (x.nums.map nmC),.rsl false false 5 (x.kids.map cnC)]]:List ABlk)=base;have hB0:hget base 0=.box [iv8 x.op,iv8 x.who,.str x.name,.rsl false false 4 (x.nums.map nmC),.rsl false false 5 (x.kids.map cnC)]:=by rw[←hB]; rfl
  clear hB;refine Za rfl (Za (ld hB0 rfl) (Za (Yf ..) ?_));refine Qb (λh=>?_) (λh=>?_)
  ·rw[if_pos (by simpa using h)];refine Za rfl (Za (ld hB0 rfl) (Za (Yf ..) ?_));refine Qb (λh=>?_) (λh=>?_)
   ·rw[if_pos (by simpa using h)]
   rw[if_neg (by simpa using h)];refine Za (Yf ..) ?_;refine Qb (λh=>?_) (λh=>?_)
   ·rw[if_pos (by simpa using h)]
   ·rw[if_neg (by simpa using h)]
  rw[if_neg (by simpa using h)];refine Za rfl (Za (ld hB0 rfl) (Za rfl ?_));refine Qk (ι:=Nat) (λi vs σ=>∃n,vs=[iv i,iv8 n]∧hget σ 0=.box [iv8 x.op,iv8 x.who,.str x.name,.rsl false false 4 (x.nums.map nmC),.rsl false false 5 (x.kids.map cnC)]∧i≤x.nums.length∧nmLs 0 x.nums=nmLs n (x.nums.drop i)) (λi=>x.nums.length-i) 0 ⟨0,rfl,hB0,by omega,by simp⟩ ?_;rintro i vs σ again ⟨n,rfl,hB0,hi,hu⟩ hag;refine Za rfl ?_;refine Qb (λh=>?_) (λh=>?_)
  ·have h:i<x.nums.length:=by simpa using h
   have hdr:x.nums.drop i=x.nums[i]::x.nums.drop (i+1):=by rw[YLD h]
   rw[hdr,nmLs] at hu;have hm:x.nums[i]∈x.nums:=List.getElem_mem h;have hix:=λ(s:List ABlk)=>Yo s nmC false false 4 x.nums .i64 i h;have hfk:=YW hf hm;generalize x.nums[i]=y at hu hix hfk;refine Za (hix _) (Za (ldr (nmLd _)) ?_);refine Xz (row:=[iv8 y.op,iv y.n,iv8 y.who,.rsl false false 4 (y.kids.map nmC)]) (row':=[iv8 y.op,iv y.n,iv8 y.who,.rsl false false 4 (y.kids.map nmC)]) (by rw[Qx]; rfl) rfl rfl ?_;have hB1:=Yl σ (ABlk.box [iv8 y.op,iv y.n,iv8 y.who,.rsl false false 4 (y.kids.map nmC)]);have hN:Xc true 4 [.bptr σ.length 0] (σ++[ABlk.box [iv8 y.op,iv y.n,iv8 y.who,.rsl false false 4 (y.kids.map nmC)]])=.ok (.agg (nmC y)) [σ.length] []:=ld hB1 (by rw[Qx]; rfl);refine Za hN ?_;refine Yd (c251 y hfk) rfl g251_ok.plain (nmRo _) ?_;refine Yd (c250 _ _) rfl g250_ok.plain rfl ?_;refine Za (Zk ..) ?_;rw[Yg (n:=i) (by omega)];exact hag (i+1) _ _ (by omega) ⟨_,rfl,Qm _ hB0 (by simp),by omega,hu⟩
  have h:i=x.nums.length:=by simp at h; omega
  subst h;rw[List.drop_length,nmLs] at hu;rw[hu];clear hag hu hi;refine Za rfl (Za (ld hB0 rfl) (Za rfl ?_));refine Qk (ι:=Nat) (λi vs s=>∃m,vs=[iv i,iv8 m]∧i≤x.kids.length∧cnLs n x.kids=cnLs m (x.kids.drop i)) (λi=>x.kids.length-i) 0 ⟨n,rfl,by omega,by simp⟩ ?_;rintro i vs s again ⟨m,rfl,hi,hu⟩ hag;refine Za rfl ?_;refine Qb (λh=>?_) (λh=>?_)
  ·have h:i<x.kids.length:=by simpa using h
   have hdr:x.kids.drop i=x.kids[i]::x.kids.drop (i+1):=by rw[YLD h]
   rw[hdr,cnLs] at hu;have hm:x.kids[i]∈x.kids:=List.getElem_mem h;have hix:=λ(s:List ABlk)=>Yo s cnC false false 5 x.kids .i64 i h;have hfk:=ZW hf hm;have hsz:=Zak hm;generalize x.kids[i]=y at hu hix hfk hsz;refine Za (hix _) (Za (ldr (cnLd _)) ?_);refine Xz (row:=[iv8 y.op,iv8 y.who,.str y.name,.rsl false false 4 (y.nums.map nmC),.rsl false false 5 (y.kids.map cnC)]) (row':=[iv8 y.op,iv8 y.who,.str y.name,.rsl false false 4 (y.nums.map nmC),.rsl false false 5 (y.kids.map cnC)]) (by rw[ZM]; rfl) rfl rfl ?_;have hB1:=Yl s (ABlk.box [iv8 y.op,iv8 y.who,.str y.name,.rsl false false 4 (y.nums.map nmC),.rsl false false 5 (y.kids.map cnC)]);have hN:Xc true 5 [.bptr s.length 0] (s++[ABlk.box [iv8 y.op,iv8 y.who,.str y.name,.rsl false false 4 (y.nums.map nmC),.rsl false false 5 (y.kids.map cnC)]])=.ok (.agg (cnC y)) [s.length] []:=ld hB1 (by rw[ZM]; rfl);refine Za hN ?_;refine Yd (c254' k y (by omega) hfk) rfl g254_ok.plain (cnRo _) ?_;refine Yd (c250 _ _) rfl g250_ok.plain rfl ?_;refine Za (Zk ..) ?_;rw[Yg (n:=i) (by omega)];exact hag (i+1) _ _ (by omega) ⟨_,rfl,by omega,hu⟩
  ·have h:i=x.kids.length:=by simp at h; omega
   subst h;rw[List.drop_length,cnLs] at hu;rw[hu]; rfl
theorem c254(x:Cn)(hf:cnFit x=true):PC 254 [.agg (cnC x)] (iv8 (cnL x)):=c254' _ x (Nat.le_refl _) hf
end Go.Ah.Tz
end
section
namespace Go.Ah.Tz
open Go.Proofs.Tryz (prog)
attribute [local irreducible] Ans.rd Ans.pu Ans.wr Ans.dr Ans.gr Ans.gw Ans.gl Ans.gd Ans.opt joinK W
theorem efRo(u:Int)(x:Ef):roL [.agg [iv8 u],.agg (efC x)]=true:=by rw[YD]; rfl
theorem c235(u:Int)(x:Ef)(hf:efFit x=true):PC 235 [.agg [iv8 u],.agg (efC x)] (.bool (decide (joinL u (nmL x.n)=0))):=by
 rw[YD];refine Qc hP g235_ok rfl rfl ?_;unfold g235;refine Xf rfl rfl (Xf rfl rfl (Xg rfl (Xj rfl rfl (Xg rfl (Xj (ld (v:=.agg (nmC x.n)) rfl (by rw[Qx]; rfl)) rfl ?_)))));refine Zh (c251 _ (Z3 hf)) rfl g251_ok.plain (nmRo _) ?_;refine Zh (c250 _ _) rfl g250_ok.plain rfl ?_;exact Xg (Yf ..) (Xx (by kernel_rfl) rfl)
theorem c236(u:Int)(x:Ef):PC 236 [.agg [iv8 u],.agg (efC x)] (.bool (decide (lbN u=0))):=by
 rw[YD];refine Qc hP g236_ok rfl rfl ?_;unfold g236;refine Xf rfl rfl (Xf rfl rfl (Za rfl (Za rfl ?_)));refine Yd (c252 _) rfl g252_ok.plain rfl ?_;exact Za (Yf ..) rfl
theorem c237(u:Int)(x:Ef)(hf:efFit x=true):PC 237 [.agg [iv8 u],.agg (efC x)] (.bool (QaK (joinL u (nmL x.n)) 1)):=by
 rw[YD];refine Qc hP g237_ok rfl rfl ?_;unfold g237;refine Xf rfl rfl (Xf rfl rfl (Xg rfl (Xj rfl rfl (Xg rfl (Xj (ld (v:=.agg (nmC x.n)) rfl (by rw[Qx]; rfl)) rfl ?_)))));refine Zh (c251 _ (Z3 hf)) rfl g251_ok.plain (nmRo _) ?_;refine Zh (c250 _ _) rfl g250_ok.plain rfl ?_;refine Zh (c253 _ _) rfl g253_ok.plain rfl ?_;refine Xx (by kernel_rfl) ?_;rw[QaK,XaL]
end Go.Ah.Tz
end
section
namespace Go.Ah.Tz
open Go.Proofs.Tryz (prog)
theorem ZH{σ:List ABlk}(l:List ABlk){c:Nat}(h:c<σ.length):hget (σ++l) c=hget σ c:=by
 have h1:=XaA h;exact XT (by rw[List.getElem?_append_left h]; exact h1)
theorem Qs{σ:List ABlk}{b c:Nat}(x:ABlk)(h:c<σ.length)(hc:c≠b):hget (σ.set b x) c=hget σ c:=by
 have h1:=XaA h;exact XT (by rw[List.getElem?_set_ne (λe=>hc e.symm)]; exact h1)
def Gr(σ0:List ABlk)(n:Nat)(rows:List (List AVal))(k:Nat)(v:AVal)(σ:List ABlk):Prop:=
 σ0.length≤σ.length∧(∀c,c<σ0.length→hget σ c=hget σ0 c)∧((k=0∧v=.nils∧rows=[])∨(0<k∧∃b,σ0.length≤b∧v=.sl b 0 k false∧hget σ b=.rows n rows∧rows.length=k))
theorem Gr.nil(n:Nat)(σ:List ABlk):Gr σ n [] 0 .nils σ:=⟨Nat.le_refl _,λ_ _=>rfl,.inl ⟨rfl,rfl,rfl⟩⟩
theorem Gr.grows{σ0 σ:List ABlk}{n k:Nat}{rows:List (List AVal)}{v:AVal}(h:Gr σ0 n rows k v σ):Grows n rows k v σ:=by
 rcases h.2.2 with h|⟨h1,b,_,h2,h3,h4⟩
 ·exact .inl h
 ·exact .inr ⟨h1,b,h2,h3,h4⟩
theorem Gr.old{σ0 σ:List ABlk}{n k:Nat}{rows:List (List AVal)}{v:AVal}(h:Gr σ0 n rows k v σ){c:Nat}{x:ABlk}(hx:hget σ0 c=x)(hd:x≠.dead):hget σ c=x:=by
 rw[h.2.1 c (Qy hx hd)]; exact hx
theorem Gr.base{σ0 σ:List ABlk}{l:List ABlk}{n k:Nat}{rows:List (List AVal)}{v:AVal}(h:Gr (σ0++l) n rows k v σ):Gr σ0 n rows k v σ:=by
 obtain⟨h1,h2,h3⟩:=h;simp only[List.length_append] at h1 h2 h3;refine⟨by omega,λc hc=>?_,?_⟩
 ·rw[h2 c (by omega),ZH l hc]
 ·rcases h3 with h3|⟨q1,b,q2,q3⟩
  ·exact .inl h3
  ·exact .inr ⟨q1,b,by omega,q3⟩
theorem Gr.put{σ0 σ:List ABlk}{n by_ k:Nat}{rows:List (List AVal)}{v:AVal}{z cs:List AVal}{x:AVal}(hg:Gr σ0 n rows k v σ)(hx:fill z [(0,n)] [x]=some cs)(hc:chunk n 1 cs=some [cs])(hr:cs.all AVal.cell=true)(hroom:(2*(k+1)+192)*by_≤2 ^ 48){K:AVal→List ABlk→Prop}
 (hK:∀v' σ',Gr σ0 n (rows++[cs]) (k+1) v' σ'→K v' σ'):VV.wr (Xi n 1 z [(0,n)] [x] σ) σ (λt σ=>VV.wr (Qi n by_ [v,t] σ) σ K):=by
 rw[Z2 _ _ _ _ _ cs hx hc];obtain⟨g1,g2,hg⟩:=hg;rcases hg with ⟨rfl,rfl,rfl⟩|⟨hk,b,hb0,rfl,hb,hl⟩
 ·rw[QaP _ n by_ σ cs hr (by simpa using hroom)];refine hK _ _ ⟨by simp; omega,λc hc=>?_,.inr ⟨by omega,_,?_,rfl,by have:=Yl (σ++[.rows n [cs]]) (.rows n [cs]); simpa using this,rfl⟩⟩
  ·rw[ZH _ (by simp; omega),ZH _ (by omega),g2 c hc]
  ·omega
 ·rw[Qba _ n by_ σ b k false rows cs hb hl hr hroom];refine hK _ _ ⟨by simp; omega,λc hc=>?_,.inr ⟨by omega,_,?_,rfl,?_,by simp[hl]⟩⟩
  ·rw[ZH _ (by simp; omega),ZH _ (by simp; omega),Qs _ (by omega) (by omega),g2 c hc]
  ·omega
  ·have:=Yl (σ.set b .dead++[.rows n [cs]]) (.rows n (rows++[cs]));simpa using this
inductive Pt where
 |ef (x:Ef)
 |nm (x:Nm)
 |cn (x:Cn)
inductive PtV:AVal→Pt→Prop
 |ef (x:Ef):PtV (.iface 272 (.agg [.rptr (efC x) 0])) (.ef x)
 |nm (row:List AVal) (j:Nat) (x:Nm):NmAt row j x→PtV (.iface 290 (.agg [.rptr row j])) (.nm x)
 |cn (row:List AVal) (j:Nat) (x:Cn):CnAt row j x→PtV (.iface 292 (.agg [.rptr row j])) (.cn x)
def Pt.kids:Pt→List Pt
 |.ef x=>(if cntOp x.op then [.nm x.n] else [])++(if x.op=8 then .cn x.c::(x.thn.map .ef++x.els.map .ef) else [])
 |.nm x=>x.kids.map .nm
 |.cn x=>x.nums.map .nm++x.kids.map .cn
def Pt.fit:Pt→Bool
 |.ef x=>efFit x
 |.nm x=>nmFit x
 |.cn x=>cnFit x
mutual
def nmP:Nm→List Pt
 |.mk op n who kids=>.nm (.mk op n who kids)::nmPs kids
def nmPs:List Nm→List Pt
 |[]=>[]
 |x::l=>nmP x++nmPs l
end
mutual
def cnP:Cn→List Pt
 |.mk op who name nums kids=>.cn (.mk op who name nums kids)::(nmPs nums++cnPs kids)
def cnPs:List Cn→List Pt
 |[]=>[]
 |x::l=>cnP x++cnPs l
end
mutual
def efP:Ef→List Pt
 |.mk op who n name c thn els=>.ef (.mk op who n name c thn els)::((if cntOp op then nmP n else [])++(if op=8 then cnP c++(efPs thn++efPs els) else []))
def efPs:List Ef→List Pt
 |[]=>[]
 |x::l=>efP x++efPs l
end
def flat:Pt→List Pt
 |.ef x=>efP x
 |.nm x=>nmP x
 |.cn x=>cnP x
def flats:List Pt→List Pt
 |[]=>[]
 |p::l=>flat p++flats l
theorem QS:∀a b,flats (a++b)=flats a++flats b
 |[],b=>rfl
 |p::a,b=>by simp[flats,QS a b]
theorem QaR:∀l,flats (l.map .nm)=nmPs l
 |[]=>rfl
 |x::l=>by simp[flats,QaR l,flat,nmPs]
theorem Xbn:∀l,flats (l.map .cn)=cnPs l
 |[]=>rfl
 |x::l=>by simp[flats,Xbn l,flat,cnPs]
theorem Zah:∀l,flats (l.map .ef)=efPs l
 |[]=>rfl
 |x::l=>by simp[flats,Zah l,flat,efPs]
theorem YbP(p:Pt):flat p=p::flats p.kids:=by
 cases p with
 |ef x=>
  obtain⟨op,who,n,name,c,thn,els⟩:=x;have e:Pt.kids (.ef (.mk op who n name c thn els))=(if cntOp op then [.nm n] else [])++(if op=8 then .cn c::(thn.map .ef++els.map .ef) else []):=rfl;rw[e,QS];simp only[flat,efP]
  congr 2
  ·by_cases h:cntOp op=true<;>simp[h,flats,flat]
  ·by_cases h:op=8<;>simp[h,flats,flat,QS,Zah]
 |nm x=>cases x; simp[flat,nmP,Pt.kids,Nm.kids,QaR]
 |cn x=>cases x; simp[flat,cnP,Pt.kids,Cn.nums,Cn.kids,QS,QaR,Xbn]
theorem Ybn(p:Pt):0<(flat p).length:=by rw[YbP]; simp
theorem Qaz:∀ {l:List Pt} {p:Pt},p∈l→(flat p).length≤(flats l).length
 |q::l,p,h=>by
  simp only[flats,List.length_append];rcases List.mem_cons.1 h with rfl|h
  ·omega
  ·have:=Qaz h; omega
theorem Xaz:∀l:List Pt,l.length≤(flats l).length
 |[]=>by simp
 |p::l=>by
  have:=Xaz l;have:=Ybn p;simp[flats]; omega
theorem Zct{p q:Pt}(h:p.fit=true)(hq:q∈p.kids):q.fit=true:=by
 cases p with
 |ef x=>
  simp only[Pt.kids,List.mem_append] at hq;rcases hq with hq|hq
  ·split at hq
   ·simp at hq; subst hq; exact Z3 h
   ·simp at hq
  ·split at hq
   ·simp only[List.mem_cons,List.mem_append,List.mem_map] at hq;rcases hq with rfl|⟨y,hy,rfl⟩|⟨y,hy,rfl⟩
    ·exact YY h
    ·exact YK (ZK h) hy
    ·exact YK (QJ h) hy
   ·simp at hq
 |nm x=>
  simp only[Pt.kids,List.mem_map] at hq;obtain⟨y,hy,rfl⟩:=hq;exact YH h hy
 |cn x=>
  simp only[Pt.kids,List.mem_append,List.mem_map] at hq;rcases hq with ⟨y,hy,rfl⟩|⟨y,hy,rfl⟩
  ·exact YW h hy
  ·exact ZW h hy
def runL{S:Type}(step:S→Pt→S×Bool):S→List Pt→S×Bool
 |s,[]=>(s,true)
 |s,p::l=>if (step s p).2=true then runL step (step s p).1 l else ((step s p).1,false)
theorem X0{S:Type}(step:S→Pt→S×Bool):∀(a:List Pt) (s:S) (b:List Pt),runL step s (a++b)=if (runL step s a).2=true then runL step (runL step s a).1 b else ((runL step s a).1,false)
 |[],s,b=>by simp[runL]
 |p::a,s,b=>by
  simp only[List.cons_append,runL];by_cases h:(step s p).2=true
  ·simp only[if_pos h]; exact X0 step a _ b
  ·simp[if_neg h]
def Bt(b:Nat)(σ σ':List ABlk):Prop:=σ.length≤σ'.length∧∀c,c<σ.length→c≠b→hget σ' c=hget σ c
theorem Bt.refl(b:Nat)(σ:List ABlk):Bt b σ σ:=⟨Nat.le_refl _,λ_ _ _=>rfl⟩
theorem Bt.trans{b:Nat}{x y z:List ABlk}(h:Bt b x y)(k:Bt b y z):Bt b x z:=⟨Nat.le_trans h.1 k.1,λc hc hb=>by rw[k.2 c (by have:=h.1; omega) hb,h.2 c hc hb]⟩
theorem Bt.old{b:Nat}{σ σ':List ABlk}(h:Bt b σ σ'){c:Nat}{x:ABlk}(hx:hget σ c=x)(hd:x≠.dead)(hc:c≠b):hget σ' c=x:=by
 rw[h.2 c (Qy hx hd) hc]; exact hx
theorem Bt.gr{σ σ':List ABlk}(b:Nat)(h1:σ.length≤σ'.length)(h:∀c,c<σ.length→hget σ' c=hget σ c):Bt b σ σ':=⟨h1,λc hc _=>h c hc⟩
def Clo{S:Type}(clo:AVal)(b:Nat)(enc:S→List AVal)(step:S→Pt→S×Bool):Prop:=
 ∀p v,PtV v p→∀s σ K,hget σ b=.box (enc s)→(∀σ',Bt b σ σ'→hget σ' b=.box (enc (step s p).1)→K (.bool (step s p).2) σ')→VV.call .callv [clo,v] σ K
inductive PtL:List AVal→List Pt→Prop
 |nil:PtL [] []
 |snoc (vs:List AVal) (ps:List Pt) (v:AVal) (p:Pt):PtL vs ps→PtV v p→PtL (vs++[v]) (ps++[p])
theorem PtL.length{vs:List AVal}{ps:List Pt}(h:PtL vs ps):vs.length=ps.length:=by
 induction h with
 |nil=>rfl
 |snoc vs ps v p h hv ih=>simp[ih]
theorem PtL.get{vs:List AVal}{ps:List Pt}(h:PtL vs ps):∀i (h1:i<vs.length) (h2:i<ps.length),PtV vs[i] ps[i]:=by
 induction h with
 |nil=>intro i h; simp at h
 |snoc vs ps v p h hv ih=>
  intro i h1 h2;have hl:=h.length;simp only[List.length_append,List.length_singleton] at h1 h2;by_cases hi:i<vs.length
  ·rw[List.getElem_append_left hi,List.getElem_append_left (by omega)]; exact ih i hi (by omega)
  ·have e1:i=vs.length:=by omega
   subst e1;have:ps[vs.length]?=none:=by rw[List.getElem?_eq_none (by omega)]
   simp[hl,hv]
def one(v:AVal):List AVal:=[v]
end Go.Ah.Tz
end
section
namespace Go.Ah.Tz
open Go.Proofs.Tryz (prog)
attribute [local irreducible] Ans.rd Ans.pu Ans.wr Ans.dr Ans.gr Ans.gw Ans.gl Ans.gd Ans.opt joinK W
set_option maxHeartbeats 2000000
def efPt(x:Ef):List AVal:=[.iface 272 (.agg [.rptr (efC x) 0])]
def nmPt(x:Nm):List AVal:=[.iface 290 (.agg [.rptr (nmC x) 0])]
def cnPt(x:Cn):List AVal:=[.iface 292 (.agg [.rptr (cnC x) 0])]
theorem ZcH{σ0 σ:List ABlk}{k:Nat}{rows:List (List AVal)}{v:AVal}(l:List Ef)(hl:k+l.length≤1000000000)(hg:Gr σ0 1 rows k v σ){K:List AVal→List ABlk→Prop}
 (hK:∀v' σ' w,Gr σ0 1 (rows++l.map efPt) (k+l.length) v' σ'→K [w,v'] σ') :
  VV.loop (λag v55 σ=>VV.rd (Yi .lss false [(h0 v55),iv l.length] σ) λt72_56=>VV.test t72_56 (
   VV.rd (Yc 14 [efV l,(h0 v55)] σ) λt77_57=>VV.rd (Ye [.nilp] [(0,1)] [t77_57] σ) λt78_58=>VV.rd (Yn 272 [t78_58] σ) λt79_59=>
   VV.wr (Xi 1 1 [.nili] [(0,1)] [t79_59] σ) σ λt80_60 σ=>VV.wr (Qi 1 16 [(h1 v55),t80_60] σ) σ λt81_61 σ=>
   VV.rd (Yi .add false [(h0 v55),(.int .i64 1)] σ) λt82_62=>ag [t82_62,t81_61] σ) (K v55 σ)) [(.int .i64 0),v] σ:=by
 refine Qk (ι:=Nat) (λi vs s=>∃v,vs=[iv i,v]∧i≤l.length∧Gr σ0 1 (rows++(l.take i).map efPt) (k+i) v s) (λi=>l.length-i) 0 ⟨v,rfl,by omega,by simpa using hg⟩ ?_;rintro i vs s again ⟨v,rfl,hi,hg⟩ hag;refine Za rfl (Qb (λh=>?_) (λh=>?_))
 ·have h:i<l.length:=by simpa using h
  refine Za (Yo _ efC _ _ _ l _ i h) (Za rfl (Za rfl ?_));refine hg.put (cs:=efPt l[i]) rfl rfl rfl (by omega) (λv' σ' hg'=>?_);refine Za (Zk ..) ?_;rw[Yg (n:=i) (by omega)];refine hag (i+1) _ _ (by omega) ⟨v',rfl,by omega,?_⟩;rw[←ZC _ _ _ h,←List.append_assoc]; exact hg'
 ·have h:i=l.length:=by simp at h; omega
  subst h;rw[List.take_length] at hg;exact hK _ _ _ hg
theorem efPtL{vs:List AVal}{ps:List Pt}(h:PtL vs ps):∀l:List Ef,PtL (vs++(l.map efPt).flatten) (ps++l.map .ef):=by
 intro l
 induction l generalizing vs ps with
 |nil=>simpa using h
 |cons x l ih=>
  have:=ih (PtL.snoc _ _ _ _ h (.ef x));simpa[efPt] using this
theorem nmPtL{vs:List AVal}{ps:List Pt}(h:PtL vs ps):∀l:List Nm,PtL (vs++(l.map nmPt).flatten) (ps++l.map .nm):=by
 intro l
 induction l generalizing vs ps with
 |nil=>simpa using h
 |cons x l ih=>
  have:=ih (PtL.snoc _ _ _ _ h (.nm (nmC x) 0 x (nmAt x)));simpa[nmPt] using this
theorem cnPtL{vs:List AVal}{ps:List Pt}(h:PtL vs ps):∀l:List Cn,PtL (vs++(l.map cnPt).flatten) (ps++l.map .cn):=by
 intro l
 induction l generalizing vs ps with
 |nil=>simpa using h
 |cons x l ih=>
  have:=ih (PtL.snoc _ _ _ _ h (.cn (cnC x) 0 x (cnAt x)));simpa[cnPt] using this
theorem Yav{α:Type}{f:α→List AVal}(h:∀x,∃v,f x=[v]):∀l:List α,l.map f=((l.map f).flatten).map one
 |[]=>rfl
 |x::l=>by
  obtain⟨v,hv⟩:=h x;have:=Yav h l;simp only[List.map_cons,List.flatten_cons,hv,List.map_append,List.map_nil,one];rw[←this]; rfl
theorem Zav(l:List Ef):l.map efPt=((l.map efPt).flatten).map one:=Yav (λ_=>⟨_,rfl⟩) l
theorem Ybr(l:List Nm):l.map nmPt=((l.map nmPt).flatten).map one:=Yav (λ_=>⟨_,rfl⟩) l
theorem Yb8(l:List Cn):l.map cnPt=((l.map cnPt).flatten).map one:=Yav (λ_=>⟨_,rfl⟩) l
theorem c208{S:Type}{enc:S→List AVal}{step:S→Pt→S×Bool}{clo:AVal}{b:Nat}(hc:Clo clo b enc step):∀(k:Nat) (p:Pt),(flat p).length≤k→p.fit=true→(flat p).length≤500000000→∀v,PtV v p→∀s σ K,hget σ b=.box (enc s) →
  (∀σ',Bt b σ σ'→hget σ' b=.box (enc (runL step s (flat p)).1)→K (.bool (runL step s (flat p)).2) σ')→g208 VV [v,clo] σ K
 |0,p,h,_,_=>by have:=Ybn p; omega
 |k+1,p,hk,hf,hN=>by
  intro v hv s σ K hb hK;rw[YbP] at hk hN hK;simp only[List.length_cons] at hk hN;have hkl:=Xaz p.kids;unfold g208;refine hc p v hv s σ _ hb (λσ1 t1 b1=>?_);simp only[runL] at hK;refine Za rfl (Qb (λh=>?_) (λh=>?_))
  ·have h:(step s p).2=false:=by simpa using h
   rw[h] at hK;exact hK σ1 t1 b1
  have h:(step s p).2=true:=by simpa using h
  rw[h,if_pos rfl] at hK;generalize (step s p).1=s1 at hK b1;refine Ql λk2 hk2=>?_;have kk:∀v2 σ2 vs,PtL vs p.kids→Gr σ1 1 (vs.map one) vs.length v2 σ2→k2 [v2] σ2:=by
   intro v2 σ2 vs hp hg;rw[hk2]; clear hk2 k2;have hlen:=hp.length;have hb2:=hg.old b1 (by simp);have t2:Bt b σ1 σ2:=⟨hg.1,λc hc _=>hg.2.1 c hc⟩;refine Za (hg.grows.len _) ?_;refine Qk (ι:=Nat) (λi ws σ3=>∃s',ws=[iv i]∧i≤p.kids.length∧hget σ3 b=.box (enc s')∧Bt b σ2 σ3∧runL step s1 (flats p.kids)=runL step s' (flats (p.kids.drop i))) (λi=>p.kids.length-i) 0 ⟨s1,rfl,by omega,hb2,Bt.refl _ _,by simp⟩ ?_;rintro i ws σ3 again ⟨s',rfl,hi,hb3,t3,hr⟩ hag;refine Za rfl (Qb (λh=>?_) (λh=>?_))
   ·have h:i<vs.length:=by simpa using h
    have h':i<p.kids.length:=by omega
    have hg3:Grows 1 (vs.map one) vs.length v2 σ3:=by
     rcases hg.2.2 with h|⟨q1,c,q2,q3,q4,q5⟩
     ·exact .inl h
     ·refine .inr ⟨q1,c,q3,?_,q5⟩;have hcb:c≠b:=by
       intro e; subst e;rw[hb2] at q4; cases q4
      exact t3.old q4 (by simp) hcb
    obtain⟨c,e1,hj,e2⟩:=hg3.at .i64 i h;refine Za e1 (Za (e2 false 1 vs[i] (by simp[one])) ?_);have hmem:p.kids[i]∈p.kids:=List.getElem_mem h';have hfl:=Qaz hmem;have hdr:p.kids.drop i=p.kids[i]::p.kids.drop (i+1):=YLD h';rw[hdr,flats,X0] at hr;refine QC hP rfl g208_ok rfl ?_;refine c208 hc k p.kids[i] (by omega) (Zct hf hmem) (by omega) _ (hp.get i h h') s' σ3 _ hb3 (λσ4 t4 b4=>?_);refine Za rfl (Qb (λh5=>?_) (λh5=>?_))
    ·have h5:(runL step s' (flat p.kids[i])).2=false:=by simpa using h5
     rw[h5] at hr;have:=hK σ4 ((t1.trans t2).trans (t3.trans t4)) (by rw[hr]; exact b4);rw[hr] at this; exact this
    ·have h5:(runL step s' (flat p.kids[i])).2=true:=by simpa using h5
     rw[h5,if_pos rfl] at hr;refine Za (Zk ..) ?_;rw[Yg (n:=i) (by omega)];exact hag (i+1) _ _ (by omega) ⟨_,rfl,by omega,b4,t3.trans t4,hr⟩
   ·have h:i=p.kids.length:=by simp at h; omega
    subst h;rw[List.drop_length,flats,runL] at hr;have:=hK σ3 ((t1.trans t2).trans t3) (by rw[hr]; exact hb3);rw[hr] at this; exact this
  clear hk2 hK hb hc;cases hv with
  |ef x=>
   refine Za rfl (Za rfl (Za rfl (Ze ?_)));refine Xz (row:=[.rptr (efC x) 0]) rfl rfl rfl ?_;have hB:=Yl σ1 (ABlk.box [.rptr (efC x) 0]);have hlt:σ1.length<(σ1++[ABlk.box [.rptr (efC x) 0]]).length:=by simp
   have kb:∀v2 σ2 vs,PtL vs (Pt.ef x).kids→Gr (σ1++[ABlk.box [.rptr (efC x) 0]]) 1 (vs.map one) vs.length v2 σ2→k2 [v2] σ2:=λv2 σ2 vs h1 h2=>kk v2 σ2 vs h1 h2.base;clear kk b1 t1;generalize σ1++[ABlk.box [.rptr (efC x) 0]]=τ at hB hlt kb ⊢;generalize σ1.length=c at hB hlt ⊢;refine Za rfl (Za (ld hB rfl) (Za rfl (Za rfl (Za (ldr (efLd0 _)) ?_))));refine Yd (c210 _) rfl g210_ok.plain rfl ?_;refine Ql λk14 hk14=>?_;have k1:∀v σ2 vs,PtL vs (if cntOp x.op then [.nm x.n] else [])→Gr τ 1 (vs.map one) vs.length v σ2→k14 [v] σ2:=by
    intro v σ2 vs hp hg;rw[hk14]; clear hk14 k14;have hB2:=hg.old hB (by simp);have hvl:vs.length≤1:=by rw[hp.length]; split<;>simp
    refine Za rfl (Za (ld hB2 rfl) (Za rfl (Za rfl (Za (ldr (efLd0 _)) (Za (Yf ..) ?_)))));refine Qb (λh=>?_) (λh=>?_);rotate_left
    ·have h:¬x.op=8:=by simpa using h
     refine kb _ _ vs ?_ hg;simp only[Pt.kids,if_neg h,List.append_nil]; exact hp
    have h:x.op=8:=by simpa using h
    have hkids:(Pt.ef x).kids=(if cntOp x.op then [.nm x.n] else [])++(.cn x.c::(x.thn.map .ef++x.els.map .ef)):=by simp only[Pt.kids,if_pos h]
    have hlen2:x.thn.length+x.els.length+1≤500000000:=by
     rw[hkids] at hkl;simp only[List.length_append,List.length_cons,List.length_map] at hkl;rw[hkids] at hN;omega
    refine Za rfl (Za (ld hB2 rfl) (Za rfl (Za rfl (Za rfl (Za rfl ?_)))));refine hg.put (cs:=[.iface 292 (.agg [.rptr (efC x) 7])]) rfl rfl rfl (by omega) (λv' σ' hg'=>?_);have hB3:=hg'.old hB (by simp);refine Za rfl (Za (ld hB3 rfl) (Za rfl (Za rfl (Za (ldr (Zp _)) ?_))));refine Za rfl (Za (ld hB3 rfl) (Za rfl (Za rfl (Za (ldr (Yp _)) ?_))));refine Za rfl ?_;refine YB 3 (Yj (Za rfl (Ze (Za rfl ?_))));refine Za (v:=iv x.thn.length) (rd:=[]) (by simp[Xh]) ?_;refine ZcH x.thn (by omega) hg' (λv3 σ3 w hg3=>?_);refine Za rfl (Yj (Za rfl (Ze (Za rfl ?_))));refine Za (v:=iv x.els.length) (rd:=[]) (by simp[Xh]) ?_;refine ZcH x.els (by omega) hg3 (λv4 σ4 w hg4=>?_);refine Za rfl (Yj (Za rfl (Yh ?_)));refine kb _ _ ((vs++[.iface 292 (.agg [.rptr (efC x) 7])])++(x.thn.map efPt).flatten++(x.els.map efPt).flatten) ?_ ?_
    ·rw[hkids];have:=efPtL (efPtL (PtL.snoc _ _ _ _ hp (.cn (efC x) 7 x.c (cnAt7 x))) x.thn) x.els;simpa using this
    ·have e1:((vs++[AVal.iface 292 (.agg [.rptr (efC x) 7])])++(x.thn.map efPt).flatten++(x.els.map efPt).flatten).map one=List.map one vs++[[AVal.iface 292 (.agg [.rptr (efC x) 7])]]++List.map efPt x.thn++List.map efPt x.els:=by
      rw[List.map_append,List.map_append,←Zav,←Zav,List.map_append]; rfl
     have e2:((vs++[AVal.iface 292 (.agg [.rptr (efC x) 7])])++(x.thn.map efPt).flatten++(x.els.map efPt).flatten).length=vs.length+1+x.thn.length+x.els.length:=by
      have l1:=congrArg List.length (Zav x.thn);have l2:=congrArg List.length (Zav x.els);simp only[List.length_map] at l1 l2;simp only[List.length_append,List.length_cons,List.length_nil,←l1,←l2]
     rw[e1,e2]; exact hg4
   clear hk14;refine Qb (λh=>?_) (λh=>?_)
   ·refine Za rfl (Za (ld hB rfl) (Za rfl (Za rfl (Za rfl (Za rfl ?_)))));refine(Gr.nil 1 τ).put (cs:=[.iface 290 (.agg [.rptr (efC x) 2])]) rfl rfl rfl (by omega) (λv' σ' hg'=>?_);refine k1 _ _ [.iface 290 (.agg [.rptr (efC x) 2])] ?_ hg';rw[if_pos h];exact PtL.snoc [] [] _ _ .nil (.nm (efC x) 2 x.n (nmAt2 x))
   ·refine k1 _ _ [] ?_ (Gr.nil 1 τ);rw[h]; exact .nil
  |nm row j x hx=>
   refine Za rfl (Za rfl (Za rfl (Yh ?_)));refine Za rfl (Za rfl (Za rfl (Ze ?_)));refine Xz (row:=[.rptr row j]) rfl rfl rfl ?_;have hB:=Yl σ1 (ABlk.box [.rptr row j]);have kb:∀v2 σ2 vs,PtL vs (Pt.nm x).kids→Gr (σ1++[ABlk.box [.rptr row j]]) 1 (vs.map one) vs.length v2 σ2→k2 [v2] σ2:=λv2 σ2 vs h1 h2=>kk v2 σ2 vs h1 h2.base;clear kk b1 t1;generalize σ1++[ABlk.box [.rptr row j]]=τ at hB kb ⊢;generalize σ1.length=c at hB ⊢;have hlen2:x.kids.length≤500000000:=by
    simp only[Pt.kids,List.length_map] at hkl hN; omega
   refine Za rfl (Za (ld hB rfl) (Za rfl (Za rfl (Za (ldr hx.h3) ?_))));refine Za (v:=iv x.kids.length) (rd:=[]) (by simp[Xh]) ?_;refine Qk (ι:=Nat) (λi vs s=>∃v,vs=[iv i,v]∧i≤x.kids.length∧Gr τ 1 ((x.kids.take i).map nmPt) i v s) (λi=>x.kids.length-i) 0 ⟨_,rfl,by omega,by simpa using Gr.nil 1 τ⟩ ?_;rintro i vs s again ⟨v,rfl,hi,hg⟩ hag;refine Za rfl (Qb (λh=>?_) (λh=>?_))
   ·have h:i<x.kids.length:=by simpa using h
    refine Za rfl (Za (ld (hg.old hB (by simp)) rfl) (Za rfl (Za rfl (Za (ldr hx.h3) ?_))));refine Za (Yo _ nmC _ _ _ x.kids _ i h) (Za rfl (Za rfl ?_));refine hg.put (cs:=nmPt x.kids[i]) rfl rfl rfl (by omega) (λv' σ' hg'=>?_);refine Za (Zk ..) ?_;rw[Yg (n:=i) (by omega)];refine hag (i+1) _ _ (by omega) ⟨v',rfl,by omega,?_⟩;rw[←ZC _ _ _ h]; exact hg'
   ·have h:i=x.kids.length:=by simp at h; omega
    subst h;rw[List.take_length] at hg;refine kb _ _ (x.kids.map nmPt).flatten ?_ ?_
    ·have:=nmPtL .nil x.kids;simpa[Pt.kids] using this
    ·have e1:=Ybr x.kids;have e2:=congrArg List.length e1;rw[←e1];simp only[List.length_map] at e2;rw[←e2]; exact hg
  |cn row j x hx=>
   refine Za rfl (Za rfl (Za rfl (Yh ?_)));refine Za rfl (Za rfl (Za rfl (Yh ?_)));refine Za rfl (Za rfl (Za rfl (Ze ?_)));refine Xz (row:=[.rptr row j]) rfl rfl rfl ?_;have hB:=Yl σ1 (ABlk.box [.rptr row j]);have kb:∀v2 σ2 vs,PtL vs (Pt.cn x).kids→Gr (σ1++[ABlk.box [.rptr row j]]) 1 (vs.map one) vs.length v2 σ2→k2 [v2] σ2:=λv2 σ2 vs h1 h2=>kk v2 σ2 vs h1 h2.base;clear kk b1 t1;generalize σ1++[ABlk.box [.rptr row j]]=τ at hB kb ⊢;generalize σ1.length=c at hB ⊢;have hlen2:x.nums.length+x.kids.length≤500000000:=by
    simp only[Pt.kids,List.length_map,List.length_append] at hkl hN; omega
   refine Za rfl (Za (ld hB rfl) (Za rfl (Za rfl (Za (ldr hx.h3) ?_))));refine Za (v:=iv x.nums.length) (rd:=[]) (by simp[Xh]) ?_;refine Qk (ι:=Nat) (λi vs s=>∃v,vs=[iv i,v]∧i≤x.nums.length∧Gr τ 1 ((x.nums.take i).map nmPt) i v s) (λi=>x.nums.length-i) 0 ⟨_,rfl,by omega,by simpa using Gr.nil 1 τ⟩ ?_;rintro i vs s again ⟨v,rfl,hi,hg⟩ hag;refine Za rfl (Qb (λh=>?_) (λh=>?_))
   ·have h:i<x.nums.length:=by simpa using h
    refine Za rfl (Za (ld (hg.old hB (by simp)) rfl) (Za rfl (Za rfl (Za (ldr hx.h3) ?_))));refine Za (Yo _ nmC _ _ _ x.nums _ i h) (Za rfl (Za rfl ?_));refine hg.put (cs:=nmPt x.nums[i]) rfl rfl rfl (by omega) (λv' σ' hg'=>?_);refine Za (Zk ..) ?_;rw[Yg (n:=i) (by omega)];refine hag (i+1) _ _ (by omega) ⟨v',rfl,by omega,?_⟩;rw[←ZC _ _ _ h]; exact hg'
   have h:i=x.nums.length:=by simp at h; omega
   subst h;rw[List.take_length] at hg;clear hag;refine Za rfl (Za (ld (hg.old hB (by simp)) rfl) (Za rfl (Za rfl (Za (ldr hx.h4) ?_))));refine Za (v:=iv x.kids.length) (rd:=[]) (by simp[Xh]) ?_;refine Qk (ι:=Nat) (λi vs s=>∃v,vs=[iv i,v]∧i≤x.kids.length∧Gr τ 1 (x.nums.map nmPt++(x.kids.take i).map cnPt) (x.nums.length+i) v s) (λi=>x.kids.length-i) 0 ⟨_,rfl,by omega,by simpa[h1,hdV,tlV] using hg⟩ ?_;clear hg;rintro i vs s again ⟨v,rfl,hi,hg⟩ hag;refine Za rfl (Qb (λh=>?_) (λh=>?_))
   ·have h:i<x.kids.length:=by simpa using h
    refine Za rfl (Za (ld (hg.old hB (by simp)) rfl) (Za rfl (Za rfl (Za (ldr hx.h4) ?_))));refine Za (Yo _ cnC _ _ _ x.kids _ i h) (Za rfl (Za rfl ?_));refine hg.put (cs:=cnPt x.kids[i]) rfl rfl rfl (by omega) (λv' σ' hg'=>?_);refine Za (Zk ..) ?_;rw[Yg (n:=i) (by omega)];refine hag (i+1) _ _ (by omega) ⟨v',rfl,by omega,?_⟩;rw[←ZC _ _ _ h,←List.append_assoc]; exact hg'
   ·have h:i=x.kids.length:=by simp at h; omega
    subst h;rw[List.take_length] at hg;refine kb _ _ ((x.nums.map nmPt).flatten++(x.kids.map cnPt).flatten) ?_ ?_
    ·have:=cnPtL (nmPtL .nil x.nums) x.kids;simpa[Pt.kids] using this
    ·have e1:((x.nums.map nmPt).flatten++(x.kids.map cnPt).flatten).map one=x.nums.map nmPt++x.kids.map cnPt:=by
      rw[List.map_append,←Ybr,←Yb8]
     have e2:=congrArg List.length e1;simp only[List.length_map,List.length_append] at e2;rw[e1,List.length_append,e2]; exact hg
end Go.Ah.Tz
end
section
namespace Go.Ah.Tz
open Go.Proofs.Tryz (prog)
mutual
theorem Xct:∀x:Nm,nmW x=min ((nmP x).length:Int) 1073741824
 |.mk op n who kids=>by
  simp only[nmW,nmP,List.length_cons]
  rw[ZbT 1 kids (by omega) (by omega)]; omega
theorem ZbT:∀(n:Int) (l:List Nm),0≤n→n≤1073741824→nmWs n l=min (n+((nmPs l).length:Int)) 1073741824
 |n,[],h1,h2=>by simp only[nmWs,nmPs,List.length_nil]; omega
 |n,x::l,h1,h2=>by
  simp only[nmWs,nmPs,List.length_append]
  rw[Xct x,ZbT _ l (by omega) (by omega)]; omega
end
mutual
theorem QcC:∀x:Cn,cnW x=min ((cnP x).length:Int) 1073741824
 |.mk op who name nums kids=>by
  simp only[cnW,cnP,List.length_cons,List.length_append]
  rw[ZbT 1 nums (by omega) (by omega),Qcj _ kids (by omega) (by omega)]; omega
theorem Qcj:∀(n:Int) (l:List Cn),0≤n→n≤1073741824→cnWs n l=min (n+((cnPs l).length:Int)) 1073741824
 |n,[],h1,h2=>by simp only[cnWs,cnPs,List.length_nil]; omega
 |n,x::l,h1,h2=>by
  simp only[cnWs,cnPs,List.length_append]
  rw[QcC x,Qcj _ l (by omega) (by omega)]; omega
end
mutual
theorem efW_P:∀(n:Int) (x:Ef),0≤n→n≤1073741824→efW n x=min (n+((efP x).length:Int)) 1073741824
 |n,.mk op who nn name c thn els,h1,h2=>by
  simp only[efW,efP,List.length_cons,List.length_append]
  rw[Xct nn,QcC c,YaK 0 thn (by omega) (by omega),YaK 0 els (by omega) (by omega)]
  generalize cntOp op=cb
  by_cases h:op=8
  ·simp only[if_pos h]
   cases cb<;>simp only[if_true,if_false,List.length_append,List.length_nil,Bool.false_eq_true]<;>omega
  ·simp only[if_neg h]
   cases cb<;>simp only[if_true,if_false,List.length_nil,Bool.false_eq_true]<;>omega
theorem YaK:∀(n:Int) (l:List Ef),0≤n→n≤1073741824→efsW n l=min (n+((efPs l).length:Int)) 1073741824
 |n,[],h1,h2=>by simp only[efsW,efPs,List.length_nil]; omega
 |n,x::l,h1,h2=>by
  simp only[efsW,efPs,List.length_append]
  rw[efW_P n x h1 h2,YaK _ l (by omega) (by omega)]; omega
end
def cdP(c:Cd):List Pt:=efPs c.played++(efPs c.dead++efPs c.dawn)
theorem ZcC(c:Cd):cdW c=min ((cdP c).length:Int) 1073741824:=by
 rw[cdW,YaK 0 _ (by omega) (by omega),YaK 0 _ (by omega) (by omega),YaK 0 _ (by omega) (by omega),cdP];simp only[List.length_append]; omega
attribute [local irreducible] Ans.rd Ans.pu Ans.wr Ans.dr Ans.gr Ans.gw Ans.gl Ans.gd Ans.opt joinK W
set_option maxHeartbeats 1000000
theorem QbO(l:List Ef):efPs l=flats (l.map .ef):=(Zah l).symm
theorem XbR{S:Type}{enc:S→List AVal}{step:S→Pt→S×Bool}{clo:AVal}{b:Nat}(hc:Clo clo b enc step)(l:List Ef)(hf:lsFit l=true)(hN:(efPs l).length≤500000000){s:S}{σ:List ABlk}(hb:hget σ b=.box (enc s)){R:List ABlk→Prop}{K:List AVal→List ABlk→Prop}
 (hR:∀σ',Bt b σ σ'→hget σ' b=.box (enc (runL step s (efPs l)).1)→(runL step s (efPs l)).2=false→R σ')(hK:∀w σ',Bt b σ σ'→hget σ' b=.box (enc (runL step s (efPs l)).1)→(runL step s (efPs l)).2=true→K w σ') :
  VV.loop (λag15 v16 σ=>VV.rd (Yi .lss false [(h0 v16),iv l.length] σ) λt26_17=>VV.test t26_17 (
   VV.rd (Yc 14 [efV l,(h0 v16)] σ) λt30_18=>VV.rd (Ye [.nilp] [(0,1)] [t30_18] σ) λt31_19=>VV.rd (Yn 272 [t31_19] σ) λt32_20=>
   VV.call (.call 208) [t32_20,clo] σ λt34_21 σ=>VV.rd (Qo .not [t34_21] σ) λt35_22=>VV.test t35_22 (R σ) (
   VV.rd (Yi .add false [(h0 v16),(.int .i64 1)] σ) λt36_23=>ag15 [t36_23] σ)) (K v16 σ)) [(.int .i64 0)] σ:=by
 have hl:=Xaz (l.map .ef);rw[Zah,List.length_map] at hl;rw[QbO] at hR hK;refine Qk (ι:=Nat) (λi ws σ3=>∃s',ws=[iv i]∧i≤l.length∧hget σ3 b=.box (enc s')∧Bt b σ σ3∧runL step s (flats (l.map .ef))=runL step s' (flats ((l.drop i).map .ef))) (λi=>l.length-i) 0 ⟨s,rfl,by omega,hb,Bt.refl _ _,by simp⟩ ?_;rintro i ws σ3 again ⟨s',rfl,hi,hb3,t3,hr⟩ hag;refine Za rfl (Qb (λh=>?_) (λh=>?_))
 ·have h:i<l.length:=by simpa using h
  refine Za (Yo _ efC _ _ _ l _ i h) (Za rfl (Za rfl ?_));have hdr:l.drop i=l[i]::l.drop (i+1):=YLD h;rw[hdr,List.map_cons,flats,X0] at hr;refine QC hP rfl g208_ok rfl ?_;have hm:=Qaz (l:=l.map .ef) (p:=.ef l[i]) (List.mem_map_of_mem (List.getElem_mem h));rw[Zah] at hm;refine c208 hc _ (.ef l[i]) (Nat.le_refl _) (YK hf (List.getElem_mem h)) (by omega) _ (.ef _) s' σ3 _ hb3 (λσ4 t4 b4=>?_);refine Za rfl (Qb (λh5=>?_) (λh5=>?_))
  ·have h5:(runL step s' (flat (.ef l[i]))).2=false:=by simpa using h5
   rw[h5] at hr;exact hR σ4 (t3.trans t4) (by rw[hr]; exact b4) (by rw[hr]; rfl)
  ·have h5:(runL step s' (flat (.ef l[i]))).2=true:=by simpa using h5
   rw[h5,if_pos rfl] at hr;refine Za (Zk ..) ?_;rw[Yg (n:=i) (by omega)];exact hag (i+1) _ _ (by omega) ⟨_,rfl,by omega,b4,t3.trans t4,hr⟩
 ·have h:i=l.length:=by simp at h; omega
  subst h;rw[List.drop_length,List.map_nil,flats,runL] at hr;exact hK _ σ3 t3 (by rw[hr]; exact hb3) (by rw[hr])
theorem c155{S:Type}{enc:S→List AVal}{step:S→Pt→S×Bool}{clo:AVal}{b:Nat}(hc:Clo clo b enc step)(c:Cd)(f1:lsFit c.played=true)(f2:lsFit c.dead=true)(f3:lsFit c.dawn=true)(hN:(cdP c).length≤500000000){s:S}{σ:List ABlk}{cb:Nat}(hcb:hget σ cb=.box (cdC c))(hb:hget σ b=.box (enc s)){K:AVal→List ABlk→Prop}
 (hK:∀σ',Bt b σ σ'→hget σ' b=.box (enc (runL step s (cdP c)).1)→K (.tup []) σ'):g155 VV [.bptr cb 0,clo] σ K:=by
 simp only[cdP,List.length_append] at hN;simp only[cdP,X0] at hK;unfold g155;refine Za rfl (Za rfl (Za (ld hcb rfl) (Za rfl (Za rfl (Za (ld hcb rfl) (Za rfl (Za rfl (Za (ld hcb rfl) (Za rfl ?_)))))))));refine YB 4 (Yj (Za rfl (Ze (Za rfl ?_))));refine Za (v:=iv c.played.length) (rd:=[]) (by simp[Xh]) ?_;refine XbR hc c.played f1 (by omega) hb (λσ1 t1 b1 h1=>?_) (λw σ1 t1 b1 h1=>?_)
 ·rw[h1] at hK; exact hK σ1 t1 b1
 rw[h1,if_pos rfl] at hK;refine Za rfl (Yj (Za rfl (Ze (Za rfl ?_))));refine Za (v:=iv c.dead.length) (rd:=[]) (by simp[Xh]) ?_;refine XbR hc c.dead f2 (by omega) b1 (λσ2 t2 b2 h2=>?_) (λw σ2 t2 b2 h2=>?_)
 ·rw[h2] at hK; exact hK σ2 (t1.trans t2) b2
 rw[h2,if_pos rfl] at hK;refine Za rfl (Yj (Za rfl (Ze (Za rfl ?_))));refine Za (v:=iv c.dawn.length) (rd:=[]) (by simp[Xh]) ?_;refine XbR hc c.dawn f3 (by omega) b2 (λσ3 t3 b3 h3=>?_) (λw σ3 t3 b3 h3=>?_)
 ·exact hK σ3 ((t1.trans t2).trans t3) b3
 refine Za rfl (Yj (Za rfl (Yh ?_)));exact hK σ3 ((t1.trans t2).trans t3) b3
def cntS(n:Int)(_:Pt):Int×Bool:=(IntKind.i64.wrap (n+1),decide (IntKind.i64.wrap (n+1)<1073741824))
theorem YbV:∀(l:List Pt) (n:Int),0≤n→n+(l.length:Int)<1073741824→runL cntS n l=(n+(l.length:Int),true)
 |[],n,_,_=>by simp[runL]
 |p::l,n,h1,h2=>by
  simp only[List.length_cons] at h2;have hw:IntKind.i64.wrap (n+1)=n+1:=wrapI (by omega) (by omega);simp only[runL,cntS,hw];rw[if_pos (by simp; omega),YbV l (n+1) (by omega) (by omega),List.length_cons]
  congr 1; omega
theorem clo156(b:Nat):Clo (.func (.func 156) [] [.bptr b 0]) b (λn:Int=>[iv n]) cntS:=by
 intro p v hv s σ K hb hK;refine QC hP rfl g156_ok rfl ?_;show g156 VV [v,.bptr b 0] σ K;unfold g156;have hlt:=Qy hb (by simp);refine Za (ld hb rfl) (Za (Zk ..) (Xf (stv hb rfl rfl rfl) (Yz _ hlt) ?_));have hb2:hget (σ.set b (.box [iv (IntKind.i64.wrap (s+1))])) b=.box [iv (IntKind.i64.wrap (s+1))]:=Qt _ hlt;refine Za (ld hb2 rfl) (Za (Q2 ..) ?_);exact hK _ ⟨by simp,λc hc hne=>Qs _ hc hne⟩ hb2
theorem c124(c:Cd)(f1:lsFit c.played=true)(f2:lsFit c.dead=true)(f3:lsFit c.dawn=true)(hN:(cdP c).length≤500000000):PC 124 [.agg (cdC c)] (iv (cdW c)):=by
 refine Qc hP g124_ok rfl rfl ?_;unfold g124;refine Xf rfl rfl (Xf rfl rfl (Xf rfl rfl (Za rfl ?_)));refine QC hP rfl g155_ok rfl ?_;refine c155 (clo156 1) c f1 f2 f3 hN (s:=0) rfl rfl (λσ' _ hb=>?_);rw[YbV _ 0 (by omega) (by omega)] at hb;refine Za (ld hb rfl) ?_;rw[ZcC]
 congr 1; omega
end Go.Ah.Tz
end
section
namespace Go.Ah.Tz
open Go.Proofs.Tryz (prog)
attribute [local irreducible] Ans.rd Ans.pu Ans.wr Ans.dr Ans.gr Ans.gw Ans.gl Ans.gd Ans.opt joinK W
set_option maxHeartbeats 1000000
theorem XbN(σ:List ABlk)(x:Ef):Xk [.agg (efC x)] σ=.ok (.bptr σ.length 0) [] [(σ.length,.box (efC x))]:=by rw[YD]; rfl
def idxF{α:Type}(f:α→Bool):List α→Int→Int
 |[],_=>-1
 |x::l,n=>if f x=true then n else idxF f l (n+1)
theorem XaS{α:Type}(f:α→Bool):∀(l:List α) (n:Int),0≤n→decide (0≤idxF f l n)=l.any f
 |[],_,_=>rfl
 |x::l,n,h=>by
  by_cases hf:f x=true
  ·have e:idxF f (x::l) n=n:=if_pos hf;rw[e,List.any_cons,hf]; simpa using h
  ·have e:idxF f (x::l) n=idxF f l (n+1):=if_neg hf;have hf':f x=false:=by simpa using hf
   rw[e,XaS f l (n+1) (by omega),List.any_cons,hf']; rfl
theorem Zbu{P:Program}{GL:Globs}{c d:Bool}{K:AVal→Prop}{r1:SRes}{f2 f3 f4:AVal→SRes}{σ:List ABlk}{v1 v2 v3:AVal}{q1 q2 q3 q4:List Nat}(h1:r1=.ok v1 q1 [])(h2:f2 v1=.ok v2 q2 [])(h3:f3 v2=.ok v3 q3 [])(h4:f4 v3=.ok (.bool d) q4 [])(hK:K (.bool (c&&d))) :
  (W P GL).gr (.bool c) true (λk=>(W P GL).rd r1 k) λt1=>(W P GL).gr (.bool c) true (λk=>(W P GL).rd (f2 t1) k) λt2=>(W P GL).gr (.bool c) true (λk=>(W P GL).rd (f3 t2) k) λt3=>(W P GL).gr (.bool c) true (λk=>(W P GL).rd (f4 t3) k) λt4=>(W P GL).rd (Zn [.bool c,t4,.bool false] σ) K:=by
 cases c with
 |true=>exact Xa (Za h1 (Xa (Za h2 (Xa (Za h3 (Xa (Za h4 (Za rfl hK))))))))
 |false=>exact Yb rfl (Yb rfl (Yb rfl (Yb rfl (Za rfl hK))))
theorem c255(l:List Ef)(hl:l.length≤big)(id:FuncId)(fs cs:List AVal)(hp:Ym prog id=true)(f:Ef→Bool)(hc:∀x∈l,PC id (fs++[.agg (efC x)]++cs) (.bool (f x)))(hr:∀x,roL (fs++[.agg (efC x)]++cs)=true) :
  PC 255 [efV l,.func (.func id) fs cs] (iv (idxF f l 0)):=by
 rw[bigE] at hl;refine Qc hP g255_ok rfl rfl ?_;unfold g255;refine Za (v:=iv l.length) (rd:=[]) (by simp[Xh]) ?_;refine Qk (ι:=Nat) (λi vs s=>vs=[iv i]∧i≤l.length∧idxF f l 0=idxF f (l.drop i) i) (λi=>l.length-i) 0 ⟨rfl,by omega,by simp⟩ ?_;rintro i vs s again ⟨rfl,hi,hr'⟩ hag;refine Za rfl (Qb (λh=>?_) (λh=>?_))
 ·have h:i<l.length:=by simpa using h
  refine Za (Yo _ efC _ _ _ l _ i h) (Za (ldr (efLd _)) ?_);refine Yd (hc _ (List.getElem_mem h)) rfl hp (hr _) ?_;rw[YLD h,idxF] at hr';refine Qb (λh2=>?_) (λh2=>?_)
  ·rw[if_pos h2] at hr'; rw[hr']; rfl
  ·rw[if_neg (by rw[h2]; simp)] at hr';refine Za (Zk ..) ?_;rw[Yg (n:=i) (by omega)];exact hag (i+1) _ _ (by omega) ⟨rfl,by omega,by rw[hr']; push_cast; rfl⟩
 ·have h:i=l.length:=by simp at h; omega
  subst h;rw[List.drop_length,idxF] at hr';rw[hr']
theorem c239(l:List Ef)(hl:l.length≤big)(id:FuncId)(fs cs:List AVal)(hp:Ym prog id=true)(f:Ef→Bool)(hc:∀x∈l,PC id (fs++[.agg (efC x)]++cs) (.bool (f x)))(hr:∀x,roL (fs++[.agg (efC x)]++cs)=true)(hr2:roL [efV l,.func (.func id) fs cs]=true) :
  PC 239 [efV l,.func (.func id) fs cs] (.bool (l.any f)):=by
 refine Qc hP g239_ok rfl rfl ?_;unfold g239;refine Yd (c255 l hl id fs cs hp f hc hr) rfl g255_ok.plain hr2 ?_;refine Za (XaG ..) ?_;rw[XaS f l 0 (by omega)]
def asksR(u:Int):List AVal:=[.func (.func 235) [.agg [iv8 u]] [],.func (.func 235) [.agg [iv8 u]] [],.func (.func 235) [.agg [iv8 u]] [],.func (.func 235) [.agg [iv8 u]] [],.func (.func 236) [.agg [iv8 u]] [],.func (.func 237) [.agg [iv8 u]] [],.func (.func 236) [.agg [iv8 u]] [],.func (.func 236) [.agg [iv8 u]] [],.func (.func 238) [.agg [iv8 u]] []]
theorem c240(u:Int)(x:Ef)(hf:efFit x=true)(h238:x.op=8→PC 238 [.agg [iv8 u],.agg (efC x)] (.bool (efL u x))):PC 240 [.agg (efC x),.rptr [iv8 u] 0,.rptr (asksR u) 0] (.bool (!efL u x)):=by
 have hop:=Qb6 hf;refine Qc hP g240_ok rfl rfl ?_;unfold g240;refine Xf (XbN _ _) rfl (Za rfl (Za rfl (Za rfl (Za (ld rfl (efLd0 x)) (Za (XaG ..) ?_)))));have p235:x.op=0∨x.op=1∨x.op=2∨x.op=3→PC 235 [.agg [iv8 u],.agg (efC x)] (.bool (efL u x)):=by
  intro h;have e:efL u x=decide (joinL u (nmL x.n)=0):=by rw[Ya0,if_neg (by omega),if_neg (by omega),if_pos h]
  rw[e]; exact c235 u x hf
 have p236:¬(x.op=0∨x.op=1∨x.op=2∨x.op=3)→x.op≠5→x.op≠8→PC 236 [.agg [iv8 u],.agg (efC x)] (.bool (efL u x)):=by
  intro h h5 h8;have e:efL u x=decide (lbN u=0):=by rw[Ya0,if_neg h5,if_neg h8,if_neg h,XaL]
  rw[e]; exact c236 u x
 have p237:x.op=5→PC 237 [.agg [iv8 u],.agg (efC x)] (.bool (efL u x)):=by
  intro h;have e:efL u x=QaK (joinL u (nmL x.n)) 1:=by rw[Ya0,if_pos h]
  rw[e]; exact c237 u x hf
 refine Zbu rfl (ld rfl (efLd0 x)) rfl (Q2 ..) ?_;rw[wrapI (n:=x.op) (by omega) (by omega)];refine Ql λk11 hk11=>?_;have hk:∀id,Ym prog id=true→PC id [.agg [iv8 u],.agg (efC x)] (.bool (efL u x))→k11 [.func (.func id) [.agg [iv8 u]] []] [.box (efC x)]:=by
  intro id hp hc;rw[hk11];refine Za (ld rfl (efLd x)) ?_;refine Yd hc rfl hp (efRo u x) ?_;exact Za rfl rfl
 clear hk11;refine Qb (λh=>?_) (λh=>?_)
 ·have h:0≤x.op∧x.op<9:=by simpa using h
  refine Za rfl (Za (ld rfl (efLd0 x)) ?_);have hcs:x.op=0∨x.op=1∨x.op=2∨x.op=3∨x.op=4∨x.op=5∨x.op=6∨x.op=7∨x.op=8:=by omega
  rcases hcs with e|e|e|e|e|e|e|e|e
  ·have q:=p235 (by omega); rw[e]; exact Za rfl (Za rfl (hk _ g235_ok.plain q))
  ·have q:=p235 (by omega); rw[e]; exact Za rfl (Za rfl (hk _ g235_ok.plain q))
  ·have q:=p235 (by omega); rw[e]; exact Za rfl (Za rfl (hk _ g235_ok.plain q))
  ·have q:=p235 (by omega); rw[e]; exact Za rfl (Za rfl (hk _ g235_ok.plain q))
  ·have q:=p236 (by omega) (by omega) (by omega); rw[e]; exact Za rfl (Za rfl (hk _ g236_ok.plain q))
  ·have q:=p237 e; rw[e]; exact Za rfl (Za rfl (hk _ g237_ok.plain q))
  ·have q:=p236 (by omega) (by omega) (by omega); rw[e]; exact Za rfl (Za rfl (hk _ g236_ok.plain q))
  ·have q:=p236 (by omega) (by omega) (by omega); rw[e]; exact Za rfl (Za rfl (hk _ g236_ok.plain q))
  ·have q:=h238 e; rw[e]; exact Za rfl (Za rfl (hk _ g238_ok.plain q))
 ·have h:0≤x.op→¬x.op<9:=by simpa using h
  exact hk _ g236_ok.plain (p236 (by omega) (by omega) (by omega))
theorem c238(u:Int)(x:Ef)(hf:efFit x=true)(h1:∀u',PC 222 [.agg [iv8 u'],efV x.thn] (.bool (efsL u' x.thn)))(h2:∀u',PC 222 [.agg [iv8 u'],efV x.els] (.bool (efsL u' x.els))) :
  PC 238 [.agg [iv8 u],.agg (efC x)] (.bool (efsL (joinL u (cnL x.c)) x.thn&&efsL (joinL u (cnL x.c)) x.els)):=by
 refine Qc hP g238_ok rfl rfl ?_;unfold g238;refine Xf rfl rfl (Xf (XbN _ _) rfl (Xg rfl (Xj rfl rfl (Xg rfl (Xj (ld rfl (efLdC x)) rfl ?_)))));refine Zh (c254 _ (YY hf)) rfl g254_ok.plain (cnRo _) ?_;refine Zh (c250 _ _) rfl g250_ok.plain rfl ?_;refine Xg rfl (Xj rfl rfl (Xj rfl rfl (Xx (by kernel_rfl) ?_)));refine Za rfl (Za rfl (Za (ld rfl (Zp x)) ?_));refine Yd (h1 _) rfl g222_ok.plain rfl ?_;rcases YBE (efsL (joinL u (cnL x.c)) x.thn) with h|h
 ·rw[h];refine Xa (Za rfl (Xa (Za rfl (Xa (Za (ld rfl (Yp x)) (Zb ?_))))));refine Yd (h2 _) rfl g222_ok.plain rfl ?_;exact Za rfl rfl
 ·rw[h];exact Yb rfl (Yb rfl (Yb rfl (Zc rfl (Za rfl rfl))))
theorem Qbm(u:Int):∀l,efsL u l=l.all (efL u)
 |[]=>rfl
 |x::l=>by simp[efsL,Qbm u l]
theorem c222':∀(k:Nat) (l:List Ef) (u:Int),SizeOf.sizeOf l≤k→lsFit l=true→PC 222 [.agg [iv8 u],efV l] (.bool (efsL u l))
 |0,l,_,h,_=>by cases l<;>simp at h
 |k+1,l,u,hk,hf=>by
  refine Qc hP g222_ok rfl rfl ?_;unfold g222;refine Xf rfl rfl (Za rfl (Za rfl (Za rfl (Za rfl (Za rfl (Za rfl (Za rfl (Za rfl (Za rfl (Za rfl (Za rfl (Za rfl (Za rfl (Za rfl (Za rfl (Za rfl (Za rfl (Za rfl (Za rfl (Xf rfl rfl (Xf rfl rfl (Za rfl ?_))))))))))))))))))))));have hc:∀x∈l,PC 240 ([]++[.agg (efC x)]++[.rptr [iv8 u] 0,.rptr (asksR u) 0]) (.bool (!efL u x)):=by
   intro x hx;have hfx:=YK hf hx;refine c240 u x hfx (λh8=>?_);have e:efL u x=(efsL (joinL u (cnL x.c)) x.thn&&efsL (joinL u (cnL x.c)) x.els):=by rw[Ya0,if_neg (by omega),if_pos h8]
   have hs:=List.sizeOf_lt_of_mem hx;have hs2:=Z6 x;rw[e];exact c238 u x hfx (λu'=>c222' k x.thn u' (by omega) (ZK hfx)) (λu'=>c222' k x.els u' (by omega) (QJ hfx))
  refine Xo (c239 l (QA hf) 240 [] [.rptr [iv8 u] 0,.rptr (asksR u) 0] g240_ok.plain (λx=>!efL u x) hc (λx=>by rw[YD]; rfl) rfl) rfl g239_ok.plain rfl rfl ?_;refine Za rfl ?_;rw[Qbm]
  congr 1
  simp only[List.any_eq_not_all_not,Bool.not_not]
theorem c222(l:List Ef)(u:Int)(hf:lsFit l=true):PC 222 [.agg [iv8 u],efV l] (.bool (efsL u l)):=c222' _ l u (Nat.le_refl _) hf
theorem c182(cs:List Cd)(hf:QF cs=true):PC 182 [cdV cs] (.agg [iv (cdsL cs).1,iv (cdsL cs).2]):=by
 simp only[QF,Bool.and_eq_true,decide_eq_true_eq] at hf;obtain⟨f0,f1⟩:=hf;rw[bigE] at f0;refine Qc hP g182_ok rfl rfl ?_;unfold g182;refine Xf rfl rfl (Za rfl (Xf rfl rfl (Xf rfl rfl ?_)));refine Za (v:=iv cs.length) (rd:=[]) (by simp[Xh]) ?_;refine Qk (ι:=Nat) (λi vs σ=>vs=[iv i]∧hget σ 0=.box [iv 0,iv 0]∧hget σ 1=.box [iv8 0]∧0<σ.length∧i≤cs.length∧cdsL cs=cdsL (cs.drop i)) (λi=>cs.length-i) 0 ⟨rfl,rfl,rfl,by simp,by omega,by simp⟩ ?_;rintro i vs σ again ⟨rfl,hz,ho,hz2,hi,hu⟩ hag;refine Za rfl ?_;refine Qb (λh=>?_) (λh=>?_);rotate_left
 ·have h:i=cs.length:=by simp at h; omega
  subst h;rw[List.drop_length,cdsL] at hu;refine Za rfl (Xf (stv hz rfl rfl rfl) (Yz _ hz2) (Zt (QG hz2 rfl) ?_));rw[hu]
 have hi:i<cs.length:=by simpa using h
 have hdr:cs.drop i=cs[i]::cs.drop (i+1):=by rw[YLD hi]
 have hix:=λ(s:List ABlk)=>Yo s cdC false false 12 cs .i64 i hi;have hfi:=List.all_eq_true.1 f1 _ (List.getElem_mem hi);generalize cs[i]=c at hdr hix hfi;rw[hdr,cdsL] at hu;simp only[cdFit,Bool.and_eq_true,decide_eq_true_eq] at hfi;obtain⟨g0,g1,g2,g3⟩:=hfi;refine Za (hix _) (Za (ldr (cdLd _)) (Xz (row:=cdC c) (row':=cdC c) rfl rfl rfl ?_));have hB0:=Yl σ (ABlk.box (cdC c));have hz':hget (σ++[ABlk.box (cdC c)]) 0=.box [iv 0,iv 0]:=Qm _ hz (by simp);have ho':hget (σ++[ABlk.box (cdC c)]) 1=.box [iv8 0]:=Qm _ ho (by simp);have hz2':0<(σ++[ABlk.box (cdC c)]).length:=by simp
 generalize σ++[ABlk.box (cdC c)]=base at hB0 hz' ho' hz2' ⊢;generalize σ.length=b at hB0 ⊢;clear hz hz2 ho;refine Za (ld ho' rfl) (Za rfl (Za (ld hB0 rfl) ?_));refine Yd (c222 _ 0 g1) rfl g222_ok.plain rfl ?_;refine Za rfl ?_;apply cutF (cdL c=false)
 ·intro hR;have good:cdL c=true→VV.rd (Yi .add false [iv i,(.int .i64 1)] base) λt10_26=>again [t10_26] base:=by
   intro hc;rw[hc,if_pos rfl] at hu;refine Za (Zk ..) ?_;rw[Yg (n:=i) (by omega)];exact hag (i+1) _ _ (by omega) ⟨rfl,hz',ho',hz2',by omega,hu⟩
  rcases YBE (!efsL 0 c.played) with a1|a1
  ·rw[a1];repeat first|refine Xa ?_|refine Zb ?_|refine Yb rfl ?_|refine Zc rfl ?_|refine Zd rfl ?_|refine Xd rfl ?_|refine Za (ld hB0 rfl) ?_|refine Za rfl ?_
   refine Ze (hR ?_);have a1:efsL 0 c.played=false:=by simpa using a1
   simp[cdL,a1]
  rw[a1];repeat first|refine Xa ?_|refine Zb ?_|refine Za (ld ho' rfl) ?_|refine Za (ld hB0 rfl) ?_|refine Za rfl ?_
  have a1:efsL 0 c.played=true:=by simpa using a1
  refine Yd (c222 _ 0 g2) rfl g222_ok.plain rfl ?_;repeat first|refine Xa ?_|refine Zb ?_|refine Za (ld ho' rfl) ?_|refine Za (ld hB0 rfl) ?_|refine Za rfl ?_
  rcases YBE (!efsL 0 c.dead) with a2|a2
  ·rw[a2];repeat first|refine Xa ?_|refine Zb ?_|refine Yb rfl ?_|refine Zc rfl ?_|refine Zd rfl ?_|refine Xd rfl ?_|refine Za (ld hB0 rfl) ?_|refine Za rfl ?_
   refine Ze (hR ?_);have a2:efsL 0 c.dead=false:=by simpa using a2
   simp[cdL,a2]
  rw[a2];repeat first|refine Xa ?_|refine Zb ?_|refine Za (ld ho' rfl) ?_|refine Za (ld hB0 rfl) ?_|refine Za rfl ?_
  have a2:efsL 0 c.dead=true:=by simpa using a2
  refine Yd (c222 _ 0 g3) rfl g222_ok.plain rfl ?_;repeat first|refine Xa ?_|refine Zb ?_|refine Za (ld hB0 rfl) ?_|refine Za rfl ?_
  refine Qb (λa3=>hR ?_) (λa3=>good ?_)
  ·have a3:efsL 0 c.dawn=false:=by simpa using a3
   simp[cdL,a3]
  ·have a3:efsL 0 c.dawn=true:=by simpa using a3
   simp[cdL,a1,a2,a3]
 intro hc;rw[hc] at hu
 replace hu:cdsL cs=(140,c.pl):=hu
 refine Za rfl (Za (ld hB0 rfl) (Za rfl (Xf (stv hz' rfl rfl rfl) (Yz _ hz2') (Zt (QG hz2' rfl) ?_))));rw[hu]
theorem c259(l:List Cd)(hl:l.length≤big)(id:FuncId)(fs cs:List AVal)(hp:Ym prog id=true)(f:Cd→Bool)(hc:∀x∈l,PC id (fs++[.agg (cdC x)]++cs) (.bool (f x)))(hr:∀x,roL (fs++[.agg (cdC x)]++cs)=true) :
  PC 259 [cdV l,.func (.func id) fs cs] (iv (idxF f l 0)):=by
 rw[bigE] at hl;refine Qc hP g259_ok rfl rfl ?_;unfold g259;refine Za (v:=iv l.length) (rd:=[]) (by simp[Xh]) ?_;refine Qk (ι:=Nat) (λi vs s=>vs=[iv i]∧i≤l.length∧idxF f l 0=idxF f (l.drop i) i) (λi=>l.length-i) 0 ⟨rfl,by omega,by simp⟩ ?_;rintro i vs s again ⟨rfl,hi,hr'⟩ hag;refine Za rfl (Qb (λh=>?_) (λh=>?_))
 ·have h:i<l.length:=by simpa using h
  refine Za (Yo _ cdC _ _ _ l _ i h) (Za (ldr (cdLd _)) ?_);refine Yd (hc _ (List.getElem_mem h)) rfl hp (hr _) ?_;rw[YLD h,idxF] at hr';refine Qb (λh2=>?_) (λh2=>?_)
  ·rw[if_pos h2] at hr'; rw[hr']; rfl
  ·rw[if_neg (by rw[h2]; simp)] at hr';refine Za (Zk ..) ?_;rw[Yg (n:=i) (by omega)];exact hag (i+1) _ _ (by omega) ⟨rfl,by omega,by rw[hr']; push_cast; rfl⟩
 ·have h:i=l.length:=by simp at h; omega
  subst h;rw[List.drop_length,idxF] at hr';rw[hr']
theorem QbP(t:Tx):∀(l:List Cd) (n:Nat),((fndI n l t).2=true∧n≤(fndI n l t).1∧(fndI n l t).1<n+l.length∧idxF (λc=>c.name==t) l (n:Int)=((fndI n l t).1:Int))∨((fndI n l t)=(0,false)∧idxF (λc=>c.name==t) l (n:Int) = -1)
 |[],n=>.inr ⟨rfl,rfl⟩
 |c::l,n=>by
  by_cases h:c.name==t
  ·left;have e1:fndI n (c::l) t=(n,true):=if_pos h;have e2:idxF (λc:Cd=>c.name==t) (c::l) (n:Int)=n:=if_pos h;rw[e1,e2]; simp
  ·have e1:fndI n (c::l) t=fndI (n+1) l t:=if_neg h;have e2:idxF (λc:Cd=>c.name==t) (c::l) (n:Int)=idxF (λc:Cd=>c.name==t) l ((n+1:Nat):Int):=by
    have:=(if_neg h:(if (c.name==t)=true then (n:Int) else idxF (λc:Cd=>c.name==t) l ((n:Int)+1))=_)
    push_cast; exact this
   rw[e1,e2];rcases QbP t l (n+1) with ⟨q1,q2,q3,q4⟩|q
   ·exact .inl ⟨q1,by omega,by simp; omega,q4⟩
   ·exact .inr q
theorem c244(c:Cd)(t:Tx):PC 244 [.agg (cdC c),.rptr [.str t] 0] (.bool (c.name==t)):=by
 refine Qc hP g244_ok rfl rfl ?_;unfold g244;exact Xf rfl rfl (Za rfl (Za (ld rfl rfl) (Za rfl (Za rfl rfl))))
theorem c243(l:List Cd)(hl:l.length≤big)(t:Tx)(x:ABlk)(K:AVal→List ABlk→Prop)(hK:∀cs σ,cs.all AVal.cell=true→cs.length=12→K (.tup [.agg cs,iv (fndI 0 l t).1,.bool (fndI 0 l t).2]) ([x,.box [.str t]]++σ)) :
  g243 VV [cdV l,.func (.func 244) [] [.bptr 1 0]] [x,.box [.str t]] K:=by
 have hc:=c259 l hl 244 [] [.rptr [.str t] 0] g244_ok.plain (λc=>c.name==t) (λx _=>c244 x t) (λx=>rfl);unfold g243;refine Xf rfl rfl ?_;refine Xo hc rfl g259_ok.plain rfl rfl ?_;clear hc;rcases QbP t l 0 with ⟨q1,q2,q3,q4⟩|⟨q1,q4⟩
 ·rw[Nat.zero_add] at q3;have q4:idxF (λc=>c.name==t) l 0=((fndI 0 l t).1:Int):=q4;rw[q4];rw[q1] at hK;generalize (fndI 0 l t).1=i at q2 q3 hK ⊢;refine Za (Q2 ..) ?_;rw[decide_eq_false (by omega)];refine Yh (Za (Yo _ cdC _ _ _ l _ i q3) (Za (ldr (cdLd _)) (Xf rfl rfl (Zt rfl ?_))));exact hK (cdC l[i]) _ rfl rfl
 ·have q4:idxF (λc=>c.name==t) l 0 = -1:=q4;rw[q4];rw[q1] at hK;refine Za rfl ?_;refine Ze (Za rfl (Xf rfl rfl (Zt rfl ?_)));exact hK [.str [],.bool false,iv 0,iv 0,iv 0,iv 0,iv 0,iv 0,.nils,.nils,.nils,iv 0] _ rfl rfl
theorem Qcq(cs:List AVal)(h:cs.all AVal.cell=true):cellsOf (.agg cs)=some cs:=by simp[cellsOf,h]
theorem ZaP{α:Type}:∀(a b:List α),a.length=b.length→splice 0 a b=some a
 |[],[],_=>rfl
 |x::a,y::b,h=>by simp only[splice,ZaP a b (by simpa using h)]
theorem c224(b:Bk)(hl:b.cards.length≤big)(t:Tx):PC 224 [bkV b,.str t] (.tup [iv (fndI 0 b.cards t).1,.bool (fndI 0 b.cards t).2]):=by
 refine Qc hP g224_ok rfl rfl ?_;unfold g224;refine Xf rfl rfl (Xf rfl rfl (Za rfl (Za rfl (Za rfl ?_))));refine QC hP rfl g243_ok rfl (c243 b.cards hl t _ _ (λcs σ h1 h2=>?_));refine Za rfl (Za rfl (Za rfl ?_));refine Xz (row:=cs) (row':=cs) (Qcq cs h1) (by rw[h2]; rfl) (ZaP _ _ (by rw[h2]; rfl)) ?_;rfl
theorem QbY{P:Program}{GL:Globs}{c d:Bool}{K:AVal→Prop}{r1:SRes}{σ:List ABlk}(h1:r1=.ok (.bool d) [] [])(hK:K (.bool (c&&d))) :
  (W P GL).gr (.bool c) true (λk=>(W P GL).rd r1 k) λt1=>(W P GL).rd (Zn [.bool c,t1,.bool false] σ) K:=by
 cases c with
 |true=>exact Xa (Za h1 (Za rfl hK))
 |false=>exact Yb rfl (Za rfl hK)
theorem YbZ{P:Program}{GL:Globs}{c d:Bool}{K:AVal→Prop}{r1 r2:SRes}{f3:AVal→AVal→SRes}{f4:AVal→SRes}{σ:List ABlk}{v1 v2 v3:AVal}{q1 q2 q3 q4:List Nat}(h1:r1=.ok v1 q1 [])(h2:r2=.ok v2 q2 [])(h3:f3 v1 v2=.ok v3 q3 [])(h4:f4 v3=.ok (.bool d) q4 [])(hK:K (.bool (c&&d))) :
  (W P GL).gr (.bool c) true (λk=>(W P GL).rd r1 k) λt1=>(W P GL).gr (.bool c) true (λk=>(W P GL).rd r2 k) λt2=>(W P GL).gr (.bool c) true (λk=>(W P GL).rd (f3 t1 t2) k) λt3=>(W P GL).gr (.bool c) true (λk=>(W P GL).rd (f4 t3) k) λt4=>(W P GL).rd (Zn [.bool c,t4,.bool false] σ) K:=by
 cases c with
 |true=>exact Xa (Za h1 (Xa (Za h2 (Xa (Za h3 (Xa (Za h4 (Za rfl hK))))))))
 |false=>exact Yb rfl (Yb rfl (Yb rfl (Yb rfl (Za rfl hK))))
theorem XbZ{P:Program}{GL:Globs}{c d:Bool}{K:AVal→Prop}{r1 r3:SRes}{f2 f4:AVal→SRes}{f5:AVal→AVal→SRes}{σ:List ABlk}{v1 v2 v3 v4:AVal}{q1 q2 q3 q4 q5:List Nat}(h1:r1=.ok v1 q1 [])(h2:f2 v1=.ok v2 q2 [])(h3:r3=.ok v3 q3 [])(h4:f4 v3=.ok v4 q4 [])(h5:f5 v2 v4=.ok (.bool d) q5 [])(hK:K (.bool (c&&d))) :
  (W P GL).gr (.bool c) true (λk=>(W P GL).rd r1 k) λt1=>(W P GL).gr (.bool c) true (λk=>(W P GL).rd (f2 t1) k) λt2=>(W P GL).gr (.bool c) true (λk=>(W P GL).rd r3 k) λt3=>(W P GL).gr (.bool c) true (λk=>(W P GL).rd (f4 t3) k) λt4=>(W P GL).gr (.bool c) true (λk=>(W P GL).rd (f5 t2 t4) k) λt5=>(W P GL).rd (Zn [.bool c,t5,.bool false] σ) K:=by
 cases c with
 |true=>exact Xa (Za h1 (Xa (Za h2 (Xa (Za h3 (Xa (Za h4 (Xa (Za h5 (Za rfl hK))))))))))
 |false=>exact Yb rfl (Yb rfl (Yb rfl (Yb rfl (Yb rfl (Za rfl hK)))))
theorem QbZ{P:Program}{GL:Globs}{c d:Bool}{K:AVal→Prop}{r1 r2:SRes}{f3:AVal→SRes}{f4:AVal→AVal→SRes}{f5:AVal→SRes}{σ:List ABlk}{v1 v2 v3 v4:AVal}{q1 q2 q3 q4 q5:List Nat}(h1:r1=.ok v1 q1 [])(h2:r2=.ok v2 q2 [])(h3:f3 v2=.ok v3 q3 [])(h4:f4 v1 v3=.ok v4 q4 [])(h5:f5 v4=.ok (.bool d) q5 [])(hK:K (.bool (c&&d))) :
  (W P GL).gr (.bool c) true (λk=>(W P GL).rd r1 k) λt1=>(W P GL).gr (.bool c) true (λk=>(W P GL).rd r2 k) λt2=>(W P GL).gr (.bool c) true (λk=>(W P GL).rd (f3 t2) k) λt3=>(W P GL).gr (.bool c) true (λk=>(W P GL).rd (f4 t1 t3) k) λt4=>(W P GL).gr (.bool c) true (λk=>(W P GL).rd (f5 t4) k) λt5=>(W P GL).rd (Zn [.bool c,t5,.bool false] σ) K:=by
 cases c with
 |true=>exact Xa (Za h1 (Xa (Za h2 (Xa (Za h3 (Xa (Za h4 (Xa (Za h5 (Za rfl hK))))))))))
 |false=>exact Yb rfl (Yb rfl (Yb rfl (Yb rfl (Yb rfl (Za rfl hK)))))
theorem ZbZ{P:Program}{GL:Globs}{c d:Bool}{K:List ABlk→AVal→Prop}{r1:SRes}{f2:AVal→SRes}{f3:AVal→(AVal→List ABlk→Prop)→Prop}{g:List ABlk→List ABlk}{σ:List ABlk}{v1 v2:AVal}{q1 q2:List Nat}(h1:r1=.ok v1 q1 [])(h2:f2 v1=.ok v2 q2 [])(h3:∀k:AVal→List ABlk→Prop,k (.bool d) σ→f3 v2 k)(hK:K σ (.bool (c&&d))) :
  (W P GL).gr (.bool c) true (λk=>(W P GL).rd r1 k) λt1=>(W P GL).gr (.bool c) true (λk=>(W P GL).rd (f2 t1) k) λt2=>(W P GL).gw (.bool c) true (λk=>f3 t2 k) σ λt3 σ'=>(W P GL).rd (Zn [.bool c,t3,.bool false] (g σ')) (K σ'):=by
 cases c with
 |true=>exact Xa (Za h1 (Xa (Za h2 (Zb (h3 _ (Za rfl hK))))))
 |false=>exact Yb rfl (Yb rfl (Zc rfl (Za rfl hK)))
def Old(σ σ':List ABlk):Prop:=σ.length≤σ'.length∧∀c,c<σ.length→hget σ' c=hget σ c
theorem Old.trans{a b c:List ABlk}(h:Old a b)(k:Old b c):Old a c:=⟨Nat.le_trans h.1 k.1,λi hi=>by rw[k.2 i (by have:=h.1; omega),h.2 i hi]⟩
theorem Old.app(σ l:List ABlk):Old σ (σ++l):=⟨by simp,λ_ h=>ZH l h⟩
theorem Old.get{σ σ':List ABlk}(h:Old σ σ'){c:Nat}{x:ABlk}(hx:hget σ c=x)(hd:x≠.dead):hget σ' c=x:=by
 rw[h.2 c (Qy hx hd)]; exact hx
theorem Bt.past{σ σ':List ABlk}{x:ABlk}(h:Bt σ.length (σ++[x]) σ'):Old σ σ':=by
 obtain⟨h1,h2⟩:=h;simp only[List.length_append,List.length_singleton] at h1 h2;exact⟨by omega,λc hc=>by rw[h2 c (by omega) (by omega),ZH _ hc]⟩
def SeenT(m:List (Tx×Bool))(l:List Tx):Prop:=∀t,(tlook t m).getD false=l.any λd=>d==t
theorem SeenT.nil:SeenT [] []:=λt=>by simp[tlook]
theorem SeenT.put{m:List (Tx×Bool)}{l:List Tx}(h:SeenT m l)(c:Tx):SeenT (tput c true m) (l++[c]):=by
 intro t;rw[ZP,List.any_append,←h t];by_cases h2:t==c
 ·have e:t=c:=by simpa using h2
  simp[e]
 ·have h3:(c==t)=false:=by
   rw[Bool.eq_false_iff]; intro h; apply h2; simp at h; simp[h]
  rw[if_neg h2]; simp[h3]
theorem QbT{α:Type}(l:List α)(f:α→Bool):(!l.any f)=l.all λx=>!f x:=by
 induction l with
 |nil=>rfl
 |cons x l ih=>simp[←ih]
theorem Zcm(b:Bk)(hc:b.cards.length≤big)(l:List Tx)(hl:l.length≤big)(ok:Bool){σ:List ABlk}(h0':hget σ 0=.box [cdV b.cards,foV b.formats]){K:List AVal→List ABlk→Prop}
 (hK:∀w σ',Old σ σ'→K [w,.bool (ok&&nmsGo b.cards [] l)] σ') :
  VV.loop (λag56 v57 τ=>VV.rd (Yi .lss false [(h0 v57),iv l.length] τ) λt76_58=>VV.test t76_58 (
   VV.rd (Yc 1 [txV l,(h0 v57)] τ) λt77_59=>VV.rd (Xc false 1 [t77_59] τ) λt78_60=>VV.rd (Xc true 2 [.bptr 0 0] τ) λt80_61=>
   VV.call (.call 224) [t80_61,t78_60] τ λt82_62 τ=>VV.rd (Qd 0 [t82_62] τ) λt83_63=>VV.rd (Qd 1 [t82_62] τ) λt84_64=>
   VV.gr (h1 v57) true (λk=>VV.rd (Qh [t84_64] τ) k) λt87_65=>VV.rd (Zn [(h1 v57),t87_65,(.bool false)] τ) λt88_66=>
   VV.gr t88_66 true (λk=>VV.rd (Qh [.map σ.length] τ) k) λt90_67=>VV.gr t88_66 true (λk=>VV.rd (Qh [t78_60] τ) k) λt91_68=>
   VV.gr t88_66 true (λk=>VV.rd (Qq true false (.bool false) [t90_67,t91_68] τ) k) λt92_69=>VV.gr t88_66 true (λk=>VV.rd (Qo .not [t92_69] τ) k) λt93_70=>
   VV.rd (Zn [t88_66,t93_70,(.bool false)] τ) λt94_71=>VV.wr (Yy true [.map σ.length,t78_60,(.bool true)] τ) τ λ_ τ=>
   VV.rd (Yi .add false [(h0 v57),(.int .i64 1)] τ) λt97_72=>ag56 [t97_72,t94_71] τ) (K v57 τ)) [(.int .i64 0),.bool ok] (σ ++ [.map []]):=by
 rw[bigE] at hl;have hnew:hget (σ++[.map []]) σ.length=.map (mpE []):=Yl _ _;have hlen:σ.length<(σ++[ABlk.map []]).length:=by simp
 refine Qk (ι:=Nat) (λi vs s=>∃ok' m,vs=[iv i,.bool ok']∧i≤l.length∧hget s σ.length=.map (mpE m)∧SeenT m (l.take i)∧Bt σ.length (σ++[.map []]) s∧(ok&&nmsGo b.cards [] l)=(ok'&&nmsGo b.cards (l.take i) (l.drop i))) (λi=>l.length-i) 0 ⟨ok,[],rfl,by omega,hnew,by simpa using SeenT.nil,Bt.refl _ _,by simp⟩ ?_;rintro i vs s again ⟨ok',m,rfl,hi,hm,hse,hbt,hr⟩ hag;have h0'':hget s 0=.box [cdV b.cards,foV b.formats]:=hbt.past.get h0' (by simp);refine Za rfl (Qb (λh=>?_) (λh=>?_))
 ·have h:i<l.length:=by simpa using h
  refine Za (Yo _ txC _ _ _ l _ i h) (Za (ldr (txLd _)) (Za (ld h0'' rfl) ?_));refine Yd (c224 b hc _) rfl g224_ok.plain rfl ?_;refine Za rfl (Za rfl (QbY rfl ?_));refine YbZ rfl rfl (XaR hm _) rfl ?_;refine Xf (QaJ hm _ _) (Yz _ (Qy hm (by simp))) (Za (Zk ..) ?_);rw[Yg (n:=i) (by omega)];have hml:=Qy hm (by simp);refine hag (i+1) _ _ (by omega) ⟨_,_,rfl,by omega,Qt _ hml,by rw[Zu _ _ h]; exact hse.put _,hbt.trans ⟨by simp,λc hc hne=>Qs _ hc hne⟩,?_⟩;rw[hr,YLD h,nmsGo,Zu _ _ h,hse,QbT];simp only[Bool.and_assoc]
 ·have h:i=l.length:=by simp at h; omega
  subst h;rw[List.drop_length,nmsGo,Bool.and_true] at hr;have:=hK (iv (l.length:Int)) s hbt.past;rw[hr] at this; exact this
def SeenF(m:List (Tx×Bool))(l:List Fo):Prop:=∀t,(tlook t m).getD false=l.any λd=>d.name==t
theorem SeenF.put{m:List (Tx×Bool)}{l:List Fo}(h:SeenF m l)(c:Fo):SeenF (tput c.name true m) (l++[c]):=by
 intro t;rw[ZP,List.any_append,←h t];by_cases h2:t==c.name
 ·have e:t=c.name:=by simpa using h2
  simp[e]
 ·have h3:(c.name==t)=false:=by
   rw[Bool.eq_false_iff]; intro h; apply h2; simp at h; simp[h]
  rw[if_neg h2]; simp[h3]
theorem c184(b:Bk)(hf:bkFit b=true):PC 184 [bkV b] (.agg [iv (fmtGo b [] b.formats).1,iv (fmtGo b [] b.formats).2]):=by
 simp only[bkFit,QF,Bool.and_eq_true,decide_eq_true_eq] at hf;obtain⟨⟨fc,_⟩,fl,fa⟩:=hf;have fl':=fl;rw[bigE] at fl';refine Qc hP g184_ok rfl rfl ?_;unfold g184;refine Xf rfl rfl (Xf rfl rfl (Xf rfl rfl (Za rfl (Za rfl ?_))));refine Za (v:=iv b.formats.length) (rd:=[]) (by simp[Xh]) ?_;refine Qk (ι:=Nat) (λi vs σ=>∃m,vs=[iv i]∧i≤b.formats.length∧hget σ 0=.box [cdV b.cards,foV b.formats]∧hget σ 1=.box [iv 0,iv 0]∧hget σ 2=.map (mpE m)∧SeenF m (b.formats.take i)∧fmtGo b [] b.formats=fmtGo b (b.formats.take i) (b.formats.drop i)) (λi=>b.formats.length-i) 0 ⟨[],rfl,by omega,rfl,rfl,rfl,λt=>by simp[tlook],by simp⟩ ?_;rintro i vs σ again ⟨m,rfl,hi,hb0,hb1,hb2,hse,hr⟩ hag;refine Za rfl (Qb (λh=>?_) (λh=>?_));rotate_left
 ·have h:i=b.formats.length:=by simp at h; omega
  subst h;rw[List.drop_length,fmtGo] at hr;refine Za rfl (Xf (stv hb1 rfl rfl rfl) (Yz _ (Qy hb1 (by simp))) (Zt (QG (Qy hb1 (by simp)) rfl) ?_));rw[hr]
 have h:i<b.formats.length:=by simpa using h
 have hix:=λ(s:List ABlk)=>Yo s foC false false 7 b.formats .i64 i h;have hfo:=List.all_eq_true.1 fa _ (List.getElem_mem h);have htk:=Zu _ _ h;rw[YLD h,fmtGo] at hr;generalize b.formats[i]=f at hix hfo htk hr;simp only[foFit,Bool.and_eq_true,decide_eq_true_eq] at hfo;obtain⟨fo1,fo2,fo3⟩:=hfo;refine Za (hix _) (Za (ldr (foLd f)) (Xz (row:=foC f) (row':=foC f) rfl rfl rfl ?_));have hB:=Yl σ (ABlk.box (foC f));have hb0':hget (σ++[ABlk.box (foC f)]) 0=.box [cdV b.cards,foV b.formats]:=Qm _ hb0 (by simp);have hb1':hget (σ++[ABlk.box (foC f)]) 1=.box [iv 0,iv 0]:=Qm _ hb1 (by simp);have hb2':hget (σ++[ABlk.box (foC f)]) 2=.map (mpE m):=Qm _ hb2 (by simp);generalize σ++[ABlk.box (foC f)]=τ at hB hb0' hb1' hb2' ⊢;generalize σ.length=c at hB ⊢;clear hb0 hb1 hb2;refine Za (Q2 ..) ?_;refine ZbZ (g:=λs=>s) (σ:=τ) (d:=nameOk f.name) rfl (ld hB rfl) (λk hk=>Yd (c223 _ fo1) rfl g223_ok.plain rfl hk) ?_;refine QbZ rfl rfl (ld hB rfl) (XaR hb2' _) rfl ?_;refine X8 rfl (ld hB rfl) (XaG ..) ?_;refine XbZ rfl (ld hB rfl) rfl (ld hB rfl) (Zb6 ..) ?_;refine X8 rfl (ld hB rfl) (Zb6 ..) ?_;refine X8 rfl (ld hB rfl) (XaG ..) ?_;refine X8 rfl (ld hB rfl) (Zb6 ..) ?_;refine Za rfl (Za (ld hB rfl) (Za rfl (Za (ld hB rfl) (Za rfl ?_))));refine YB 3 (Yj (Za rfl (Ze (Za rfl (Xf rfl (QL _ _) ?_)))));refine Za (v:=iv f.banned.length) (rd:=[]) (by simp[Xh]) ?_;refine Zcm b fc f.banned fo2 _ hb0' (λw τ2 o2=>?_);refine Za rfl (Yj (Za rfl (Ze (Za rfl (Xf rfl (QL _ _) ?_)))));refine Za (v:=iv f.single.length) (rd:=[]) (by simp[Xh]) ?_;refine Zcm b fc f.single fo3 _ (o2.get hb0' (by simp)) (λw τ3 o3=>?_);have o:=o2.trans o3;refine Za rfl (Yj (Za rfl (Yh ?_)));have hok:((((((((((decide ((i:Int)<240)&&nameOk f.name) && !(tlook f.name m).getD false)&&decide (0≤f.least))&&decide (f.least≤f.most))&&decide (f.most≤60))&&decide (0≤f.copies))&&decide (f.copies≤999))&&nmsGo b.cards [] f.banned)&&nmsGo b.cards [] f.single))=fmtOk b (b.formats.take i) f:=by
  have hti:(b.formats.take i).length=i:=by rw[List.length_take]; omega
  have e:decide ((i:Int)<240)=decide (i<240):=by congr 1; simp; omega
  rw[fmtOk,hti,hse,e];generalize (List.take i b.formats).any (λg=>g.name==f.name)=x1;generalize decide (i<240)=x2;generalize nameOk f.name=x3;cases x1<;>cases x2<;>cases x3<;>simp[Bool.and_assoc]
 have hb1'':=o.get hb1' (by simp);have hb2'':=o.get hb2' (by simp);have hB'':=o.get hB (by simp);have hb0'':=o.get hb0' (by simp);refine Za (v:=.bool (!fmtOk b (b.formats.take i) f)) (rd:=[]) (by rw[←hok]; rfl) ?_;refine Qb (λh2=>?_) (λh2=>?_)
 ·have h2:fmtOk b (b.formats.take i) f=false:=by simpa using h2
  rw[h2,if_neg (by simp)] at hr;refine Za rfl (Za (ld hB'' rfl) (Za rfl (Xf (stv hb1'' rfl rfl rfl) (Yz _ (Qy hb1'' (by simp))) (Zt (QG (Qy hb1'' (by simp)) rfl) ?_))));rw[hr]
 ·have h2:fmtOk b (b.formats.take i) f=true:=by simpa using h2
  rw[h2,if_pos rfl] at hr;refine Za rfl (Za (ld hB'' rfl) (Xf (QaJ hb2'' _ _) (Yz _ (Qy hb2'' (by simp))) (Za (Zk ..) ?_)));rw[Yg (n:=i) (by omega)];refine hag (i+1) _ _ (by omega) ⟨_,rfl,by omega,?_,?_,Qt _ (Qy hb2'' (by simp)),by rw[htk]; exact hse.put f,by rw[htk]; exact hr⟩
  ·exact Xv hb0'' (by simp) (by omega)
  ·exact Xv hb1'' (by simp) (by omega)
def Yw(l:List Cd):Prop:=∀c∈l,(cdP c).length≤500000000
theorem c180'(cs:List Cd)(hf:QF cs=true)(hs:Yw cs):PC 180 [cdV cs] (.agg [iv (cdsChk cs).1,iv (cdsChk cs).2]):=by
 refine c180 cs hf (λm hm c hc=>?_);have hfc:cdFit c=true:=by
  simp only[QF,Bool.and_eq_true] at hf;exact List.all_eq_true.1 hf.2 c hc
 have hfc':=hfc;simp only[cdFit,Bool.and_eq_true,decide_eq_true_eq] at hfc';obtain⟨q0,q1,q2,q3⟩:=hfc';exact c221 m cs hm c hfc (c223 _ q0) (c124 c q1 q2 q3 (hs c hc))
theorem c143(b:Bk)(hf:bkFit b=true)(hs:Yw b.cards):PC 143 [bkV b] (.agg [iv (bkR b).1,iv (bkR b).2]):=by
 have hf':=hf;simp only[bkFit,Bool.and_eq_true] at hf';have hcf:=hf'.1;have p179:PC 179 [.rptr [cdV b.cards,foV b.formats] 0] (.agg [iv (cdsChk b.cards).1,iv (cdsChk b.cards).2]):=by
  refine Qc hP g179_ok rfl rfl ?_;unfold g179;refine Xf rfl rfl (Za rfl (Za rfl ?_));refine Yd (c180' _ hcf hs) rfl g180_ok.plain rfl ?_;exact Xf rfl rfl (Zt rfl rfl)
 have p181:PC 181 [.rptr [cdV b.cards,foV b.formats] 0] (.agg [iv (cdsL b.cards).1,iv (cdsL b.cards).2]):=by
  refine Qc hP g181_ok rfl rfl ?_;unfold g181;refine Xf rfl rfl (Za rfl (Za rfl ?_));refine Yd (c182 _ hcf) rfl g182_ok.plain rfl ?_;exact Xf rfl rfl (Zt rfl rfl)
 have p183:PC 183 [.rptr [cdV b.cards,foV b.formats] 0] (.agg [iv (fmtGo b [] b.formats).1,iv (fmtGo b [] b.formats).2]):=by
  refine Qc hP g183_ok rfl rfl ?_;unfold g183;refine Xf rfl rfl (Za rfl ?_);refine Yd (c184 b hf) rfl g184_ok.plain rfl ?_;exact Xf rfl rfl (Zt rfl rfl)
 refine Qc hP g143_ok rfl rfl ?_;unfold g143;refine Xf rfl rfl (Xf rfl rfl (Za rfl (Za rfl (Za rfl (Za rfl ?_)))));refine YB 4 (Yj (Za rfl (Ze (Za rfl ?_))));refine Xo p179 rfl g179_ok.plain rfl rfl (Xf rfl rfl (Xf rfl rfl (Za rfl (Za rfl (Za (Qbd ..) (Qb (λh=>?_) (λh=>Za rfl ?_)))))))
 ·refine Za rfl (Xf rfl rfl (Zt rfl ?_));rw[bkR,if_pos (by simpa using h)]
 refine Yj (Za rfl (Ze (Za rfl ?_)));refine Xo p181 rfl g181_ok.plain rfl rfl (Xf rfl rfl (Xf rfl rfl (Za rfl (Za rfl (Za (Qbd ..) (Qb (λh2=>?_) (λh2=>Za rfl ?_)))))))
 ·refine Za rfl (Xf rfl rfl (Zt rfl ?_));rw[bkR,if_neg (by simpa using h),if_pos (by simpa using h2)]
 refine Yj (Za rfl (Ze (Za rfl ?_)));refine Xo p183 rfl g183_ok.plain rfl rfl (Xf rfl rfl (Xf rfl rfl (Za rfl (Za rfl (Za (Qbd ..) (Qb (λh3=>?_) (λh3=>Za rfl ?_)))))))
 ·refine Za rfl (Xf rfl rfl (Zt rfl ?_));rw[bkR,if_neg (by simpa using h),if_neg (by simpa using h2)]
 refine Yj (Za rfl (Yh (Za rfl (Xf rfl rfl (Zt rfl ?_)))));rw[bkR,if_neg (by simpa using h),if_neg (by simpa using h2)];have h3:(fmtGo b [] b.formats).1=0:=by simpa using h3
 have key:∀(l pre:List Fo),(fmtGo b pre l).1=0→(fmtGo b pre l).2=0:=by
  intro l
  induction l with
  |nil=>intro pre _; rfl
  |cons f l ih=>
   intro pre;rw[fmtGo];split
   ·exact ih _
   ·intro h; simp at h
 rw[h3,key _ _ h3]
end Go.Ah.Tz
end
section
namespace Go.Ah.Tz
open Go.Proofs.Tryz (prog)
theorem NCall.case1{P:Program}{GL:Globs}{f:FuncId}{e:Bool}{sz:Nat}{v:AVal}{bs:List ABlk}(h1:NCall P GL f [.nils] v bs)(h2:NCall P GL f [.rsl e true sz []] v bs):NCall P GL f [.rsl e false sz []] v bs:=by
 intro w M vs hM hg hx
 match vs,hx with
 |[u],⟨hu,_⟩=>
  have hu':Den M noOwn (.rsl e false sz []) u:=hu;cases hu' with
  |rsl _ _ _ _ _ a cap blk off f q1 q2 q3 q4 q5 q6 q7 q8=>
   cases a with
   |none=>
    have:=q4 rfl;subst this;exact h1 w M _ hM hg ⟨.nils _,trivial⟩
   |some p=>exact h2 w M _ hM hg ⟨.rsl _ e true sz [] (some p) cap blk off f q1 (λ_=>rfl) q3 q4 q5 q6 q7 q8,trivial⟩
attribute [local irreducible] Ans.rd Ans.pu Ans.wr Ans.dr Ans.gr Ans.gw Ans.gl Ans.gd Ans.opt joinK W
theorem c96(l:List Int)(hl:l.length≤1000000000):NCall prog GL0 96 [rowV l] (.sl 0 0 l.length false) [.rows 1 (l.map cel)]:=by
 cases l with
 |nil=>
  refine NCall.case1 ?_ ?_
  ·refine Qv hP g96_ok rfl ?_;unfold g96;exact Za rfl (Ze (Tidy.ghost 1 (.inl rfl)))
  ·refine Qv hP g96_ok rfl ?_;unfold g96;exact Za rfl (Yh (Za rfl (Xf rfl rfl (Tidy.refl _ _))))
 |cons x l=>
  refine Qv hP g96_ok rfl ?_;unfold g96;refine Za rfl (Yh (Za rfl ?_));refine Xf (v:=.sl 0 0 (x :: l).length false) (rd:=[]) (up:=[(0,.rows 1 ((x :: l).map cel))]) ?_ rfl (Tidy.refl _ _);show (match ZF 1 [] (rowV (x :: l)) with
   |some (ys,rd)=>bif Zz ys&&Nat.ble ((2*(([]:List (List AVal)).length+ys.length)+192)*8) (2 ^ 48) then SRes.ok (.sl 0 0 (([]:List (List AVal)).length+ys.length) false) rd ([]++[(0,ABlk.rows 1 ([]++ys))]) else SRes.stop
   | none=>.stop)=_
  have h1:ZF 1 [] (rowV (x::l))=some ((x::l).map cel,[]):=rfl;have h2:∀q:List Int,Zz (q.map cel)=true:=by
   intro q; induction q with
   |nil=>rfl
   |cons y q ih=>simp only[List.map_cons,Zz,ih,Bool.and_true]; rfl
  have h3:Nat.ble ((2*(([]:List (List AVal)).length+((x::l).map cel).length)+192)*8) (2 ^ 48)=true:=Nat.ble_eq_true_of_le (by simp only[List.length_map,List.length_nil]; omega);simp only[h1,h2,h3,Bool.and_self,cond_true];simp
theorem w96{l:List Int}(hl:l.length≤1000000000){σ:List ABlk}{K:AVal→List ABlk→Prop}(hK:K (.sl σ.length 0 l.length false) (σ++[.rows 1 (l.map cel)])):VV.call (.call 96) [rowV l] σ K:=by
 refine Xas (c96 l hl) rfl g96_ok.plain rfl ?_;simp only[Qu,List.map_cons,List.map_nil,YU,AVal.ren,Qz,Nat.zero_add];exact hK
theorem d96{l:List Int}(hl:l.length≤1000000000){σ:List ABlk}{K:AVal→List Nat×List Nat→List ABlk→Prop}(hK:K (.sl σ.length 0 l.length false) ([],[σ.length]) (σ++[.rows 1 (l.map cel)])):VV.dcall (.call 96) [rowV l] σ K:=by
 refine Yae (c96 l hl) rfl g96_ok.plain rfl ?_;simp only[Qu,List.map_cons,List.map_nil,YU,AVal.ren,Qz,Nat.zero_add,QY];exact hK
theorem c112(l:List Th)(hl:l.length≤1000000000):NCall prog GL0 112 [thV l] (.sl 0 0 l.length false) [.rows 4 (l.map thC)]:=by
 cases l with
 |nil=>
  refine NCall.case1 ?_ ?_
  ·refine Qv hP g112_ok rfl ?_;unfold g112;exact Za rfl (Ze (Tidy.ghost 4 (.inl rfl)))
  ·refine Qv hP g112_ok rfl ?_;unfold g112;exact Za rfl (Yh (Za rfl (Xf rfl rfl (Tidy.refl _ _))))
 |cons x l=>
  refine Qv hP g112_ok rfl ?_;unfold g112;refine Za rfl (Yh (Za rfl ?_));refine Xf (v:=.sl 0 0 (x :: l).length false) (rd:=[]) (up:=[(0,.rows 4 ((x :: l).map thC))]) ?_ rfl (Tidy.refl _ _);show (match ZF 4 [] (thV (x :: l)) with
   |some (ys,rd)=>bif Zz ys&&Nat.ble ((2*(([]:List (List AVal)).length+ys.length)+192)*32) (2 ^ 48) then SRes.ok (.sl 0 0 (([]:List (List AVal)).length+ys.length) false) rd ([]++[(0,ABlk.rows 4 ([]++ys))]) else SRes.stop
   | none=>.stop)=_
  have h1:ZF 4 [] (thV (x::l))=some ((x::l).map thC,[]):=rfl;have h2:∀q:List Th,Zz (q.map thC)=true:=by
   intro q; induction q with
   |nil=>rfl
   |cons y q ih=>simp only[List.map_cons,Zz,ih,Bool.and_true]; rfl
  have h3:Nat.ble ((2*(([]:List (List AVal)).length+((x::l).map thC).length)+192)*32) (2 ^ 48)=true:=Nat.ble_eq_true_of_le (by simp only[List.length_map,List.length_nil]; omega);simp only[h1,h2,h3,Bool.and_self,cond_true];simp
theorem d112{l:List Th}(hl:l.length≤1000000000){σ:List ABlk}{K:AVal→List Nat×List Nat→List ABlk→Prop}(hK:K (.sl σ.length 0 l.length false) ([],[σ.length]) (σ++[.rows 4 (l.map thC)])):VV.dcall (.call 112) [thV l] σ K:=by
 refine Yae (c112 l hl) rfl g112_ok.plain rfl ?_;simp only[Qu,List.map_cons,List.map_nil,Qal,AVal.ren,Qz,Nat.zero_add,QY];exact hK
theorem c59(s:St)(hs:StLe 1000000000 s):NCall prog GL0 59 [stV s] (.agg (stO s 0)) (stB s):=by
 refine Qv hP g59_ok rfl ?_;unfold g59;have w1:IntKind.i64.wrap (0+1)=1:=by decide
 have w2:IntKind.i64.wrap (1+1)=2:=by decide
 repeat first|refine Za rfl ?_|refine Xf rfl rfl ?_|refine Xg rfl ?_|refine Xj rfl rfl ?_
 refine w96 hs.attack ?_;simp only[List.length_cons,List.length_nil,List.nil_append,List.cons_append,Nat.zero_add,Nat.reduceAdd];repeat first|refine Za rfl ?_|refine Xf rfl rfl ?_|refine Xg rfl ?_|refine Xj rfl rfl ?_
 refine YB 3 (Yj ?_);refine Za rfl (Ze ?_);repeat first|refine Za rfl ?_|refine Xf rfl rfl ?_|refine Xg rfl ?_|refine Xj rfl rfl ?_
 refine d96 hs.s0.deck ?_;simp only[List.length_cons,List.length_nil,List.nil_append,List.cons_append,Nat.zero_add,Nat.reduceAdd];repeat first|refine Za rfl ?_|refine Xf rfl rfl ?_|refine Xg rfl ?_|refine Xj rfl rfl ?_
 refine d96 hs.s0.hand ?_;simp only[List.length_cons,List.length_nil,List.nil_append,List.cons_append,Nat.zero_add,Nat.reduceAdd];repeat first|refine Za rfl ?_|refine Xf rfl rfl ?_|refine Xg rfl ?_|refine Xj rfl rfl ?_
 refine d96 hs.s0.grave ?_;simp only[List.length_cons,List.length_nil,List.nil_append,List.cons_append,Nat.zero_add,Nat.reduceAdd];repeat first|refine Za rfl ?_|refine Xf rfl rfl ?_|refine Xg rfl ?_|refine Xj rfl rfl ?_
 refine d96 hs.s0.told ?_;simp only[List.length_cons,List.length_nil,List.nil_append,List.cons_append,Nat.zero_add,Nat.reduceAdd];repeat first|refine Za rfl ?_|refine Xf rfl rfl ?_|refine Xg rfl ?_|refine Xj rfl rfl ?_
 refine d112 hs.s0.units ?_;simp only[List.length_cons,List.length_nil,List.nil_append,List.cons_append,Nat.zero_add,Nat.reduceAdd];repeat first|refine Za rfl ?_|refine Xf rfl rfl ?_|refine Xg rfl ?_|refine Xj rfl rfl ?_
 refine Xx (by kernel_rfl) (Za rfl ?_);rw[w1];refine Yj ?_;refine Za rfl (Ze ?_);repeat first|refine Za rfl ?_|refine Xf rfl rfl ?_|refine Xg rfl ?_|refine Xj rfl rfl ?_
 refine d96 hs.s1.deck ?_;simp only[List.length_cons,List.length_nil,List.nil_append,List.cons_append,Nat.zero_add,Nat.reduceAdd];repeat first|refine Za rfl ?_|refine Xf rfl rfl ?_|refine Xg rfl ?_|refine Xj rfl rfl ?_
 refine d96 hs.s1.hand ?_;simp only[List.length_cons,List.length_nil,List.nil_append,List.cons_append,Nat.zero_add,Nat.reduceAdd];repeat first|refine Za rfl ?_|refine Xf rfl rfl ?_|refine Xg rfl ?_|refine Xj rfl rfl ?_
 refine d96 hs.s1.grave ?_;simp only[List.length_cons,List.length_nil,List.nil_append,List.cons_append,Nat.zero_add,Nat.reduceAdd];repeat first|refine Za rfl ?_|refine Xf rfl rfl ?_|refine Xg rfl ?_|refine Xj rfl rfl ?_
 refine d96 hs.s1.told ?_;simp only[List.length_cons,List.length_nil,List.nil_append,List.cons_append,Nat.zero_add,Nat.reduceAdd];repeat first|refine Za rfl ?_|refine Xf rfl rfl ?_|refine Xg rfl ?_|refine Xj rfl rfl ?_
 refine d112 hs.s1.units ?_;simp only[List.length_cons,List.length_nil,List.nil_append,List.cons_append,Nat.zero_add,Nat.reduceAdd];repeat first|refine Za rfl ?_|refine Xf rfl rfl ?_|refine Xg rfl ?_|refine Xj rfl rfl ?_
 refine Xx (by kernel_rfl) (Za rfl ?_);rw[w2];refine Yj ?_;refine Za rfl (Yh ?_);repeat first|refine Za rfl ?_|refine Xf rfl rfl ?_|refine Xg rfl ?_|refine Xj rfl rfl ?_
 refine Zt rfl ?_;refine Tidy.gc [2,3,4,5,7,6,8,9,10,12,11] (by decide) (by simp) ?_ rfl;simp only[gcH,List.map_cons,List.map_nil,hget,YU,Qal]
end Go.Ah.Tz
end
section
namespace Go.Ah.Tz
open Go.Proofs.Tryz (prog)
def ilook{α:Type}(t:Int):List (Int×α)→Option α
 |[]=>none
 |p::l=>if t==p.1 then some p.2 else ilook t l
def mpG{α:Type}(f:α→AVal)(l:List (Int×α)):List (AVal×AVal):=l.map λp=>(iv p.1,f p.2)
theorem QaX{α:Type}(f:α→AVal)(t:Int):∀l:List (Int×α),alook (iv t) (mpG f l)=some ((ilook t l).map f)
 |[]=>rfl
 |p::l=>by
  simp only[mpG,List.map_cons,alook,keyEq,ilook,ikEq,cond_true];cases h:t==p.1 with
  |true=>rfl
  |false=>exact QaX f t l
theorem Xbk{α:Type}(f:α→AVal)(t:Int)(v:α):∀l:List (Int×α),ilook t l=none→aput (iv t) (f v) (mpG f l)=some (mpG f (l++[(t,v)]))
 |[],_=>rfl
 |p::l,h=>by
  rw[ilook] at h;split at h
  ·cases h
  ·rename_i h2;have h2:(t==p.1)=false:=by simpa using h2
   have:=Xbk f t v l h;simp only[mpG] at this;simp only[mpG,List.map_cons,List.cons_append,aput,keyEq,ikEq,cond_true,h2,this]
theorem Qan{α:Type}(t:Int):∀ (a b:List (Int × α)),ilook t (a ++ b)=(match ilook t a with
 |some v=>some v
 | none=>ilook t b)
 |[],b=>rfl
 |p::a,b=>by
  simp only[List.cons_append,ilook];split
  ·rfl
  ·exact Qan t a b
theorem Qak{α:Type}(t:Int):∀l:List (Int×α),(ilook t l).isSome=(l.map (·.1)).contains t
 |[]=>rfl
 |p::l=>by
  simp only[ilook,List.map_cons,List.contains_cons];cases h:t==p.1 with
  |true=>simp
  |false=>simp only[Bool.false_eq_true,if_false,Bool.false_or]; exact Qak t l
theorem Xbd{α:Type}(f:α→AVal)(z:AVal)(ok:Bool){σ:List ABlk}{b:Nat}{l:List (Int×α)}(h:hget σ b=.map (mpG f l))(t:Int):Qq false ok z [.map b,iv t] σ=.ok (lookV ok z ((ilook t l).map f)) [b] []:=by
 simp only[Qq,ZZ,mapOf,h,QaX,cond_true]
theorem Xcl{α:Type}(f:α→AVal){σ:List ABlk}{b:Nat}{l:List (Int×α)}(h:hget σ b=.map (mpG f l))(t:Int)(v:α)(hn:ilook t l=none):Yy false [.map b,iv t,f v] σ=.ok .junk [] [(b,.map (mpG f (l++[(t,v)])))]:=by
 simp only[Yy,ZZ,h,Xbk f t v l hn,cond_true]
structure SdAt (row:List AVal) (j:Nat) (x:Sd):Prop where
 h0:partA false (j+0) 1 row=some (iv x.life)
 h1:partA false (j+1) 1 row=some (iv x.mana)
 h2:partA false (j+2) 1 row=some (iv x.most)
 h3:partA false (j+3) 1 row=some (rowV x.deck)
 h4:partA false (j+4) 1 row=some (rowV x.hand)
 h5:partA false (j+5) 1 row=some (rowV x.grave)
 h6:partA false (j+6) 1 row=some (thV x.units)
 h7:partA false (j+7) 1 row=some (rowV x.told)
theorem sdAt0(s:St):SdAt (stC s) 7 s.s0:=⟨rfl,rfl,rfl,rfl,rfl,rfl,rfl,rfl⟩
theorem sdAt1(s:St):SdAt (stC s) 15 s.s1:=⟨rfl,rfl,rfl,rfl,rfl,rfl,rfl,rfl⟩
attribute [local irreducible] Ans.rd Ans.pu Ans.wr Ans.dr Ans.gr Ans.gw Ans.gl Ans.gd Ans.opt joinK W
set_option maxHeartbeats 2000000
theorem c120(l:List Int)(hl:l.length≤big)(id:FuncId)(fs cs:List AVal)(hp:Ym prog id=true)(f:Int→Bool)(hc:∀x∈l,PC id (fs++[iv x]++cs) (.bool (f x)))(hr:∀x,roL (fs++[iv x]++cs)=true) :
  PC 120 [rowV l,.func (.func id) fs cs] (iv (idxF f l 0)):=by
 rw[bigE] at hl;refine Qc hP g120_ok rfl rfl ?_;unfold g120;refine Za (v:=iv l.length) (rd:=[]) (by simp[Xh]) ?_;refine Qk (ι:=Nat) (λi vs s=>vs=[iv i]∧i≤l.length∧idxF f l 0=idxF f (l.drop i) i) (λi=>l.length-i) 0 ⟨rfl,by omega,by simp⟩ ?_;rintro i vs s again ⟨rfl,hi,hr'⟩ hag;refine Za rfl (Qb (λh=>?_) (λh=>?_))
 ·have h:i<l.length:=by simpa using h
  refine Za (Yo _ cel _ _ _ l _ i h) (Za (ldr rfl) ?_);refine Yd (hc _ (List.getElem_mem h)) rfl hp (hr _) ?_;rw[YLD h,idxF] at hr';refine Qb (λh2=>?_) (λh2=>?_)
  ·rw[if_pos h2] at hr'; rw[hr']; rfl
  ·rw[if_neg (by rw[h2]; simp)] at hr';refine Za (Zk ..) ?_;rw[Yg (n:=i) (by omega)];exact hag (i+1) _ _ (by omega) ⟨rfl,by omega,by rw[hr']; push_cast; rfl⟩
 ·have h:i=l.length:=by simp at h; omega
  subst h;rw[List.drop_length,idxF] at hr';rw[hr']
theorem c185(l:List Int)(hl:l.length≤big)(id:FuncId)(fs cs:List AVal)(hp:Ym prog id=true)(f:Int→Bool)(hc:∀x∈l,PC id (fs++[iv x]++cs) (.bool (f x)))(hr:∀x,roL (fs++[iv x]++cs)=true)(hr2:roL [rowV l,.func (.func id) fs cs]=true) :
  PC 185 [rowV l,.func (.func id) fs cs] (.bool (l.any f)):=by
 refine Qc hP g185_ok rfl rfl ?_;unfold g185;refine Yd (c120 l hl id fs cs hp f hc hr) rfl g120_ok.plain hr2 ?_;refine Za (XaG ..) ?_;rw[XaS f l 0 (by omega)]
theorem c186(b:Bk)(x:Int):PC 186 [iv x,.rptr [.rptr [cdV b.cards,foV b.formats] 0] 0] (.bool (decide (x<0)||decide ((b.cards.length:Int)≤x))):=by
 refine Qc hP g186_ok rfl rfl ?_;unfold g186;refine Za (Q2 ..) ?_;refine Yb0 (λ_=>rfl) (λ_=>ldr rfl) (λ_=>rfl) (λ_=>rfl) (λ_=>ldr rfl) (v6:=iv b.cards.length) (q6:=[]) (λ_=>by simp[Xh]) (λ_=>XaG ..) rfl
theorem Ybv(n:Nat)(l:List Int)(most:Int):(!(decide ((l.length:Int)>most)||l.any λx=>decide (x<0)||decide ((n:Int)≤x)))=Xn n l most:=by
 rw[Xn,Bool.not_or,QbT]
 congr 1
 ·rw[Bool.eq_iff_iff]; simp
 ·congr 1; funext x
  rw[Bool.eq_iff_iff]; simp
end Go.Ah.Tz
end
section
namespace Go.Ah.Tz
open Go.Proofs.Tryz (prog)
theorem Xb7(f:Int→AVal)(z:AVal)(o:Option Int):lookV true z (o.map f)=.tup [(o.map f).getD z,.bool o.isSome]:=by cases o<;>rfl
theorem YbH{σ:List ABlk}{b:Nat}{row:List AVal}(h:hget σ b=.box [.rptr row 0])(l:List Int)(id:FuncId):Yr σ 1000 [rowV l,.func (.func id) [] [.bptr b 0]]=some ([rowV l,.func (.func id) [] [.rptr [.rptr row 0] 0]],[b]):=by
 show Yr σ (997+1+1+1) _=_;simp[Yr,h,AVal.ro]
attribute [local irreducible] Ans.rd Ans.pu Ans.wr Ans.dr Ans.gr Ans.gw Ans.gl Ans.gd Ans.opt joinK W
set_option maxHeartbeats 4000000
@[reducible] def bkC(b:Bk):List AVal:=[cdV b.cards,foV b.formats]
theorem Zbq(b:Bk)(l:List Int)(hl:l.length≤big)(most:Int){σ:List ABlk}{b4:Nat}(hb:hget σ b4=.box [.rptr (bkC b) 0]){R K:List ABlk→Prop}(hR:Xn b.cards.length l most=false→∀σ',Old σ σ'→R σ')(hK:Xn b.cards.length l most=true→∀σ',Old σ σ'→K σ') :
  VV.wr (Xe [.nils,(.int .i64 0)] [] σ) σ λt11_62 σ=>VV.wr (Xb 2 [t11_62,.agg [rowV l,iv most]] σ) σ λ_ σ=>
  VV.rd (Ya 0 [t11_62] σ) λt88_63=>VV.rd (Xc false 1 [t88_63] σ) λt89_64=>VV.rd (Qe [t89_64] σ) λt90_65=>
  VV.rd (Ya 1 [t11_62] σ) λt91_66=>VV.rd (Xc false 1 [t91_66] σ) λt92_67=>VV.rd (Yi .gtr false [t90_65,t92_67] σ) λt93_68=>
  VV.gr t93_68 false (λk=>VV.rd (Ya 0 [t11_62] σ) k) λt95_69=>VV.gr t93_68 false (λk=>VV.rd (Xc false 1 [t95_69] σ) k) λt96_70=>
  VV.gr t93_68 false (λk=>VV.rd (Qn (.func 186) 0 [.bptr b4 0] σ) k) λt97_71=>VV.gw t93_68 false (λk=>VV.call (.call 185) [t96_70,t97_71] σ k) σ λt98_72 σ=>
  VV.rd (Zn [t93_68,(.bool true),t98_72] σ) λt99_73=>VV.test t99_73 (R σ) (K σ):=by
 refine Xz (row:=[rowV l,iv most]) rfl rfl rfl ?_;have hB:=Yl σ (ABlk.box [rowV l,iv most]);have hb':hget (σ++[ABlk.box [rowV l,iv most]]) b4=.box [.rptr (bkC b) 0]:=Qm _ hb (by simp);have ho:=Old.app σ [ABlk.box [rowV l,iv most]];generalize σ++[ABlk.box [rowV l,iv most]]=τ at hB hb' ho ⊢;generalize σ.length=c at hB ⊢;refine Za rfl (Za (ld hB rfl) (Za (v:=iv l.length) (rd:=[]) (by simp[Xh]) (Za rfl (Za (ld hB rfl) (Za (X2 ..) ?_)))));refine Xb0 (d:=l.any λx=>decide (x<0)||decide ((b.cards.length:Int)≤x)) (λ_=>rfl) (λ_=>ld hB rfl) (λ_=>rfl) (λ_ k hk=>?_) ?_
 ·exact Xo (c185 l hl 186 [] [.rptr [.rptr (bkC b) 0] 0] g186_ok.plain (λx=>decide (x<0)||decide ((b.cards.length:Int)≤x)) (λx _=>c186 b x) (λx=>rfl) rfl) rfl g185_ok.plain (YbH hb' l 186) rfl hk
 have he:=Ybv b.cards.length l most;refine Qb (λh=>hR ?_ _ ho) (λh=>hK ?_ _ ho)
 ·rw[←he,h]; rfl
 ·rw[←he,h]; rfl
theorem Qcx(b:Bk)(next:Int)(u:Th)(met:Bool) :
  (!((((((((met||decide (u.card<0))||decide ((b.cards.length:Int)≤u.card)) || !((b.cards[u.card.toNat]?).getD default).unit)||decide (u.harm<0))||decide (1000000<u.harm))||decide (u.id<1))||decide (next≤u.id))))=(Xu b next u && !met):=by
 rw[Xu];cases met with
 |true=>simp
 |false=>
  by_cases h1:u.card<0
  ·have:¬0≤u.card:=by omega
   simp[h1,this]
  by_cases h2:(b.cards.length:Int)≤u.card
  ·have:¬u.card<b.cards.length:=by omega
   simp[h2,this]
  have e1:0≤u.card:=by omega
  have e2:u.card<b.cards.length:=by omega
  have e3:u.card.toNat<b.cards.length:=by omega
  simp only[h1,h2,e1,e2,decide_true,decide_false,Bool.or_false,Bool.true_and,Bool.not_false,Bool.and_true,Bool.false_or];rw[List.getElem?_eq_getElem e3];simp only[Option.map_some,Option.getD_some];generalize b.cards[u.card.toNat].unit=q;rw[Bool.eq_iff_iff];cases q<;>simp<;>omega
theorem c144(b:Bk)(s:St)(side:Int)(j:Nat)(x:Sd)(hx:SdAt (stC s) j x)(hj:∀σ,Zg 2 8 [.rptr (stC s) (0+7),iv side] σ=.ok (.rptr (stC s) j) [] [])(hs:SdLe 1000000000 x)(ids:List (Int×Int)){m:Nat}{σ:List ABlk}(hm:hget σ m=.map (mpG iv ids)){K:AVal→List ABlk→Prop}
 (hF:(Xl b.cards.length x&&Qr b s.next (ids.map (·.1)) x.units)=false→∀σ',K (.bool false) σ')
 (hT:(Xl b.cards.length x&&Qr b s.next (ids.map (·.1)) x.units)=true→∀σ',Bt m σ σ'→hget σ' m=.map (mpG iv (ids++x.units.map λu=>(u.id,side)))→K (.bool true) σ') :
  g144 VV [.rptr (bkC b) 0,.rptr (stC s) 0,iv side,.map m] σ K:=by
 unfold g144;refine Xf rfl (QL _ _) ?_;have hB:=Yl σ (ABlk.box [.rptr (bkC b) 0]);have hm':hget (σ++[ABlk.box [.rptr (bkC b) 0]]) m=.map (mpG iv ids):=Qm _ hm (by simp);have ho:=Old.app σ [ABlk.box [.rptr (bkC b) 0]];have hml:=Qy hm (by simp);have hne:m≠σ.length:=by omega
 generalize σ++[ABlk.box [.rptr (bkC b) 0]]=τ at hB hm' ho ⊢;generalize σ.length=c at hB hne ⊢;refine Za rfl (Za rfl (Za (hj _) (Za rfl (Za rfl (Za (ldr hx.h0) ?_)))));refine Yd (c57 _) rfl g57_ok.plain rfl (Za rfl ?_);refine Zb0 (λ_=>rfl) (λ_=>rfl) (λ_=>rfl) (λ_=>ldr hx.h1) (λ_=>Q2 ..) ?_;refine Qb0 (λ_=>rfl) (λ_=>rfl) (λ_=>rfl) (λ_=>ldr hx.h1) (λ_ k hk=>Yd (c57 _) rfl g57_ok.plain rfl hk) (λ_=>rfl) ?_;refine Zb0 (λ_=>rfl) (λ_=>rfl) (λ_=>rfl) (λ_=>ldr hx.h2) (λ_=>Q2 ..) ?_;refine Zb0 (λ_=>rfl) (λ_=>rfl) (λ_=>rfl) (λ_=>ldr hx.h2) (λ_=>X2 ..) ?_;refine Zco (λ_=>rfl) (λ_=>rfl) (λ_=>rfl) (λ_=>ldr hx.h6) (v5:=iv x.units.length) (q5:=[]) (λ_=>by simp[Xh]) (λ_=>X2 ..) ?_;refine Qb (λh=>hF ?_ _) (λh=>?_)
 ·have:Xl b.cards.length x=false:=by
   rw[Bool.eq_false_iff]; intro hh;simp only[Xl,Bool.and_eq_true,decide_eq_true_eq] at hh;obtain⟨p1,p2,p3,p4,p5,_,_,_,_,p6⟩:=hh;simp only[p1,p3,Bool.not_true,Bool.false_or,Bool.or_false,Bool.or_eq_true,decide_eq_true_eq] at h;omega
  rw[this]; rfl
 simp only[Bool.or_eq_false_iff,Bool.not_eq_false',decide_eq_false_iff_not] at h;obtain⟨⟨⟨⟨⟨p1,p2⟩,p3⟩,p4⟩,p5⟩,p6⟩:=h;have hh:Xl b.cards.length x=(Xn b.cards.length x.deck 60&&(Xn b.cards.length x.hand 10&&(Xn b.cards.length x.grave 1000000&&Xn b.cards.length x.told 1000000))):=by
  have q2:decide (0≤x.mana)=true:=by simp; omega
  have q4:decide (0≤x.most)=true:=by simp; omega
  have q5:decide (x.most≤10)=true:=by simp; omega
  have q6:decide (x.units.length≤7)=true:=by simp; omega
  rw[Xl,p1,p3,q2,q4,q5,q6]; simp
 rw[hh] at hF hT;clear hh p1 p2 p3 p4 p5 p6;refine Za rfl (Za rfl (Za (ldr hx.h3) (Za rfl (Za rfl (Za rfl (Za (ldr hx.h4) (Za rfl (Za rfl (Za rfl (Za (ldr hx.h5) (Za rfl (Za rfl (Za rfl (Za (ldr hx.h7) (Za rfl (Za rfl ?_))))))))))))))));have d1:=hs.deck;have d2:=hs.hand;have d3:=hs.grave;have d4:=hs.told;have d5:=hs.units;refine YB 5 (Yj (Za rfl (Ze (Za rfl ?_))));refine Zbq b x.deck (by rw[bigE]; omega) 60 hB (λh _ _=>hF (by rw[h]; rfl) _) (λa1 σ1 o1=>Za rfl (Yj (Za rfl (Ze (Za rfl ?_)))));refine Zbq b x.hand (by rw[bigE]; omega) 10 (o1.get hB (by simp)) (λh _ _=>hF (by rw[a1,h]; rfl) _) (λa2 σ2 o2=>Za rfl (Yj (Za rfl (Ze (Za rfl ?_)))))
 replace o2:=o1.trans o2
 refine Zbq b x.grave (by rw[bigE]; omega) 1000000 (o2.get hB (by simp)) (λh _ _=>hF (by rw[a1,a2,h]; rfl) _) (λa3 σ3 o3=>Za rfl (Yj (Za rfl (Ze (Za rfl ?_)))))
 replace o3:=o2.trans o3
 refine Zbq b x.told (by rw[bigE]; omega) 1000000 (o3.get hB (by simp)) (λh _ _=>hF (by rw[a1,a2,a3,h]; rfl) _) (λa4 σ4 o4=>Za rfl (Yj (Za rfl (Yh ?_))))
 replace o4:=o3.trans o4
 rw[a1,a2,a3,a4] at hF hT;simp only[Bool.and_self,Bool.true_and] at hF hT;have hB4:=o4.get hB (by simp);have hm4:=o4.get hm' (by simp);have oo:=ho.trans o4;clear o1 o2 o3 o4 ho hB hm' hm;refine Za rfl (Za rfl (Za (ldr hx.h6) (Za (v:=iv x.units.length) (rd:=[]) (by simp[Xh]) ?_)));refine Qk (ι:=Nat) (λi vs τ=>vs=[iv i]∧i≤x.units.length∧hget τ c=.box [.rptr (bkC b) 0]∧hget τ m=.map (mpG iv (ids++(x.units.take i).map λu=>(u.id,side)))∧Bt m σ τ∧Qr b s.next (ids.map (·.1)) x.units=Qr b s.next ((ids++(x.units.take i).map λu=>(u.id,side)).map (·.1)) (x.units.drop i)) (λi=>x.units.length-i) 0
  ⟨rfl,by omega,hB4,by simpa using hm4,⟨oo.1,λc hc _=>oo.2 c hc⟩,by simp⟩ ?_
 clear hB4 hm4 oo;rintro i vs τ1 again ⟨rfl,hi,hB,hm,hbt,hr⟩ hag;refine Za rfl (Qb (λh=>?_) (λh=>?_));rotate_left
 ·have h:i=x.units.length:=by simp at h; omega
  subst h;rw[List.drop_length,Qr] at hr;rw[List.take_length] at hm;exact hT hr _ hbt hm
 have h:i<x.units.length:=by simpa using h
 have hix:=λ(s:List ABlk)=>Yo s thC false false 4 x.units .i64 i h;have htk:=Zu _ _ h;rw[YLD h,Qr] at hr;generalize x.units[i]=u at hix htk hr;generalize hq:ids++(x.units.take i).map (λu=>(u.id,side))=cur at hm hr;have hcur:ids++(x.units.take (i+1)).map (λu=>(u.id,side))=cur++[(u.id,side)]:=by rw[htk,List.map_append,←List.append_assoc,hq]; rfl
 refine Za (hix _) (Za (ldr rfl) (Xz (row:=thC u) (row':=thC u) rfl rfl rfl ?_));have hU:=Yl τ1 (ABlk.box (thC u));have hB':hget (τ1++[ABlk.box (thC u)]) c=.box [.rptr (bkC b) 0]:=Qm _ hB (by simp);have hm':hget (τ1++[ABlk.box (thC u)]) m=.map (mpG iv cur):=Qm _ hm (by simp);have hml':=Qy hm' (by simp);have hbt':Bt m σ (τ1++[ABlk.box (thC u)]):=hbt.trans (Bt.gr m (Old.app _ _).1 (Old.app _ _).2);generalize τ1++[ABlk.box (thC u)]=τ2 at hU hB' hm' hml' hbt' ⊢;generalize τ1.length=d at hU ⊢;refine Za rfl (Za (ld hU rfl) (Za (Xbd iv _ _ hm' _) ?_));rw[Xb7];refine Za rfl (Za rfl ?_);refine Xa8 (λ_=>rfl) (λ_=>ld hU rfl) (λ_=>Q2 ..) ?_;refine XcJ (λ_=>rfl) (λ_=>ld hU rfl) (λ_=>ld hB' rfl) (λ_=>rfl) (λ_=>rfl) (λ_=>ldr rfl) (v7:=iv b.cards.length) (q7:=[]) (λ_=>by simp[Xh]) (λ_=>XaG ..) ?_;refine Zcv (d:=!((b.cards[u.card.toNat]?).getD default).unit) (λ_=>ld hB' rfl) (λ_=>rfl) (λ_=>rfl) (λ_=>ldr rfl) (λ_=>rfl) (λ_=>ld hU rfl) (v7:=.rptr (cdC ((b.cards[u.card.toNat]?).getD default)) 0) (q7:=[]) (λhc=>?_) (λ_=>rfl) (λ_=>ldr (cdLd1 _)) (λ_=>rfl) ?_
 ·simp only[Bool.or_eq_false_iff,decide_eq_false_iff_not] at hc;have e3:u.card.toNat<b.cards.length:=by omega
  rw[List.getElem?_eq_getElem e3];exact Zbz _ cdC _ _ _ b.cards _ u.card (by omega) e3
 refine Xa8 (λ_=>rfl) (λ_=>ld hU rfl) (λ_=>Q2 ..) ?_;refine Xa8 (λ_=>rfl) (λ_=>ld hU rfl) (λ_=>X2 ..) ?_;refine Xa8 (λ_=>rfl) (λ_=>ld hU rfl) (λ_=>Q2 ..) ?_;refine Yb0 (λ_=>rfl) (λ_=>ld hU rfl) (λ_=>rfl) (λ_=>rfl) (λ_=>rfl) (v6:=iv s.next) (q6:=[]) (λ_=>ldr rfl) (λ_=>XaG ..) ?_;have hue:=Qcx b s.next u (ilook u.id cur).isSome;have hk:=Qak u.id cur;refine Qb (λh2=>hF ?_ _) (λh2=>?_)
 ·rw[h2] at hue;rw[hr,←hk];have hue:(Xu b s.next u && !(ilook u.id cur).isSome)=false:=hue.symm;cases h5:Xu b s.next u with
  |false=>rfl
  |true=>
   rw[h5] at hue;have:(ilook u.id cur).isSome=true:=by simpa using hue
   rw[this]; rfl
 ·rw[h2] at hue;have hue:(Xu b s.next u && !(ilook u.id cur).isSome)=true:=hue.symm;simp only[Bool.and_eq_true,Bool.not_eq_true'] at hue;have hnone:ilook u.id cur=none:=by
   have:=hue.2;cases h5:ilook u.id cur with
   |none=>rfl
   |some v=>rw[h5] at this; cases this
  rw[hue.1,←hk,hue.2,Bool.not_false,Bool.true_and,Bool.true_and] at hr;refine Za rfl (Za (ld hU rfl) (Xf (Xcl iv hm' _ side hnone) (Yz _ hml') (Za (Zk ..) ?_)));rw[Yg (n:=i) (by omega)];refine hag (i+1) _ _ (by omega) ⟨rfl,by omega,Xv hB' (by simp) (λe=>hne e),?_,hbt'.trans ⟨by simp,λc hc hne=>Qs _ hc hne⟩,?_⟩
  ·rw[hcur]; exact Qt _ hml'
  ·rw[hcur,hr,List.map_append]; rfl
end Go.Ah.Tz
end
