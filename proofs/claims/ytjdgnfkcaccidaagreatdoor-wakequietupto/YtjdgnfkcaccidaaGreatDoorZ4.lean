/- Part of the proof that WakeQuiet holds of the program for arguments that together hold at most 1048576 values and letters; no other condition. -/
import Derived.Test.YtjdgnfkcaccidaaGreatDoorZ3
import Derived.Sort.OwnSortedInts
set_option linter.all false
section
namespace Go.Ah.Tz
open Go.Proofs.Tryz (prog)
set_option maxRecDepth 1000000
theorem hTm:∀f np g,tb.get f=some (np,g)→GQ f np g:=GT.oD IC
def HL:Tx:=[99,97,114,100,32,117,110,105,116,32,99,104,97,114,109,32,102,111,114,109,97,116,32,112,108,97,121,101,100,32,100,101,97,100,32,100,97,119,110,32,97,117,114,97,32,115,104,105,101,108,100,32,104,97,114,109,32,109,101,110,100,32,100,114,97,119,32,103,97,105,110,32,100,114,111,112,32,108,111,111,107,32,115,104,111,119,32,115,117,109,109,111,110,32,105,102,32,101,108,115,101,32,109,101,32,102,111,101,32,116,97,114,103,101,116,32,108,105,102,101,32,104,97,110,100,32,100,101,99,107,32,117,110,105,116,115,32,109,97,110,97,32,99,111,115,116,32,116,111,112,32,112,111,119,101,114,32,109,105,110,32,109,97,120,32,110,111,116,32,97,110,100,32,111,114,32,104,111,108,100,115,32,108,101,97,115,116,32,109,111,115,116,32,99,111,112,105,101,115,32,98,97,110,110,101,100,32,115,105,110,103,108,101]
theorem p264:PC 195 [.str HL] (.ax true false 1 (i6.map sR)):=Vd hP hTm (much:=1000000000) 60 (by kernel_rfl)
def pZ:List (Tx×Bool):=i6.foldl (λm k=>ko k true m) []
theorem U7(t:Tx):∀(l:List Tx) (m:List (Tx×Bool)),(bJ t (l.foldl (λm k=>ko k true m) m)).getD false=((bJ t m).getD false||jy l t)
 |[],m=>by simp[jy]
 |k::l,m=>by
  rw[List.foldl_cons,U7 t l,Y2,jy];by_cases h:t==k
  ·have e:t=k:=by simpa using h
   subst e; simp
  ·have h2:(k==t)=false:=by
    rw[Bool.eq_false_iff]; intro q; apply h; simp at q; simp[q]
   rw[if_neg h,h2,Bool.false_or]
theorem YdI(t:Tx):(bJ t pZ).getD false=jy i6 t:=by
 rw[pZ,U7]; rfl
attribute [local irreducible] ak.rd ak.pu ak.wr ak.dr ak.gr ak.gw ak.gl ak.gd ak.opt aH W
theorem c258:PC 180 [] (.eN (ik pZ)):=by
 refine MH hP g180.ok rfl ⟨.map 0,[.map (ik pZ)],?_,?_⟩
 ·show (match Xy [.map (ik pZ)] (998 + 1 + 1) [.map 0] with
   |some ([y],_)=>some y
   | _=>none)=_
  have:ah [ab.map (ik pZ)] 0=.map (ik pZ):=rfl;simp only[Xy,this,Ja,cond_true]
 unfold g180; dsimp only[H0.u];refine Qb rfl rfl ?_;refine Xb p264 rfl g195.ok.plain rfl ?_;refine Za rfl ?_;have hlen:i6.length=41:=rfl;unfold pZ;generalize i6=l at hlen ⊢;refine Xj (ι:=Nat) (λi vs σ=>∃m,vs=[iv i]∧σ=[.map (ik m)]∧i≤l.length∧l.foldl (λm k=>ko k true m) []=(l.drop i).foldl (λm k=>ko k true m) m) (λi=>l.length-i) 0 ⟨[],rfl,rfl,by omega,by simp⟩ ?_;rintro i vs σ again ⟨m,rfl,rfl,hi,hu⟩ aZ;refine Za rfl ?_;refine Zb (λh=>?_) (λh=>?_)
 ·have h:i<l.length:=by simpa using h
  have cX:l.drop i=l[i]::l.drop (i+1):=by rw[fA h]
  rw[cX,List.foldl_cons] at hu;refine Za (Zp _ sR _ _ _ l .i64 i h) (Za (an (vi _)) (Qb (D2 (b:=0) rfl _ _) rfl (Za (Yj ..) ?_)));rw[Qd (n:=i) (by omega)];exact aZ (i+1) _ _ (by omega) ⟨_,rfl,rfl,by omega,hu⟩
 ·have h:i=l.length:=by simp at h; omega
  subst h;rw[List.drop_length,List.foldl_nil] at hu;rw[hu]; exact⟨rfl,rfl⟩
theorem c242(s:Tx):PC 157 [.str s] (.bool (jy i6 s)):=by
 refine Yc hP g157.ok rfl rfl ?_;rw[H1.e]; unfold g157; dsimp only;refine Xb c258 rfl g180.ok.plain rfl ?_;refine Za (Yl ..) ?_;rw[YdI]
end Go.Ah.Tz
end
section
namespace Go.Ah.Tz
open Go.Proofs.Tryz (prog)
attribute [local irreducible] ak.rd ak.pu ak.wr ak.dr ak.gr ak.gw ak.gl ak.gd ak.opt aH W
theorem c257(x:Int):PC 179 [.int .i32 x] (.bool (fM x)):=by
 refine Yc hP g179.ok rfl rfl ?_;rw[H1.e]; unfold g179; dsimp only;refine Za rfl (ze rfl rfl ?_);exact congrArg aa.bool (by rw[Bool.eq_iff_iff]; simp[fM])
theorem c256(x:Int):PC 178 [.int .i32 x] (.bool (isLet x)):=by
 refine Yc hP g178.ok rfl rfl ?_;rw[H1.e]; unfold g178; dsimp only;refine Za rfl (ze rfl rfl ?_);refine Qh λk1 fo=>?_;have kk:∀c,c=decide ((97≤x∧x≤122)∨(65≤x∧x≤90))→k1 [.bool c] []:=by
  rintro c hc;rw[fo]; clear fo k1;refine Zb (λh=>?_) (λh=>?_)
  ·rw[h] at hc;have hc:(97≤x∧x≤122)∨(65≤x∧x≤90):=by simpa using hc.symm
   exact congrArg aa.bool (by rw[eq_comm,isLet,decide_eq_true_eq]; omega)
  rw[h] at hc;have hc:¬((97≤x∧x≤122)∨(65≤x∧x≤90)):=of_decide_eq_false hc.symm;refine Za (Zf ..) ?_;refine Qh λk1 fo=>?_;have k2:∀c,c=decide (x=215∨x=247)→k1 [.bool c] []:=by
   rintro c j7;rw[fo]; clear fo k1;refine Zb (λh=>?_) (λh=>?_)
   ·rw[h] at j7;have j7:x=215∨x=247:=of_decide_eq_true j7.symm;exact congrArg aa.bool (by rw[eq_comm,isLet,decide_eq_false_iff_not]; omega)
   rw[h] at j7;have j7:¬(x=215∨x=247):=of_decide_eq_false j7.symm;refine Za rfl (ze rfl rfl ?_);exact congrArg aa.bool (by rw[Bool.eq_iff_iff,Bool.and_eq_true,isLet,decide_eq_true_eq,decide_eq_true_eq,decide_eq_true_eq]; omega)
  clear fo;refine Zb (λh=>k2 _ ?_) (λh=>?_)
  ·rw[h]; rw[eq_comm,decide_eq_true_eq]; exact Or.inl (of_decide_eq_true h)
  ·have h:x≠215:=of_decide_eq_false h;refine Za (Zf ..) (k2 _ ?_);rw[Bool.eq_iff_iff,decide_eq_true_eq,decide_eq_true_eq]; omega
 clear fo;refine Zb (λh=>kk _ ?_) (λh=>?_)
 ·rw[h]; rw[eq_comm,decide_eq_true_eq]; simp at h; omega
 ·refine Za rfl (ze rfl rfl (kk _ ?_));rw[Bool.eq_iff_iff,Bool.and_eq_true,decide_eq_true_eq,decide_eq_true_eq,decide_eq_true_eq]; simp at h; omega
end Go.Ah.Tz
end
section
namespace Go.Ah.Tz
theorem mw{p:Nat→Bool}(h:(List.range 256).all p=true){c:Nat}(hc:c<256):p c=true:=List.all_eq_true.1 h c (List.mem_range.2 hc)
theorem Fs{c:Nat}(hc:c<256):bits .and .i64 (c:Int) 31=((c%32:Nat):Int):=by
 have:=mw (p:=λc=>bits .and .i64 (c:Int) 31==((c%32:Nat):Int)) (by kernel_rfl) hc;simpa using this
theorem Fq{c:Nat}(hc:c<256):bits .and .i64 (c:Int) 15=((c%16:Nat):Int):=by
 have:=mw (p:=λc=>bits .and .i64 (c:Int) 15==((c%16:Nat):Int)) (by kernel_rfl) hc;simpa using this
theorem NC{c:Nat}(hc:c<256):bits .and .i64 (c:Int) 7=((c%8:Nat):Int):=by
 have:=mw (p:=λc=>bits .and .i64 (c:Int) 7==((c%8:Nat):Int)) (by kernel_rfl) hc;simpa using this
theorem Ft{c:Nat}(hc:c<256):bits .and .u8 (c:Int) 63=((c%64:Nat):Int):=by
 have:=mw (p:=λc=>bits .and .u8 (c:Int) 63==((c%64:Nat):Int)) (by kernel_rfl) hc;simpa using this
theorem zr{c:Nat}(hc:c<256):(bits .and .u8 (c:Int) 192 != 128) = !(c/64==2):=by
 have:=mw (p:=λc=>(bits .and .u8 (c:Int) 192 != 128) == !(c/64==2)) (by kernel_rfl) hc;simpa using this
theorem Ydo(c:UInt8):p_ c = !(c.toNat/64==2):=zr c.toNat_lt
theorem P0(q y:Nat)(hq:q<1099511627776)(hy:y<64):bits .or .i64 ((q*64:Nat):Int) (y:Int)=((q*64+y:Nat):Int):=by
 have h1:(BitVec.ofInt 64 ((q*64:Nat):Int)).toNat=q*64:=by
  rw[BitVec.toNat_ofInt]; omega
 have h2:(BitVec.ofInt 64 (y:Int)).toNat=y:=by
  rw[BitVec.toNat_ofInt]; omega
 have h3:q*64 ||| y=q*64+y:=by
  have:=Nat.two_pow_add_eq_or_of_lt (i:=6) (b:=y) (by omega) q;rw[show 2 ^ 6*q=q*64 by omega] at this;exact this.symm
 show IntKind.i64.wrap (((BitVec.ofInt 64 ((q*64:Nat):Int)) ||| (BitVec.ofInt 64 (y:Int))).toNat:Int)=_;rw[BitVec.toNat_or,h1,h2,h3];exact bc (by omega) (by omega)
theorem Qdo(x:Nat)(hx:x<1099511627776)(c:UInt8):sj (x:Int) c=((x*64+c.toNat%64:Nat):Int):=by
 have e:H_ (x:Int)=((x*64:Nat):Int):=by
  show IntKind.i64.wrap ((x:Int)*64)=_;rw[bc (by omega) (by omega)]; simp
 rw[sj,e,Ft c.toNat_lt,bc (by omega) (by omega)];exact P0 x _ hx (Nat.mod_lt _ (by omega))
theorem ZcO(s:Tx)(a:Nat)(ha:a<s.length) :
  (((dA s a).2≠0→((Utf8.decode ⟨s.toArray⟩ a).1:Int)=(dA s a).1∧(Utf8.decode ⟨s.toArray⟩ a).2=(dA s a).2)∧((dA s a).2=0→(Utf8.decode ⟨s.toArray⟩ a).1=65533)):=by
 have n7:∀k,((⟨s.toArray⟩:ByteArray).get! (a+k))=(s[a+k]?).getD 0:=by
  intro k;show (s.toArray)[a+k]! = _;simp[List.getElem!_eq_getElem?_getD];rfl
 have dU:(⟨s.toArray⟩:ByteArray).size=s.length:=by simp[ByteArray.size]
 rw[dA,List.getElem?_eq_getElem ha];unfold Utf8.decode;simp only[n7,dU];have h0:(s[a+0]?).getD 0=s[a]:=by simp[List.getElem?_eq_getElem ha]
 rw[h0];have hb:s[a].toNat<256:=s[a].toNat_lt;generalize s[a].toNat=b at hb ⊢;have KK:∀k,¬a+k<s.length→s[a+k]?=none:=λk h=>by simp; omega
 have ht:∀(i x:Nat),x<1000000→∀m,eM s a (m+1) i (x:Int)=if a+i<s.length∧((s[a+i]?).getD 0).toNat/64=2 then eM s a m (i+1) ((x*64+((s[a+i]?).getD 0).toNat%64:Nat):Int) else none:=by
  intro i x hx m;by_cases h:a+i<s.length
  ·rw[eM,List.getElem?_eq_getElem h];simp only[Ydo,Option.getD_some,h,true_and];by_cases h2:s[a+i].toNat/64=2
   ·simp[h2,Qdo x (by omega)]
   ·simp[h2]
  ·rw[eM,KK i h]; simp[h]
 have uh:∀k,(decide (a+k<s.length)&&(((s[a+k]?).getD 0).toNat/64==2))=decide (a+k<s.length∧((s[a+k]?).getD 0).toNat/64=2):=by
  intro k; rw[Bool.eq_iff_iff]; simp
 simp only[uh];have t1:=λx hx m=>ht 1 x hx m;have t2:=λx hx m=>ht 2 x hx m;have t3:=λx hx m=>ht 3 x hx m;clear ht uh KK n7 dU h0;generalize ((s[a+1]?).getD 0).toNat=d1 at *;generalize ((s[a+2]?).getD 0).toNat=d2 at *;generalize ((s[a+3]?).getD 0).toNat=d3 at *;by_cases c1:b<128
 ·have hh:dZ (b:Int)=some (1,(b:Int),0):=by
   rw[dZ,if_neg (by omega),if_neg (by omega),if_neg (by omega),if_neg (by omega)]
  simp only[hh,if_pos c1,Nat.sub_self,eM,fY];rw[if_neg (by omega)]; simp
 rw[if_neg c1];by_cases c2:b<192
 ·have hh:dZ (b:Int)=none:=by
   rw[dZ,if_neg (by omega),if_neg (by omega),if_neg (by omega),if_pos (by omega)]
  simp only[hh];have e1:¬b/32=6:=by omega
  have e2:¬b/16=14:=by omega
  have e3:¬b/8=30:=by omega
  simp[e1,e2,e3,Utf8.runeError]
 by_cases c3:b<224
 ·have hh:dZ (b:Int)=some (2,((b%32:Nat):Int),128):=by
   rw[dZ,if_pos (by omega),Fs hb]
  have e1:b/32=6:=by omega
  have e2:¬b/16=14:=by omega
  have e3:¬b/8=30:=by omega
  simp only[hh];rw[t1 _ (by omega) 0];by_cases p1:a+1<s.length∧d1/64=2
  ·simp only[if_pos p1,eM,fY,e1,decide_eq_true p1,beq_self_eq_true,Bool.and_self,if_true];by_cases y:b%32*64+d1%64 ≥ 128
   ·rw[if_pos y,if_neg (by omega)]; simp
   ·rw[if_neg y,if_pos (by omega)]; simp[Utf8.runeError]
  ·simp only[if_neg p1,fY,decide_eq_false p1,Bool.and_false,Bool.false_and,Bool.false_eq_true,if_false];simp[Utf8.runeError]
 by_cases c4:b<240
 ·have hh:dZ (b:Int)=some (3,((b%16:Nat):Int),2048):=by
   rw[dZ,if_neg (by omega),if_pos (by omega),Fq hb]
  have e1:¬b/32=6:=by omega
  have e2:b/16=14:=by omega
  have e3:¬b/8=30:=by omega
  simp only[hh];rw[t1 _ (by omega) 1];have f1:(b/32==6)=false:=by simpa using e1
  by_cases p1:a+1<s.length∧d1/64=2
  ·rw[if_pos p1,t2 _ (by omega) 0];by_cases p2:a+2<s.length∧d2/64=2
   ·simp only[if_pos p2,eM,fY,f1,e2,decide_eq_true p1,decide_eq_true p2,beq_self_eq_true,Bool.and_self,if_true,Bool.false_and,Bool.false_eq_true,if_false];by_cases y:(b%16*64+d1%64)*64+d2%64<2048∨(55296≤(b%16*64+d1%64)*64+d2%64∧(b%16*64+d1%64)*64+d2%64≤57343)
    ·rw[if_pos (by omega),if_neg (by simp[Utf8.valid]; omega)]; simp[Utf8.runeError]
    ·rw[if_neg (by omega),if_pos (by simp[Utf8.valid]; omega)]; simp; omega
   ·simp only[if_neg p2,fY,f1,decide_eq_false p2,Bool.and_false,Bool.false_and,Bool.false_eq_true,if_false];simp[Utf8.runeError]
  ·simp only[if_neg p1,fY,f1,decide_eq_false p1,Bool.and_false,Bool.false_and,Bool.false_eq_true,if_false];simp[Utf8.runeError]
 by_cases c5:b<248
 ·have hh:dZ (b:Int)=some (4,((b%8:Nat):Int),65536):=by
   rw[dZ,if_neg (by omega),if_neg (by omega),if_pos (by omega),NC hb]
  have e3:b/8=30:=by omega
  have f1:(b/32==6)=false:=by simp; omega
  have f2:(b/16==14)=false:=by simp; omega
  simp only[hh];rw[t1 _ (by omega) 2];by_cases p1:a+1<s.length∧d1/64=2
  ·rw[if_pos p1,t2 _ (by omega) 1];by_cases p2:a+2<s.length∧d2/64=2
   ·rw[if_pos p2,t3 _ (by omega) 0];by_cases p3:a+3<s.length∧d3/64=2
    ·simp only[if_pos p3,eM,fY,f1,f2,e3,decide_eq_true p1,decide_eq_true p2,decide_eq_true p3,beq_self_eq_true,Bool.and_self,if_true,Bool.false_and,Bool.false_eq_true,if_false];by_cases y:((b%8*64+d1%64)*64+d2%64)*64+d3%64<65536∨1114111<((b%8*64+d1%64)*64+d2%64)*64+d3%64
     ·rw[if_pos (by omega),if_neg (by simp[Utf8.valid]; omega)]; simp[Utf8.runeError]
     ·rw[if_neg (by omega),if_pos (by simp[Utf8.valid]; omega)]; simp; omega
    ·simp only[if_neg p3,fY,f1,f2,decide_eq_false p3,Bool.and_false,Bool.false_and,Bool.false_eq_true,if_false];simp[Utf8.runeError]
   ·simp only[if_neg p2,fY,f1,f2,decide_eq_false p2,Bool.and_false,Bool.false_and,Bool.false_eq_true,if_false];simp[Utf8.runeError]
  ·simp only[if_neg p1,fY,f1,f2,decide_eq_false p1,Bool.and_false,Bool.false_and,Bool.false_eq_true,if_false];simp[Utf8.runeError]
 ·have hh:dZ (b:Int)=none:=by
   rw[dZ,if_neg (by omega),if_neg (by omega),if_neg (by omega),if_pos (by omega)]
  simp only[hh];have e1:¬b/32=6:=by omega
  have e2:¬b/16=14:=by omega
  have e3:¬b/8=30:=by omega
  simp[e1,e2,e3,Utf8.runeError]
end Go.Ah.Tz
end
section
namespace Go.Ah.Tz
open Go.Proofs.Tryz (prog)
theorem Uq(s:Tx)(a:Nat):∀(m i:Nat) (x y:Int),eM s a (m+1) i x=some y→a+i+m<s.length
 |m,i,x,y,h=>by
  rw[eM] at h;cases e:s[a+i]? with
  |none=>rw[e] at h; cases h
  |some c=>
   have hl:a+i<s.length:=(gn e).1;rw[e] at h;cases m with
   |zero=>omega
   |succ m=>
    have h2:(if p_ c=true then none else eM s a (m+1) (i+1) (sj x c))=some y:=h;split at h2
    ·cases h2
    ·have:=Uq s a m (i+1) _ _ h2;omega
theorem Zdp(s:Tx)(a:Nat)(ha:a<s.length)(h:(dA s a).2≠0):a+(dA s a).2≤s.length:=by
 unfold dA at h ⊢;rw[List.getElem?_eq_getElem ha] at h ⊢;simp only at h ⊢;cases e:dZ (s[a].toNat:Int) with
 |none=>rw[e] at h; simp at h
 |some p=>
  obtain⟨n,x,least⟩:=p;rw[e] at h;simp only at h ⊢;cases e2:eM s a (n-1) 1 x with
  |none=>rw[e2] at h; simp[fY] at h
  |some y=>
   rw[e2] at h;have h3:(fY n least (some y)).2≤n:=by rw[fY]; split<;>simp
   by_cases hn:n≤1
   ·omega
   ·have:=Uq s a (n-2) 1 x y (by rw[show n-2+1=n-1 by omega]; exact e2);omega
attribute [local irreducible] ak.rd ak.pu ak.wr ak.dr ak.gr ak.gw ak.gl ak.gd ak.opt aH W
set_option maxHeartbeats 1000000
theorem QdU{s:Tx}{a:Nat}(h:a<s.length):Eu [.iter 0] [.eF s a]=.ok (.bn [.bool true,iv a,.int .i32 (Utf8.decode ⟨s.toArray⟩ a).1]) [] [(0,.eF s (a+(Utf8.decode ⟨s.toArray⟩ a).2))]:=by
 have hb:Nat.blt a s.length=true:=by simpa[Nat.blt_eq] using h
 show (bif Nat.blt a s.length then _ else _)=_;rw[hb]; rfl
theorem YdE{s:Tx}{a:Nat}(h:¬a<s.length):Eu [.iter 0] [.eF s a]=.ok (.bn [.bool false]) [0] []:=by
 have hb:Nat.blt a s.length=false:=by rw[Bool.eq_false_iff]; intro q; exact h (by simpa[Nat.blt_eq] using q)
 show (bif Nat.blt a s.length then _ else _)=_;rw[hb]; rfl
theorem c241(s:Tx)(hs:s.length≤gp):PC 156 [.str s] (.bn [iv (dH s 0 0).1,iv (dH s 0 0).2]):=by
 rw[cO] at hs;refine Yc hP g156.ok rfl rfl ?_;rw[H1.e]; unfold g156; dsimp only;refine Qb rfl rfl ?_;refine Xj (ι:=Nat) (λa vs σ=>∃n:Nat,vs=[iv n]∧σ=[.eF s a]∧n≤a∧(a=0↔n=0)∧a≤s.length∧dH s 0 0=dH s a n) (λa=>s.length-a) 0 ⟨0,rfl,rfl,by omega,by simp,by omega,rfl⟩ ?_;rintro a vs σ again ⟨n,rfl,rfl,i1,i0,i2,hu⟩ aZ;by_cases h:a<s.length;rotate_left
 ·refine Qb (YdE h) rfl (Za rfl (Yd (Za rfl ?_)));rw[show dH s a n=(a,n) by rw[dH,dif_neg h]] at hu;rw[hu,show s.length=a by omega]; rfl
 refine Qb (QdU h) rfl (Za rfl (Xc (Za rfl (Za rfl ?_))));obtain⟨d1,d2⟩:=ZcO s a h;have cY:=Zdp s a h;generalize Utf8.decode ⟨s.toArray⟩ a=p at d1 d2 ⊢;have fT:xP s a n↔(isLet (p.1:Int)=false∧(a=0∨(fM (p.1:Int)=false∧(p.1:Int)≠39))):=by
  unfold xP;by_cases h0:(dA s a).2=0
  ·have:=d2 h0;rw[this];have e1:isLet 65533=false:=by decide
   have e2:fM 65533=false:=by decide
   simp[h0,e1,e2]
  ·rw[(d1 h0).1];simp[h0,i0]
 have vM:(isLet (p.1:Int)=false∧(a=0∨(fM (p.1:Int)=false∧(p.1:Int)≠39)))→aa.bn [iv a,iv n]=aa.bn [iv (dH s 0 0).1,iv (dH s 0 0).2]:=by
  intro q;rw[hu,dH,dif_pos h,dif_pos (fT.2 q)]
 have go:¬(isLet (p.1:Int)=false∧(a=0∨(fM (p.1:Int)=false∧(p.1:Int)≠39)))→VV.rd (Qn .add false [iv n,(.int .i64 1)] [.eF s (a+p.2)]) λt31=>again [t31] [.eF s (a+p.2)]:=by
  intro q;have q2:¬xP s a n:=λz=>q (fT.1 z);have h0:(dA s a).2≠0:=λe=>q2 (Or.inl e);have:=(d1 h0).2;have:=cY h0;refine Za (Yj ..) ?_;rw[Qd (n:=n) (by omega)];refine aZ (a+p.2) _ _ (by omega) ⟨n+1,rfl,rfl,by omega,by omega,by omega,?_⟩;rw[hu,dH,dif_pos h,dif_neg q2,(d1 h0).2]
 clear aZ hu fT d1 d2 cY;generalize (p.1:Int)=r at vM go ⊢;refine Xb (c256 r) rfl g178.ok.plain rfl ?_;refine Za rfl ?_;rcases aT (!isLet r) with h1|h1
 rotate_left
 ·rw[h1];repeat first|refine Ya ?_|refine Xa ?_|refine Qa rfl ?_|refine Yb rfl ?_|refine Zc rfl ?_|refine Qc rfl ?_|refine Za rfl ?_
  exact Yd (go (by have h1:isLet r=true:=(by simpa using h1); simp[h1]))
 rw[h1];have h1:isLet r=false:=by simpa using h1
 repeat first|refine Ya ?_|refine Xa ?_|refine Za rfl ?_
 rcases aT ((a:Int)==0) with h2|h2
 ·rw[h2];repeat first|refine Ya ?_|refine Xa ?_|refine Qa rfl ?_|refine Yb rfl ?_|refine Zc rfl ?_|refine Qc rfl ?_|refine Za rfl ?_
  exact Xc (vM ⟨h1,Or.inl (by simpa using h2)⟩)
 rw[h2];have h2:a≠0:=by simpa using h2
 repeat first|refine Ya ?_|refine Xa ?_|refine Za rfl ?_
 refine Xb (c257 r) rfl g179.ok.plain rfl ?_;repeat first|refine Ya ?_|refine Xa ?_|refine Za rfl ?_
 rcases aT (!fM r) with h3|h3
 rotate_left
 ·rw[h3];repeat first|refine Ya ?_|refine Xa ?_|refine Qa rfl ?_|refine Yb rfl ?_|refine Zc rfl ?_|refine Qc rfl ?_|refine Za rfl ?_
  exact Yd (go (by have h3:fM r=true:=(by simpa using h3); simp[h2,h3]))
 rw[h3];have h3:fM r=false:=by simpa using h3
 repeat first|refine Ya ?_|refine Xa ?_|refine Za rfl ?_
 refine Zb (λh4=>vM ⟨h1,Or.inr ⟨h3,by simpa using h4⟩⟩) (λh4=>go ?_);have h4:r=39:=by simpa using h4
 simp[h2,h4]
theorem c223(s:Tx)(hs:s.length≤gp):PC 128 [.str s] (.bool (dV s)):=by
 refine Yc hP g128.ok rfl rfl ?_;rw[H1.e]; unfold g128; dsimp only;refine Xb (c241 s hs) rfl g156.ok.plain rfl ?_;unfold dV;generalize (dH s 0 0).1=e;generalize (dH s 0 0).2=n;refine Za rfl (Za rfl (Za rfl ?_));rcases aT (decide ((n:Int)>0)) with h1|h1
 rotate_left
 ·rw[h1];repeat first|refine Qa rfl ?_|refine Yb rfl ?_|refine Zc rfl ?_|refine Qc rfl ?_|refine Za rfl ?_
  have h1:¬1≤n:=by simp at h1; omega
  simp[h1]
 rw[h1];repeat first|refine Ya ?_|refine Xa ?_|refine Za rfl ?_
 rcases aT (decide ((n:Int)≤24)) with h2|h2
 rotate_left
 ·rw[h2];repeat first|refine Qa rfl ?_|refine Yb rfl ?_|refine Zc rfl ?_|refine Qc rfl ?_|refine Za rfl ?_
  have h2:¬n≤24:=by simp at h2; omega
  simp[h2]
 rw[h2];repeat first|refine Ya ?_|refine Xa ?_|refine Za rfl ?_
 rcases aT ((e:Int)==(s.length:Int)) with h3|h3
 rotate_left
 ·rw[h3];repeat first|refine Qa rfl ?_|refine Yb rfl ?_|refine Zc rfl ?_|refine Qc rfl ?_|refine Za rfl ?_
  have h3:¬e=s.length:=by simp at h3; omega
  simp[h3]
 rw[h3];repeat first|refine Ya ?_|refine Xa ?_|refine Za rfl ?_
 have h3:e=s.length:=by simp at h3; omega
 subst h3;rcases aT (decide ((s.length:Int)≤40)) with h4|h4
 rotate_left
 ·rw[h4];repeat first|refine Qa rfl ?_|refine Yb rfl ?_|refine Zc rfl ?_|refine Qc rfl ?_|refine Za rfl ?_
  have h4:¬s.length≤40:=by simp at h4; omega
  simp[h4]
 rw[h4];repeat first|refine Ya ?_|refine Xa ?_|refine Za rfl ?_
 refine Xb (c242 _) rfl g157.ok.plain rfl ?_;repeat first|refine Ya ?_|refine Xa ?_|refine Za rfl ?_
 have h1:1≤n:=by simp at h1; omega
 have h2:n≤24:=by simp at h2; omega
 have h4:s.length≤40:=by simp at h4; omega
 simp[h1,h2,h4]
end Go.Ah.Tz
end
section
namespace Go.Ah.Tz
open Go.Proofs.Tryz (prog)
theorem UR(a:Int):kW a=0∨kW a=1∨kW a=2∨kW a=3:=by unfold kW; split<;>omega
attribute [local irreducible] ak.rd ak.pu ak.wr ak.dr ak.gr ak.gw ak.gl ak.gd ak.opt aH W
theorem c252(a:Int):PC 191 [ar a] (ar (kW a)):=by
 refine Yc hP g191.ok rfl rfl ?_;rw[H1.e]; unfold g191; dsimp only;refine Za rfl (XK rfl rfl ?_);refine Zb (λh=>?_) (λh=>?_)
 ·rw[kW,if_pos (by simpa using h)]
 ·rw[kW,if_neg (by simpa using h)]
def HA:aa:=.agg [ar 0,ar 1,ar 2,ar 3,ar 1,ar 1,ar 3,ar 3,ar 2,ar 3,ar 2,ar 3,ar 3,ar 3,ar 3,ar 3]
theorem c263:PC 199 [] HA:=by
 refine Yc hP g199.ok rfl rfl ?_;unfold g199; dsimp only[H0.u];refine Qb rfl rfl (Za rfl (Za rfl (Za rfl (Za rfl (Za rfl (Qb rfl rfl (Qi rfl ?_)))))));rfl
theorem c250(a b:Int):PC 189 [ar a,ar b] (ar (cu a b)):=by
 refine Yc hP g189.ok rfl rfl ?_;rw[H2.e]; unfold g189; dsimp only;refine Yh c263 rfl g199.ok.plain rfl ?_;refine Yh (c252 a) rfl g191.ok.plain rfl ?_;have h1:=UR a;have h2:=UR b;unfold cu;have k:=c252 b;generalize kW a=p at h1 ⊢;generalize kW b=q at h2 k ⊢;rcases h1 with h1|h1|h1|h1<;>subst h1<;>refine Qe rfl ?_<;>refine Yh k rfl g191.ok.plain rfl ?_<;>rcases h2 with h2|h2|h2|h2<;>subst h2<;>exact Qe rfl (Xr (by kernel_rfl) rfl)
theorem c253(a b:Int):PC 192 [ar a,ar b] (.bool (decide (cu a b=kW b))):=by
 refine Yc hP g192.ok rfl rfl ?_;rw[H2.e]; unfold g192; dsimp only;refine Xb (c250 a b) rfl g189.ok.plain rfl ?_;refine Xb (c252 b) rfl g191.ok.plain rfl ?_;refine Za (Zf ..) ?_;rfl
theorem T2(b:Int):cu b b=kW b:=by rw[cu,if_pos (Or.inl rfl)]
end Go.Ah.Tz
end
section
namespace Go.Ah.Tz
open Go.Proofs.Tryz (prog)
attribute [local irreducible] ak.rd ak.pu ak.wr ak.dr ak.gr ak.gw ak.gl ak.gd ak.opt aH W
set_option maxHeartbeats 1000000
theorem QdH(x:Nm):rh x=if x.op=6 then 3 else if 8≤x.op∧x.op≤12 then gX 0 x.kids else 0:=by
 rw[TD];by_cases h:x.op=6
 ·rw[if_neg (by omega),if_pos h,if_pos h]
 ·rw[if_neg h,if_neg h]
theorem yc:∀(k:Nat) (x:Nm),SizeOf.sizeOf x≤k→cQ x=true→PC 190 [.agg (ba x)] (ar (rh x))
 |0,x,h,_=>by cases x; simp at h
 |k+1,x,hk,hf=>by
  rw[XI];refine Yc hP g190.ok rfl rfl ?_;rw[H1.e]; unfold g190; dsimp only;refine Qb rfl rfl ?_;rw[QdH];have hlen:=EW hf;rw[cO] at hlen;generalize hB:([]++[ab.box [ar x.op,iv x.n,ar x.who,.ax false false 4 (x.kids.map ba)]]:List ab)=base;have aG:ah base 0=.box [ar x.op,iv x.n,ar x.who,.ax false false 4 (x.kids.map ba)]:=by rw[←hB]; rfl
  clear hB;refine Za rfl (Za (ld aG rfl) (Za (Zf ..) ?_));refine Zb (λh=>?_) (λh=>?_)
  ·rw[if_pos (by simpa using h)]
  rw[if_neg (by simpa using h)];refine Za rfl (Za (ld aG rfl) (Za rfl ?_));refine DT rfl (ld aG rfl) rfl ?_;rw[show (decide (x.op ≥ 8)&&decide (x.op≤12))=decide (8≤x.op∧x.op≤12) by simp];refine Zb (λh=>?_) (λh=>?_);rotate_left
  ·rw[if_neg (by simpa using h)]
  rw[if_pos (by simpa using h)];refine Za rfl (Za (ld aG rfl) (Za rfl ?_));clear aG;refine Xj (ι:=Nat) (λi vs σ=>∃n,vs=[iv i,ar n]∧i≤x.kids.length∧gX 0 x.kids=gX n (x.kids.drop i)) (λi=>x.kids.length-i) 0 ⟨0,rfl,by omega,by simp⟩ ?_;rintro i vs σ again ⟨n,rfl,hi,hu⟩ aZ;refine Za rfl ?_;refine Zb (λh=>?_) (λh=>?_)
  ·have h:i<x.kids.length:=by simpa using h
   have cX:x.kids.drop i=x.kids[i]::x.kids.drop (i+1):=by rw[fA h]
   rw[cX,gX] at hu;have hm:x.kids[i]∈x.kids:=List.getElem_mem h;have dc:=λ(s:List ab)=>Zp s ba false false 4 x.kids .i64 i h;have dU:=xN hm;have yB:=XW hf hm;generalize x.kids[i]=y at hu dc dU yB;refine Za (dc _) (Za (an (pX _)) ?_);refine Xq (row:=[ar y.op,iv y.n,ar y.who,.ax false false 4 (y.kids.map ba)]) (row':=[ar y.op,iv y.n,ar y.who,.ax false false 4 (y.kids.map ba)]) (by rw[XI]; rfl) rfl rfl ?_;have bw:=Yf σ (ab.box [ar y.op,iv y.n,ar y.who,.ax false false 4 (y.kids.map ba)]);have hN:Xh true 4 [.ai σ.length 0] (σ++[ab.box [ar y.op,iv y.n,ar y.who,.ax false false 4 (y.kids.map ba)]])=.ok (.agg (ba y)) [σ.length] []:=ld bw (by rw[XI]; rfl);refine Za hN ?_;refine Xb (yc k y (by omega) yB) rfl g190.ok.plain (kP _) ?_;refine Xb (c250 _ _) rfl g189.ok.plain rfl ?_;refine Za (Yj ..) ?_;rw[Qd (n:=i) (by omega)];exact aZ (i+1) _ _ (by omega) ⟨_,rfl,by omega,hu⟩
  ·have h:i=x.kids.length:=by simp at h; omega
   subst h;rw[List.drop_length,gX] at hu;rw[hu]; rfl
theorem c251(x:Nm)(hf:cQ x=true):PC 190 [.agg (ba x)] (ar (rh x)):=yc _ x (Nat.le_refl _) hf
theorem yd:∀(k:Nat) (x:Cn),SizeOf.sizeOf x≤k→cz x=true→PC 193 [.agg (cG x)] (ar (nT x))
 |0,x,h,_=>by cases x; simp at h
 |k+1,x,hk,hf=>by
  rw[YQ];refine Yc hP g193.ok rfl rfl ?_;rw[H1.e]; unfold g193; dsimp only;refine Qb rfl rfl ?_;rw[UB];have fj:=Q0 hf;have eX:=X0 hf;rw[cO] at fj eX;generalize hB:([]++[ab.box [ar x.op,ar x.who,.str x.name,.ax false false 4 (x.ay.map ba),.ax false false 5 (x.kids.map cG)]]:List ab)=base;have aG:ah base 0=.box [ar x.op,ar x.who,.str x.name,.ax false false 4 (x.ay.map ba),.ax false false 5 (x.kids.map cG)]:=by rw[←hB]; rfl
  clear hB;refine Za rfl (Za (ld aG rfl) (Za (Zf ..) ?_));refine Zb (λh=>?_) (λh=>?_)
  ·rw[if_pos (by simpa using h)];refine Za rfl (Za (ld aG rfl) (Za (Zf ..) ?_));refine Zb (λh=>?_) (λh=>?_)
   ·rw[if_pos (by simpa using h)]
   rw[if_neg (by simpa using h)];refine Za (Zf ..) ?_;refine Zb (λh=>?_) (λh=>?_)
   ·rw[if_pos (by simpa using h)]
   ·rw[if_neg (by simpa using h)]
  rw[if_neg (by simpa using h)];refine Za rfl (Za (ld aG rfl) (Za rfl ?_));refine Xj (ι:=Nat) (λi vs σ=>∃n,vs=[iv i,ar n]∧ah σ 0=.box [ar x.op,ar x.who,.str x.name,.ax false false 4 (x.ay.map ba),.ax false false 5 (x.kids.map cG)]∧i≤x.ay.length∧gX 0 x.ay=gX n (x.ay.drop i)) (λi=>x.ay.length-i) 0 ⟨0,rfl,aG,by omega,by simp⟩ ?_;rintro i vs σ again ⟨n,rfl,aG,hi,hu⟩ aZ;refine Za rfl ?_;refine Zb (λh=>?_) (λh=>?_)
  ·have h:i<x.ay.length:=by simpa using h
   have cX:x.ay.drop i=x.ay[i]::x.ay.drop (i+1):=by rw[fA h]
   rw[cX,gX] at hu;have hm:x.ay[i]∈x.ay:=List.getElem_mem h;have dc:=λ(s:List ab)=>Zp s ba false false 4 x.ay .i64 i h;have yB:=X3 hf hm;generalize x.ay[i]=y at hu dc yB;refine Za (dc _) (Za (an (pX _)) ?_);refine Xq (row:=[ar y.op,iv y.n,ar y.who,.ax false false 4 (y.kids.map ba)]) (row':=[ar y.op,iv y.n,ar y.who,.ax false false 4 (y.kids.map ba)]) (by rw[XI]; rfl) rfl rfl ?_;have bw:=Yf σ (ab.box [ar y.op,iv y.n,ar y.who,.ax false false 4 (y.kids.map ba)]);have hN:Xh true 4 [.ai σ.length 0] (σ++[ab.box [ar y.op,iv y.n,ar y.who,.ax false false 4 (y.kids.map ba)]])=.ok (.agg (ba y)) [σ.length] []:=ld bw (by rw[XI]; rfl);refine Za hN ?_;refine Xb (c251 y yB) rfl g190.ok.plain (kP _) ?_;refine Xb (c250 _ _) rfl g189.ok.plain rfl ?_;refine Za (Yj ..) ?_;rw[Qd (n:=i) (by omega)];exact aZ (i+1) _ _ (by omega) ⟨_,rfl,Xd _ aG (by simp),by omega,hu⟩
  have h:i=x.ay.length:=by simp at h; omega
  subst h;rw[List.drop_length,gX] at hu;rw[hu];clear aZ hu hi;refine Za rfl (Za (ld aG rfl) (Za rfl ?_));refine Xj (ι:=Nat) (λi vs s=>∃m,vs=[iv i,ar m]∧i≤x.kids.length∧mC n x.kids=mC m (x.kids.drop i)) (λi=>x.kids.length-i) 0 ⟨n,rfl,by omega,by simp⟩ ?_;rintro i vs s again ⟨m,rfl,hi,hu⟩ aZ;refine Za rfl ?_;refine Zb (λh=>?_) (λh=>?_)
  ·have h:i<x.kids.length:=by simpa using h
   have cX:x.kids.drop i=x.kids[i]::x.kids.drop (i+1):=by rw[fA h]
   rw[cX,mC] at hu;have hm:x.kids[i]∈x.kids:=List.getElem_mem h;have dc:=λ(s:List ab)=>Zp s cG false false 5 x.kids .i64 i h;have yB:=Y3 hf hm;have dU:=zl hm;generalize x.kids[i]=y at hu dc yB dU;refine Za (dc _) (Za (an (wy _)) ?_);refine Xq (row:=[ar y.op,ar y.who,.str y.name,.ax false false 4 (y.ay.map ba),.ax false false 5 (y.kids.map cG)]) (row':=[ar y.op,ar y.who,.str y.name,.ax false false 4 (y.ay.map ba),.ax false false 5 (y.kids.map cG)]) (by rw[YQ]; rfl) rfl rfl ?_;have bw:=Yf s (ab.box [ar y.op,ar y.who,.str y.name,.ax false false 4 (y.ay.map ba),.ax false false 5 (y.kids.map cG)]);have hN:Xh true 5 [.ai s.length 0] (s++[ab.box [ar y.op,ar y.who,.str y.name,.ax false false 4 (y.ay.map ba),.ax false false 5 (y.kids.map cG)]])=.ok (.agg (cG y)) [s.length] []:=ld bw (by rw[YQ]; rfl);refine Za hN ?_;refine Xb (yd k y (by omega) yB) rfl g193.ok.plain (po _) ?_;refine Xb (c250 _ _) rfl g189.ok.plain rfl ?_;refine Za (Yj ..) ?_;rw[Qd (n:=i) (by omega)];exact aZ (i+1) _ _ (by omega) ⟨_,rfl,by omega,hu⟩
  ·have h:i=x.kids.length:=by simp at h; omega
   subst h;rw[List.drop_length,mC] at hu;rw[hu]; rfl
theorem c254(x:Cn)(hf:cz x=true):PC 193 [.agg (cG x)] (ar (nT x)):=yd _ x (Nat.le_refl _) hf
end Go.Ah.Tz
end
section
namespace Go.Ah.Tz
open Go.Proofs.Tryz (prog)
attribute [local irreducible] ak.rd ak.pu ak.wr ak.dr ak.gr ak.gw ak.gl ak.gd ak.opt aH W
theorem N6(u:Int)(x:Ef):fz [.agg [ar u],.agg (aM x)]=true:=by rw[XC]; rfl
theorem c235(u:Int)(x:Ef)(hf:dk x=true):PC 172 [.agg [ar u],.agg (aM x)] (.bool (decide (cu u (rh x.n)=0))):=by
 rw[XC];refine Yc hP g172.ok rfl rfl ?_;rw[H2.e]; unfold g172; dsimp only;refine Qb rfl rfl (Qb rfl rfl (Qe rfl (Yg rfl rfl (Qe rfl (Yg (ld (v:=.agg (ba x.n)) rfl (by rw[XI]; rfl)) rfl ?_)))));refine Yh (c251 _ (vR hf)) rfl g190.ok.plain (kP _) ?_;refine Yh (c250 _ _) rfl g189.ok.plain rfl ?_;exact Qe (Zf ..) (Xr (by kernel_rfl) rfl)
theorem c236(u:Int)(x:Ef):PC 173 [.agg [ar u],.agg (aM x)] (.bool (decide (kW u=0))):=by
 rw[XC];refine Yc hP g173.ok rfl rfl ?_;rw[H2.e]; unfold g173; dsimp only;refine Qb rfl rfl (Qb rfl rfl (Za rfl (Za rfl ?_)));refine Xb (c252 _) rfl g191.ok.plain rfl ?_;exact Za (Zf ..) rfl
theorem c237(u:Int)(x:Ef)(hf:dk x=true):PC 174 [.agg [ar u],.agg (aM x)] (.bool (DU (cu u (rh x.n)) 1)):=by
 rw[XC];refine Yc hP g174.ok rfl rfl ?_;rw[H2.e]; unfold g174; dsimp only;refine Qb rfl rfl (Qb rfl rfl (Qe rfl (Yg rfl rfl (Qe rfl (Yg (ld (v:=.agg (ba x.n)) rfl (by rw[XI]; rfl)) rfl ?_)))));refine Yh (c251 _ (vR hf)) rfl g190.ok.plain (kP _) ?_;refine Yh (c250 _ _) rfl g189.ok.plain rfl ?_;refine Yh (c253 _ _) rfl g192.ok.plain rfl ?_;refine Xr (by kernel_rfl) ?_;rw[DU,T2]
end Go.Ah.Tz
end
section
namespace Go.Ah.Tz
open Go.Proofs.Tryz (prog)
theorem Xo{σ:List ab}(l:List ab){c:Nat}(h:c<σ.length):ah (σ++l) c=ah σ c:=by
 have h1:=JR h;exact Xt (by rw[List.getElem?_append_left h]; exact h1)
theorem Zg{σ:List ab}{b c:Nat}(x:ab)(h:c<σ.length)(hc:c≠b):ah (σ.set b x) c=ah σ c:=by
 have h1:=JR h;exact Xt (by rw[List.getElem?_set_ne (λe=>hc e.symm)]; exact h1)
def Gr(σ0:List ab)(n:Nat)(rows:List (List aa))(k:Nat)(v:aa)(σ:List ab):Prop:=
 σ0.length≤σ.length∧(∀c,c<σ0.length→ah σ c=ah σ0 c)∧((k=0∧v=.aq∧rows=[])∨(0<k∧∃b,σ0.length≤b∧v=.sl b 0 k false∧ah σ b=.rows n rows∧rows.length=k))
theorem Gr.nil(n:Nat)(σ:List ab):Gr σ n [] 0 .aq σ:=⟨Nat.le_refl _,λ_ _=>rfl,.inl ⟨rfl,rfl,rfl⟩⟩
theorem Gr.Gf{σ0 σ:List ab}{n k:Nat}{rows:List (List aa)}{v:aa}(h:Gr σ0 n rows k v σ):fq n rows k v σ:=by
 rcases h.2.2 with h|⟨h1,b,_,h2,h3,h4⟩
 ·exact .inl h
 ·exact .inr ⟨h1,b,h2,h3,h4⟩
theorem Gr.eo{σ0 σ:List ab}{n k:Nat}{rows:List (List aa)}{v:aa}(h:Gr σ0 n rows k v σ){c:Nat}{x:ab}(hx:ah σ0 c=x)(hd:x≠.dead):ah σ c=x:=by
 rw[h.2.1 c (Ye hx hd)]; exact hx
theorem Gr.base{σ0 σ:List ab}{l:List ab}{n k:Nat}{rows:List (List aa)}{v:aa}(h:Gr (σ0++l) n rows k v σ):Gr σ0 n rows k v σ:=by
 obtain⟨h1,h2,h3⟩:=h;simp only[List.length_append] at h1 h2 h3;refine⟨by omega,λc hc=>?_,?_⟩
 ·rw[h2 c (by omega),Xo l hc]
 ·rcases h3 with h3|⟨q1,b,q2,q3⟩
  ·exact .inl h3
  ·exact .inr ⟨q1,b,by omega,q3⟩
theorem Gr.put{σ0 σ:List ab}{n by_ k:Nat}{rows:List (List aa)}{v:aa}{z cs:List aa}{x:aa}(hg:Gr σ0 n rows k v σ)(hx:fill z [(0,n)] [x]=some cs)(hc:chunk n 1 cs=some [cs])(hr:cs.all aa.cell=true)(ct:(2*(k+1)+192)*by_≤2 ^ 48){K:aa→List ab→Prop}
 (hK:∀v' σ',Gr σ0 n (rows++[cs]) (k+1) v' σ'→K v' σ'):VV.wr (Yy n 1 z [(0,n)] [x] σ) σ (λt σ=>VV.wr (Zl n by_ [v,t] σ) σ K):=by
 rw[ZN _ _ _ _ _ cs hx hc];obtain⟨g1,g2,hg⟩:=hg;rcases hg with ⟨rfl,rfl,rfl⟩|⟨hk,b,Gs,rfl,hb,hl⟩
 ·rw[Jw _ n by_ σ cs hr (by simpa using ct)];refine hK _ _ ⟨by simp; omega,λc hc=>?_,.inr ⟨by omega,_,?_,rfl,by have:=Yf (σ++[.rows n [cs]]) (.rows n [cs]); simpa using this,rfl⟩⟩
  ·rw[Xo _ (by simp; omega),Xo _ (by omega),g2 c hc]
  ·omega
 ·rw[zf _ n by_ σ b k false rows cs hb hl hr ct];refine hK _ _ ⟨by simp; omega,λc hc=>?_,.inr ⟨by omega,_,?_,rfl,?_,by simp[hl]⟩⟩
  ·rw[Xo _ (by simp; omega),Xo _ (by simp; omega),Zg _ (by omega) (by omega),g2 c hc]
  ·omega
  ·have:=Yf (σ.set b .dead++[.rows n [cs]]) (.rows n (rows++[cs]));simpa using this
inductive Pt where
 |ef (x:Ef)
 |nm (x:Nm)
 |cn (x:Cn)
inductive y8:aa→Pt→Prop
 |ef (x:Ef):y8 (.iface 267 (.agg [.ao (aM x) 0])) (.ef x)
 |nm (row:List aa) (j:Nat) (x:Nm):lV row j x→y8 (.iface 279 (.agg [.ao row j])) (.nm x)
 |cn (row:List aa) (j:Nat) (x:Cn):qA row j x→y8 (.iface 281 (.agg [.ao row j])) (.cn x)
def Pt.kids:Pt→List Pt
 |.ef x=>(if bd x.op then [.nm x.n] else [])++(if x.op=8 then .cn x.c::(x.bM.map .ef++x.bQ.map .ef) else [])
 |.nm x=>x.kids.map .nm
 |.cn x=>x.ay.map .nm++x.kids.map .cn
def Pt.fit:Pt→Bool
 |.ef x=>dk x
 |.nm x=>cQ x
 |.cn x=>cz x
mutual
def o8:Nm→List Pt
 |.mk op n who kids=>.nm (.mk op n who kids)::nd kids
def nd:List Nm→List Pt
 |[]=>[]
 |x::l=>o8 x++nd l
end
mutual
def qJ:Cn→List Pt
 |.mk op who name ay kids=>.cn (.mk op who name ay kids)::(nd ay++ow kids)
def ow:List Cn→List Pt
 |[]=>[]
 |x::l=>qJ x++ow l
end
mutual
def jk:Ef→List Pt
 |.mk op who n name c bM bQ=>.ef (.mk op who n name c bM bQ)::((if bd op then o8 n else [])++(if op=8 then qJ c++(bS bM++bS bQ) else []))
def bS:List Ef→List Pt
 |[]=>[]
 |x::l=>jk x++bS l
end
def flat:Pt→List Pt
 |.ef x=>jk x
 |.nm x=>o8 x
 |.cn x=>qJ x
def dq:List Pt→List Pt
 |[]=>[]
 |p::l=>flat p++dq l
theorem Q6:∀a b,dq (a++b)=dq a++dq b
 |[],b=>rfl
 |p::a,b=>by simp[dq,Q6 a b]
theorem MF:∀l,dq (l.map .nm)=nd l
 |[]=>rfl
 |x::l=>by simp[dq,MF l,flat,nd]
theorem Tm:∀l,dq (l.map .cn)=ow l
 |[]=>rfl
 |x::l=>by simp[dq,Tm l,flat,ow]
theorem Es:∀l,dq (l.map .ef)=bS l
 |[]=>rfl
 |x::l=>by simp[dq,Es l,flat,bS]
theorem Ta(p:Pt):flat p=p::dq p.kids:=by
 cases p with
 |ef x=>
  obtain⟨op,who,n,name,c,bM,bQ⟩:=x;have e:Pt.kids (.ef (.mk op who n name c bM bQ))=(if bd op then [.nm n] else [])++(if op=8 then .cn c::(bM.map .ef++bQ.map .ef) else []):=rfl;rw[e,Q6];simp only[flat,jk]
  congr 2
  ·by_cases h:bd op=true<;>simp[h,dq,flat]
  ·by_cases h:op=8<;>simp[h,dq,flat,Q6,Es]
 |nm x=>cases x; simp[flat,o8,Pt.kids,Nm.kids,MF]
 |cn x=>cases x; simp[flat,qJ,Pt.kids,Cn.ay,Cn.kids,Q6,MF,Tm]
theorem Ul(p:Pt):0<(flat p).length:=by rw[Ta]; simp
theorem MX:∀ {l:List Pt} {p:Pt},p∈l→(flat p).length≤(dq l).length
 |q::l,p,h=>by
  simp only[dq,List.length_append];rcases List.mem_cons.1 h with rfl|h
  ·omega
  ·have:=MX h; omega
theorem Lf:∀l:List Pt,l.length≤(dq l).length
 |[]=>by simp
 |p::l=>by
  have:=Lf l;have:=Ul p;simp[dq]; omega
theorem YdG{p q:Pt}(h:p.fit=true)(hq:q∈p.kids):q.fit=true:=by
 cases p with
 |ef x=>
  simp only[Pt.kids,List.mem_append] at hq;rcases hq with hq|hq
  ·split at hq
   ·simp at hq; subst hq; exact vR h
   ·simp at hq
  ·split at hq
   ·simp only[List.mem_cons,List.mem_append,List.mem_map] at hq;rcases hq with rfl|⟨y,hy,rfl⟩|⟨y,hy,rfl⟩
    ·exact Y9 h
    ·exact ZS (XR h) hy
    ·exact ZS (YR h) hy
   ·simp at hq
 |nm x=>
  simp only[Pt.kids,List.mem_map] at hq;obtain⟨y,hy,rfl⟩:=hq;exact XW h hy
 |cn x=>
  simp only[Pt.kids,List.mem_append,List.mem_map] at hq;rcases hq with ⟨y,hy,rfl⟩|⟨y,hy,rfl⟩
  ·exact X3 h hy
  ·exact Y3 h hy
def fg{S:Type}(step:S→Pt→S×Bool):S→List Pt→S×Bool
 |s,[]=>(s,true)
 |s,p::l=>if (step s p).2=true then fg step (step s p).1 l else ((step s p).1,false)
theorem Jc{S:Type}(step:S→Pt→S×Bool):∀(a:List Pt) (s:S) (b:List Pt),fg step s (a++b)=if (fg step s a).2=true then fg step (fg step s a).1 b else ((fg step s a).1,false)
 |[],s,b=>by simp[fg]
 |p::a,s,b=>by
  simp only[List.cons_append,fg];by_cases h:(step s p).2=true
  ·simp only[if_pos h]; exact Jc step a _ b
  ·simp[if_neg h]
def Bt(b:Nat)(σ σ':List ab):Prop:=σ.length≤σ'.length∧∀c,c<σ.length→c≠b→ah σ' c=ah σ c
theorem Bt.refl(b:Nat)(σ:List ab):Bt b σ σ:=⟨Nat.le_refl _,λ_ _ _=>rfl⟩
theorem Bt.trans{b:Nat}{x y z:List ab}(h:Bt b x y)(k:Bt b y z):Bt b x z:=⟨Nat.le_trans h.1 k.1,λc hc hb=>by rw[k.2 c (by have:=h.1; omega) hb,h.2 c hc hb]⟩
theorem Bt.eo{b:Nat}{σ σ':List ab}(h:Bt b σ σ'){c:Nat}{x:ab}(hx:ah σ c=x)(hd:x≠.dead)(hc:c≠b):ah σ' c=x:=by
 rw[h.2 c (Ye hx hd) hc]; exact hx
theorem Bt.gr{σ σ':List ab}(b:Nat)(h1:σ.length≤σ'.length)(h:∀c,c<σ.length→ah σ' c=ah σ c):Bt b σ σ':=⟨h1,λc hc _=>h c hc⟩
def IZ{S:Type}(vu:aa)(b:Nat)(enc:S→List aa)(step:S→Pt→S×Bool):Prop:=
 ∀p v,y8 v p→∀s σ K,ah σ b=.box (enc s)→(∀σ',Bt b σ σ'→ah σ' b=.box (enc (step s p).1)→K (.bool (step s p).2) σ')→VV.call .jh [vu,v] σ K
inductive mn:List aa→List Pt→Prop
 |nil:mn [] []
 |snoc (vs:List aa) (ps:List Pt) (v:aa) (p:Pt):mn vs ps→y8 v p→mn (vs++[v]) (ps++[p])
theorem mn.length{vs:List aa}{ps:List Pt}(h:mn vs ps):vs.length=ps.length:=by
 induction h with
 |nil=>rfl
 |snoc vs ps v p h hv ih=>simp[ih]
theorem mn.get{vs:List aa}{ps:List Pt}(h:mn vs ps):∀i (h1:i<vs.length) (h2:i<ps.length),y8 vs[i] ps[i]:=by
 induction h with
 |nil=>intro i h; simp at h
 |snoc vs ps v p h hv ih=>
  intro i h1 h2;have hl:=h.length;simp only[List.length_append,List.length_singleton] at h1 h2;by_cases hi:i<vs.length
  ·rw[List.getElem_append_left hi,List.getElem_append_left (by omega)]; exact ih i hi (by omega)
  ·have e1:i=vs.length:=by omega
   subst e1;have:ps[vs.length]?=none:=by rw[List.getElem?_eq_none (by omega)]
   simp[hl,hv]
def one(v:aa):List aa:=[v]
end Go.Ah.Tz
end
section
namespace Go.Ah.Tz
open Go.Proofs.Tryz (prog)
attribute [local irreducible] ak.rd ak.pu ak.wr ak.dr ak.gr ak.gw ak.gl ak.gd ak.opt aH W
set_option maxHeartbeats 2000000
def j5(x:Ef):List aa:=[.iface 267 (.agg [.ao (aM x) 0])]
def ly(x:Nm):List aa:=[.iface 279 (.agg [.ao (ba x) 0])]
def oz(x:Cn):List aa:=[.iface 281 (.agg [.ao (cG x) 0])]
theorem Vv{σ0 σ:List ab}{k:Nat}{rows:List (List aa)}{v:aa}(l:List Ef)(hl:k+l.length≤1000000000)(hg:Gr σ0 1 rows k v σ){K:List aa→List ab→Prop}
 (hK:∀v' σ' w,Gr σ0 1 (rows++l.map j5) (k+l.length) v' σ'→K [w,v'] σ') :
  VV.loop (λag v55 σ=>VV.rd (Qn .lss false [(h0 v55),iv l.length] σ) λCx=>VV.test Cx (
   VV.rd (Zm 14 [ic l,(h0 v55)] σ) λCF=>VV.rd (QM [.ei] [(0,1)] [CF] σ) λCJ=>VV.rd (XE 267 [CJ] σ) λCK=>
   VV.wr (Yy 1 1 [.cV] [(0,1)] [CK] σ) σ λCM σ=>VV.wr (Zl 1 16 [(h1 v55),CM] σ) σ λCQ σ=>
   VV.rd (Qn .add false [(h0 v55),(.int .i64 1)] σ) λoV=>ag [oV,CQ] σ) (K v55 σ)) [(.int .i64 0),v] σ:=by
 refine Xj (ι:=Nat) (λi vs s=>∃v,vs=[iv i,v]∧i≤l.length∧Gr σ0 1 (rows++(l.take i).map j5) (k+i) v s) (λi=>l.length-i) 0 ⟨v,rfl,by omega,by simpa using hg⟩ ?_;rintro i vs s again ⟨v,rfl,hi,hg⟩ aZ;refine Za rfl (Zb (λh=>?_) (λh=>?_))
 ·have h:i<l.length:=by simpa using h
  refine Za (Zp _ aM _ _ _ l _ i h) (Za rfl (Za rfl ?_));refine hg.put (cs:=j5 l[i]) rfl rfl rfl (by omega) (λv' σ' sZ=>?_);refine Za (Yj ..) ?_;rw[Qd (n:=i) (by omega)];refine aZ (i+1) _ _ (by omega) ⟨v',rfl,by omega,?_⟩
  grind [QZ]
 grind
theorem yo{vs:List aa}{ps:List Pt}(h:mn vs ps):∀l:List Ef,mn (vs++(l.map j5).flatten) (ps++l.map .ef):=by
 intro l
 induction l generalizing vs ps with
 |nil=>simpa using h
 |cons x l ih=>
  have:=ih (mn.snoc _ _ _ _ h (.ef x));simpa[j5] using this
theorem yT{vs:List aa}{ps:List Pt}(h:mn vs ps):∀l:List Nm,mn (vs++(l.map ly).flatten) (ps++l.map .nm):=by
 intro l
 induction l generalizing vs ps with
 |nil=>simpa using h
 |cons x l ih=>
  have:=ih (mn.snoc _ _ _ _ h (.nm (ba x) 0 x (oR x)));simpa[ly] using this
theorem FX{vs:List aa}{ps:List Pt}(h:mn vs ps):∀l:List Cn,mn (vs++(l.map oz).flatten) (ps++l.map .cn):=by
 intro l
 induction l generalizing vs ps with
 |nil=>simpa using h
 |cons x l ih=>
  have:=ih (mn.snoc _ _ _ _ h (.cn (cG x) 0 x (wx x)));simpa[oz] using this
theorem Kf{α:Type}{f:α→List aa}(h:∀x,∃v,f x=[v]):∀l:List α,l.map f=((l.map f).flatten).map one
 |[]=>rfl
 |x::l=>by
  obtain⟨v,hv⟩:=h x;have:=Kf h l
  grind [one]
theorem I'(l:List Ef):l.map j5=((l.map j5).flatten).map one:=Kf (λ_=>⟨_,rfl⟩) l
theorem Sg(l:List Nm):l.map ly=((l.map ly).flatten).map one:=Kf (λ_=>⟨_,rfl⟩) l
theorem Ydn(l:List Cn):l.map oz=((l.map oz).flatten).map one:=Kf (λ_=>⟨_,rfl⟩) l
theorem c208{S:Type}{enc:S→List aa}{step:S→Pt→S×Bool}{vu:aa}{b:Nat}(hc:IZ vu b enc step):∀(k:Nat) (p:Pt),(flat p).length≤k→p.fit=true→(flat p).length≤500000000→∀v,y8 v p→∀s σ K,ah σ b=.box (enc s) →
  (∀σ',Bt b σ σ'→ah σ' b=.box (enc (fg step s (flat p)).1)→K (.bool (fg step s (flat p)).2) σ')→g181.u VV [v,vu] σ K
 |0,p,h,_,_=>by have:=Ul p; omega
 |k+1,p,hk,hf,hN=>by
  intro v hv s σ K hb hK;rw[Ta] at hk hN hK;simp only[List.length_cons] at hk hN;have mW:=Lf p.kids;rw[H2.e]; unfold g181; dsimp only;refine hc p v hv s σ _ hb (λσ1 t1 b1=>?_);simp only[fg] at hK;refine Za rfl (Zb (λh=>?_) (λh=>?_))
  ·simp_all
  have h:(step s p).2=true:=by simpa using h
  rw[h,if_pos rfl] at hK;generalize (step s p).1=s1 at hK b1;refine Qh λk2 yE=>?_;have kk:∀v2 σ2 vs,mn vs p.kids→Gr σ1 1 (vs.map one) vs.length v2 σ2→k2 [v2] σ2:=by
   intro v2 σ2 vs hp hg;rw[yE]; clear yE k2;have hlen:=hp.length;have ll:=hg.eo b1 (by simp);have t2:Bt b σ1 σ2:=⟨hg.1,λc hc _=>hg.2.1 c hc⟩;refine Za (hg.Gf.len _) ?_;refine Xj (ι:=Nat) (λi ws σ3=>∃s',ws=[iv i]∧i≤p.kids.length∧ah σ3 b=.box (enc s')∧Bt b σ2 σ3∧fg step s1 (dq p.kids)=fg step s' (dq (p.kids.drop i))) (λi=>p.kids.length-i) 0 ⟨s1,rfl,by omega,ll,Bt.refl _ _,by simp⟩ ?_;rintro i ws σ3 again ⟨s',rfl,hi,yu,t3,hr⟩ aZ;refine Za rfl (Zb (λh=>?_) (λh=>?_))
   ·have h:i<vs.length:=by simpa using h
    have h':i<p.kids.length:=by omega
    have wR:fq 1 (vs.map one) vs.length v2 σ3:=by
     rcases hg.2.2 with h|⟨q1,c,q2,q3,q4,q5⟩
     ·exact .inl h
     ·refine .inr ⟨q1,c,q3,?_,q5⟩;have sy:c≠b:=by
       grind
      exact t3.eo q4 (by simp) sy
    obtain⟨c,e1,hj,e2⟩:=wR.at .i64 i h;refine Za e1 (Za (e2 false 1 vs[i] (by simp[one])) ?_);have eK:p.kids[i]∈p.kids:=List.getElem_mem h';have sY:=MX eK;have cX:p.kids.drop i=p.kids[i]::p.kids.drop (i+1):=fA h';rw[cX,dq,Jc] at hr;refine Qg hP rfl g181.ok rfl ?_;refine c208 hc k p.kids[i] (by omega) (YdG hf eK) (by omega) _ (hp.get i h h') s' σ3 _ yu (λσ4 t4 b4=>?_);refine Za rfl (Zb (λh5=>?_) (λh5=>?_))
    ·have h5:(fg step s' (flat p.kids[i])).2=false:=by simpa using h5
     rw[h5] at hr;have:=hK σ4 ((t1.trans t2).trans (t3.trans t4)) (by rw[hr]; exact b4);rw[hr] at this; exact this
    ·have h5:(fg step s' (flat p.kids[i])).2=true:=by simpa using h5
     rw[h5,if_pos rfl] at hr;refine Za (Yj ..) ?_;rw[Qd (n:=i) (by omega)];exact aZ (i+1) _ _ (by omega) ⟨_,rfl,by omega,b4,t3.trans t4,hr⟩
   ·have h:i=p.kids.length:=by simp at h; omega
    subst h;rw[List.drop_length,dq,fg] at hr;have:=hK σ3 ((t1.trans t2).trans t3) (by rw[hr]; exact yu);rw[hr] at this; exact this
  clear yE hK hb hc;cases hv with
  |ef x=>
   refine Za rfl (Za rfl (Za rfl (Xc ?_)));refine Xq (row:=[.ao (aM x) 0]) rfl rfl rfl ?_;have hB:=Yf σ1 (ab.box [.ao (aM x) 0]);have cp:σ1.length<(σ1++[ab.box [.ao (aM x) 0]]).length:=by simp
   have kb:∀v2 σ2 vs,mn vs (Pt.ef x).kids→Gr (σ1++[ab.box [.ao (aM x) 0]]) 1 (vs.map one) vs.length v2 σ2→k2 [v2] σ2:=λv2 σ2 vs h1 h2=>kk v2 σ2 vs h1 h2.base;clear kk b1 t1;generalize σ1++[ab.box [.ao (aM x) 0]]=τ at hB cp kb ⊢;generalize σ1.length=c at hB cp ⊢;refine Za rfl (Za (ld hB rfl) (Za rfl (Za rfl (Za (an (bq _)) ?_))));refine Xb (c210 _) rfl g161.ok.plain rfl ?_;refine Qh λk14 zT=>?_;have k1:∀v σ2 vs,mn vs (if bd x.op then [.nm x.n] else [])→Gr τ 1 (vs.map one) vs.length v σ2→k14 [v] σ2:=by
    intro v σ2 vs hp hg;rw[zT]; clear zT k14;have fJ:=hg.eo hB (by simp);have hvl:vs.length≤1:=by rw[hp.length]; split<;>simp
    refine Za rfl (Za (ld fJ rfl) (Za rfl (Za rfl (Za (an (bq _)) (Za (Zf ..) ?_)))));refine Zb (λh=>?_) (λh=>?_);rotate_left
    ·have h:¬x.op=8:=by simpa using h
     refine kb _ _ vs ?_ hg;simp_all [Pt.kids]
    have h:x.op=8:=by simpa using h
    have GU:(Pt.ef x).kids=(if bd x.op then [.nm x.n] else [])++(.cn x.c::(x.bM.map .ef++x.bQ.map .ef)):=by simp only[Pt.kids,if_pos h]
    have gL:x.bM.length+x.bQ.length+1≤500000000:=by
     grind
    refine Za rfl (Za (ld fJ rfl) (Za rfl (Za rfl (Za rfl (Za rfl ?_)))));refine hg.put (cs:=[.iface 281 (.agg [.ao (aM x) 7])]) rfl rfl rfl (by omega) (λv' σ' sZ=>?_);have kU:=sZ.eo hB (by simp);refine Za rfl (Za (ld kU rfl) (Za rfl (Za rfl (Za (an (Qr _)) ?_))));refine Za rfl (Za (ld kU rfl) (Za rfl (Za rfl (Za (an (Zs _)) ?_))));refine Za rfl ?_;refine YK 3 (Xk (Za rfl (Xc (Za rfl ?_))));refine Za (v:=iv x.bM.length) (rd:=[]) (by simp[Zh]) ?_;refine Vv x.bM (by omega) sZ (λv3 σ3 w wR=>?_);refine Za rfl (Xk (Za rfl (Xc (Za rfl ?_))));refine Za (v:=iv x.bQ.length) (rd:=[]) (by simp[Zh]) ?_;refine Vv x.bQ (by omega) wR (λv4 σ4 w hg4=>?_);refine Za rfl (Xk (Za rfl (Yd ?_)));refine kb _ _ ((vs++[.iface 281 (.agg [.ao (aM x) 7])])++(x.bM.map j5).flatten++(x.bQ.map j5).flatten) ?_ ?_
    ·rw[GU];have:=yo (yo (mn.snoc _ _ _ _ hp (.cn (aM x) 7 x.c (yg x))) x.bM) x.bQ;simpa using this
    ·have e1:((vs++[aa.iface 281 (.agg [.ao (aM x) 7])])++(x.bM.map j5).flatten++(x.bQ.map j5).flatten).map one=List.map one vs++[[aa.iface 281 (.agg [.ao (aM x) 7])]]++List.map j5 x.bM++List.map j5 x.bQ:=by
      rw[List.map_append,List.map_append,←I',←I',List.map_append]; rfl
     have e2:((vs++[aa.iface 281 (.agg [.ao (aM x) 7])])++(x.bM.map j5).flatten++(x.bQ.map j5).flatten).length=vs.length+1+x.bM.length+x.bQ.length:=by
      have l1:=congrArg List.length (I' x.bM);have l2:=congrArg List.length (I' x.bQ)
      grind
     rw[e1,e2]; exact hg4
   clear zT;refine Zb (λh=>?_) (λh=>?_)
   ·refine Za rfl (Za (ld hB rfl) (Za rfl (Za rfl (Za rfl (Za rfl ?_)))));refine(Gr.nil 1 τ).put (cs:=[.iface 279 (.agg [.ao (aM x) 2])]) rfl rfl rfl (by omega) (λv' σ' sZ=>?_);refine k1 _ _ [.iface 279 (.agg [.ao (aM x) 2])] ?_ sZ;rw[if_pos h];exact mn.snoc [] [] _ _ .nil (.nm (aM x) 2 x.n (yS x))
   ·refine k1 _ _ [] ?_ (Gr.nil 1 τ);rw[h]; exact .nil
  |nm row j x hx=>
   refine Za rfl (Za rfl (Za rfl (Yd ?_)));refine Za rfl (Za rfl (Za rfl (Xc ?_)));refine Xq (row:=[.ao row j]) rfl rfl rfl ?_;have hB:=Yf σ1 (ab.box [.ao row j]);have kb:∀v2 σ2 vs,mn vs (Pt.nm x).kids→Gr (σ1++[ab.box [.ao row j]]) 1 (vs.map one) vs.length v2 σ2→k2 [v2] σ2:=λv2 σ2 vs h1 h2=>kk v2 σ2 vs h1 h2.base;clear kk b1 t1;generalize σ1++[ab.box [.ao row j]]=τ at hB kb ⊢;generalize σ1.length=c at hB ⊢;have gL:x.kids.length≤500000000:=by
    grind [Pt.kids]
   refine Za rfl (Za (ld hB rfl) (Za rfl (Za rfl (Za (an hx.h3) ?_))));refine Za (v:=iv x.kids.length) (rd:=[]) (by simp[Zh]) ?_;refine Xj (ι:=Nat) (λi vs s=>∃v,vs=[iv i,v]∧i≤x.kids.length∧Gr τ 1 ((x.kids.take i).map ly) i v s) (λi=>x.kids.length-i) 0 ⟨_,rfl,by omega,by simpa using Gr.nil 1 τ⟩ ?_;rintro i vs s again ⟨v,rfl,hi,hg⟩ aZ;refine Za rfl (Zb (λh=>?_) (λh=>?_))
   ·have h:i<x.kids.length:=by simpa using h
    refine Za rfl (Za (ld (hg.eo hB (by simp)) rfl) (Za rfl (Za rfl (Za (an hx.h3) ?_))));refine Za (Zp _ ba _ _ _ x.kids _ i h) (Za rfl (Za rfl ?_));refine hg.put (cs:=ly x.kids[i]) rfl rfl rfl (by omega) (λv' σ' sZ=>?_);refine Za (Yj ..) ?_;rw[Qd (n:=i) (by omega)];refine aZ (i+1) _ _ (by omega) ⟨v',rfl,by omega,?_⟩
    grind [QZ]
   ·have h:i=x.kids.length:=by simp at h; omega
    subst h;rw[List.take_length] at hg;refine kb _ _ (x.kids.map ly).flatten ?_ ?_
    ·have:=yT .nil x.kids;simpa[Pt.kids] using this
    ·have e1:=Sg x.kids;have e2:=congrArg List.length e1;rw[←e1];simp only[List.length_map] at e2;rw[←e2]; exact hg
  |cn row j x hx=>
   refine Za rfl (Za rfl (Za rfl (Yd ?_)));refine Za rfl (Za rfl (Za rfl (Yd ?_)));refine Za rfl (Za rfl (Za rfl (Xc ?_)));refine Xq (row:=[.ao row j]) rfl rfl rfl ?_;have hB:=Yf σ1 (ab.box [.ao row j]);have kb:∀v2 σ2 vs,mn vs (Pt.cn x).kids→Gr (σ1++[ab.box [.ao row j]]) 1 (vs.map one) vs.length v2 σ2→k2 [v2] σ2:=λv2 σ2 vs h1 h2=>kk v2 σ2 vs h1 h2.base;clear kk b1 t1;generalize σ1++[ab.box [.ao row j]]=τ at hB kb ⊢;generalize σ1.length=c at hB ⊢;have gL:x.ay.length+x.kids.length≤500000000:=by
    grind [Pt.kids]
   refine Za rfl (Za (ld hB rfl) (Za rfl (Za rfl (Za (an hx.h3) ?_))));refine Za (v:=iv x.ay.length) (rd:=[]) (by simp[Zh]) ?_;refine Xj (ι:=Nat) (λi vs s=>∃v,vs=[iv i,v]∧i≤x.ay.length∧Gr τ 1 ((x.ay.take i).map ly) i v s) (λi=>x.ay.length-i) 0 ⟨_,rfl,by omega,by simpa using Gr.nil 1 τ⟩ ?_;rintro i vs s again ⟨v,rfl,hi,hg⟩ aZ;refine Za rfl (Zb (λh=>?_) (λh=>?_))
   ·have h:i<x.ay.length:=by simpa using h
    refine Za rfl (Za (ld (hg.eo hB (by simp)) rfl) (Za rfl (Za rfl (Za (an hx.h3) ?_))));refine Za (Zp _ ba _ _ _ x.ay _ i h) (Za rfl (Za rfl ?_));refine hg.put (cs:=ly x.ay[i]) rfl rfl rfl (by omega) (λv' σ' sZ=>?_);refine Za (Yj ..) ?_;rw[Qd (n:=i) (by omega)];refine aZ (i+1) _ _ (by omega) ⟨v',rfl,by omega,?_⟩
    grind [QZ]
   have h:i=x.ay.length:=by simp at h; omega
   subst h;rw[List.take_length] at hg;clear aZ;refine Za rfl (Za (ld (hg.eo hB (by simp)) rfl) (Za rfl (Za rfl (Za (an hx.h4) ?_))));refine Za (v:=iv x.kids.length) (rd:=[]) (by simp[Zh]) ?_;refine Xj (ι:=Nat) (λi vs s=>∃v,vs=[iv i,v]∧i≤x.kids.length∧Gr τ 1 (x.ay.map ly++(x.kids.take i).map oz) (x.ay.length+i) v s) (λi=>x.kids.length-i) 0 ⟨_,rfl,by omega,by simpa[h1,oZ,iL] using hg⟩ ?_;clear hg;rintro i vs s again ⟨v,rfl,hi,hg⟩ aZ;refine Za rfl (Zb (λh=>?_) (λh=>?_))
   ·have h:i<x.kids.length:=by simpa using h
    refine Za rfl (Za (ld (hg.eo hB (by simp)) rfl) (Za rfl (Za rfl (Za (an hx.h4) ?_))));refine Za (Zp _ cG _ _ _ x.kids _ i h) (Za rfl (Za rfl ?_));refine hg.put (cs:=oz x.kids[i]) rfl rfl rfl (by omega) (λv' σ' sZ=>?_);refine Za (Yj ..) ?_;rw[Qd (n:=i) (by omega)];refine aZ (i+1) _ _ (by omega) ⟨v',rfl,by omega,?_⟩
    grind [QZ]
   ·have h:i=x.kids.length:=by simp at h; omega
    subst h;rw[List.take_length] at hg;refine kb _ _ ((x.ay.map ly).flatten++(x.kids.map oz).flatten) ?_ ?_
    ·have:=FX (yT .nil x.ay) x.kids;simpa[Pt.kids] using this
    ·have e1:((x.ay.map ly).flatten++(x.kids.map oz).flatten).map one=x.ay.map ly++x.kids.map oz:=by
      grind [Sg,Ydn]
     have e2:=congrArg List.length e1;simp only[List.length_map,List.length_append] at e2;simp_all
end Go.Ah.Tz
end
section
namespace Go.Ah.Tz
open Go.Proofs.Tryz (prog)
mutual
theorem E6:∀x:Nm,lP x=min ((o8 x).length:Int) 1073741824
 |.mk op n who kids=>by
  simp only[lP,o8,List.length_cons]
  rw[Mg 1 kids (by omega) (by omega)]; omega
theorem Mg:∀(n:Int) (l:List Nm),0≤n→n≤1073741824→ju n l=min (n+((nd l).length:Int)) 1073741824
 |n,[],h1,h2=>by simp only[ju,nd,List.length_nil]; omega
 |n,x::l,h1,h2=>by
  simp only[ju,nd,List.length_append]
  rw[E6 x,Mg _ l (by omega) (by omega)]; omega
end
mutual
theorem Tv:∀x:Cn,oA x=min ((qJ x).length:Int) 1073741824
 |.mk op who name ay kids=>by
  simp only[oA,qJ,List.length_cons,List.length_append]
  rw[Mg 1 ay (by omega) (by omega),Vw _ kids (by omega) (by omega)]; omega
theorem Vw:∀(n:Int) (l:List Cn),0≤n→n≤1073741824→mD n l=min (n+((ow l).length:Int)) 1073741824
 |n,[],h1,h2=>by simp only[mD,ow,List.length_nil]; omega
 |n,x::l,h1,h2=>by
  simp only[mD,ow,List.length_append]
  rw[Tv x,Vw _ l (by omega) (by omega)]; omega
end
mutual
theorem F_:∀(n:Int) (x:Ef),0≤n→n≤1073741824→zC n x=min (n+((jk x).length:Int)) 1073741824
 |n,.mk op who nn name c bM bQ,h1,h2=>by
  simp only[zC,jk,List.length_cons,List.length_append]
  rw[E6 nn,Tv c,DO 0 bM (by omega) (by omega),DO 0 bQ (by omega) (by omega)]
  generalize bd op=cb
  by_cases h:op=8
  ·simp only[if_pos h]
   cases cb<;>simp only[if_true,if_false,List.length_append,List.length_nil,Bool.false_eq_true]<;>omega
  ·simp only[if_neg h]
   cases cb<;>simp only[if_true,if_false,List.length_nil,Bool.false_eq_true]<;>omega
theorem DO:∀(n:Int) (l:List Ef),0≤n→n≤1073741824→ee n l=min (n+((bS l).length:Int)) 1073741824
 |n,[],h1,h2=>by simp only[ee,bS,List.length_nil]; omega
 |n,x::l,h1,h2=>by
  simp only[ee,bS,List.length_append]
  rw[F_ n x h1 h2,DO _ l (by omega) (by omega)]; omega
end
def oW(c:Cd):List Pt:=bS c.ca++(bS c.dead++bS c.dJ)
theorem J9(c:Cd):nD c=min ((oW c).length:Int) 1073741824:=by
 rw[nD,DO 0 _ (by omega) (by omega),DO 0 _ (by omega) (by omega),DO 0 _ (by omega) (by omega),oW];simp only[List.length_append]; omega
attribute [local irreducible] ak.rd ak.pu ak.wr ak.dr ak.gr ak.gw ak.gl ak.gd ak.opt aH W
set_option maxHeartbeats 1000000
theorem YcR(l:List Ef):bS l=dq (l.map .ef):=(Es l).symm
theorem MQ{S:Type}{enc:S→List aa}{step:S→Pt→S×Bool}{vu:aa}{b:Nat}(hc:IZ vu b enc step)(l:List Ef)(hf:bG l=true)(hN:(bS l).length≤500000000){s:S}{σ:List ab}(hb:ah σ b=.box (enc s)){R:List ab→Prop}{K:List aa→List ab→Prop}
 (hR:∀σ',Bt b σ σ'→ah σ' b=.box (enc (fg step s (bS l)).1)→(fg step s (bS l)).2=false→R σ')(hK:∀w σ',Bt b σ σ'→ah σ' b=.box (enc (fg step s (bS l)).1)→(fg step s (bS l)).2=true→K w σ') :
  VV.loop (λNw v16 σ=>VV.rd (Qn .lss false [(h0 v16),iv l.length] σ) λnq=>VV.test nq (
   VV.rd (Zm 14 [ic l,(h0 v16)] σ) λBf=>VV.rd (QM [.ei] [(0,1)] [Bf] σ) λBi=>VV.rd (XE 267 [Bi] σ) λBm=>
   VV.call (.call 181) [Bm,vu] σ λBv σ=>VV.rd (pd .not [Bv] σ) λBB=>VV.test BB (R σ) (
   VV.rd (Qn .add false [(h0 v16),(.int .i64 1)] σ) λBE=>Nw [BE] σ)) (K v16 σ)) [(.int .i64 0)] σ:=by
 have hl:=Lf (l.map .ef);rw[Es,List.length_map] at hl;rw[YcR] at hR hK;refine Xj (ι:=Nat) (λi ws σ3=>∃s',ws=[iv i]∧i≤l.length∧ah σ3 b=.box (enc s')∧Bt b σ σ3∧fg step s (dq (l.map .ef))=fg step s' (dq ((l.drop i).map .ef))) (λi=>l.length-i) 0 ⟨s,rfl,by omega,hb,Bt.refl _ _,by simp⟩ ?_;rintro i ws σ3 again ⟨s',rfl,hi,yu,t3,hr⟩ aZ;refine Za rfl (Zb (λh=>?_) (λh=>?_))
 ·have h:i<l.length:=by simpa using h
  refine Za (Zp _ aM _ _ _ l _ i h) (Za rfl (Za rfl ?_));have cX:l.drop i=l[i]::l.drop (i+1):=fA h;rw[cX,List.map_cons,dq,Jc] at hr;refine Qg hP rfl g181.ok rfl ?_;have hm:=MX (l:=l.map .ef) (p:=.ef l[i]) (List.mem_map_of_mem (List.getElem_mem h));rw[Es] at hm;refine c208 hc _ (.ef l[i]) (Nat.le_refl _) (ZS hf (List.getElem_mem h)) (by omega) _ (.ef _) s' σ3 _ yu (λσ4 t4 b4=>?_);refine Za rfl (Zb (λh5=>?_) (λh5=>?_))
  ·have h5:(fg step s' (flat (.ef l[i]))).2=false:=by simpa using h5
   rw[h5] at hr;exact hR σ4 (t3.trans t4) (by rw[hr]; exact b4) (by rw[hr]; rfl)
  ·have h5:(fg step s' (flat (.ef l[i]))).2=true:=by simpa using h5
   rw[h5,if_pos rfl] at hr;refine Za (Yj ..) ?_;rw[Qd (n:=i) (by omega)];exact aZ (i+1) _ _ (by omega) ⟨_,rfl,by omega,b4,t3.trans t4,hr⟩
 ·have h:i=l.length:=by simp at h; omega
  subst h;rw[List.drop_length,List.map_nil,dq,fg] at hr;exact hK _ σ3 t3 (by rw[hr]; exact yu) (by rw[hr])
theorem c155{S:Type}{enc:S→List aa}{step:S→Pt→S×Bool}{vu:aa}{b:Nat}(hc:IZ vu b enc step)(c:Cd)(f1:bG c.ca=true)(f2:bG c.dead=true)(f3:bG c.dJ=true)(hN:(oW c).length≤500000000){s:S}{σ:List ab}{cb:Nat}(sy:ah σ cb=.box (b_ c))(hb:ah σ b=.box (enc s)){K:aa→List ab→Prop}
 (hK:∀σ',Bt b σ σ'→ah σ' b=.box (enc (fg step s (oW c)).1)→K (.bn []) σ'):g158.u VV [.ai cb 0,vu] σ K:=by
 simp only[oW,List.length_append] at hN;simp only[oW,Jc] at hK;rw[H2.e]; unfold g158; dsimp only;refine Za rfl (Za rfl (Za (ld sy rfl) (Za rfl (Za rfl (Za (ld sy rfl) (Za rfl (Za rfl (Za (ld sy rfl) (Za rfl ?_)))))))));refine YK 4 (Xk (Za rfl (Xc (Za rfl ?_))));refine Za (v:=iv c.ca.length) (rd:=[]) (by simp[Zh]) ?_;refine MQ hc c.ca f1 (by omega) hb (λσ1 t1 b1 h1=>?_) (λw σ1 t1 b1 h1=>?_)
 ·rw[h1] at hK; exact hK σ1 t1 b1
 rw[h1,if_pos rfl] at hK;refine Za rfl (Xk (Za rfl (Xc (Za rfl ?_))));refine Za (v:=iv c.dead.length) (rd:=[]) (by simp[Zh]) ?_;refine MQ hc c.dead f2 (by omega) b1 (λσ2 t2 b2 h2=>?_) (λw σ2 t2 b2 h2=>?_)
 ·rw[h2] at hK; exact hK σ2 (t1.trans t2) b2
 rw[h2,if_pos rfl] at hK;refine Za rfl (Xk (Za rfl (Xc (Za rfl ?_))));refine Za (v:=iv c.dJ.length) (rd:=[]) (by simp[Zh]) ?_;refine MQ hc c.dJ f3 (by omega) b2 (λσ3 t3 b3 h3=>?_) (λw σ3 t3 b3 h3=>?_)
 ·exact hK σ3 ((t1.trans t2).trans t3) b3
 refine Za rfl (Xk (Za rfl (Yd ?_)));exact hK σ3 ((t1.trans t2).trans t3) b3
def zA(n:Int)(_:Pt):Int×Bool:=(IntKind.i64.wrap (n+1),decide (IntKind.i64.wrap (n+1)<1073741824))
theorem T9:∀(l:List Pt) (n:Int),0≤n→n+(l.length:Int)<1073741824→fg zA n l=(n+(l.length:Int),true)
 |[],n,_,_=>by simp[fg]
 |p::l,n,h1,h2=>by
  simp only[List.length_cons] at h2;have hw:IntKind.i64.wrap (n+1)=n+1:=bc (by omega) (by omega);simp only[fg,zA,hw];rw[if_pos (by simp; omega),T9 l (n+1) (by omega) (by omega),List.length_cons]
  congr 1; omega
theorem zz(b:Nat):IZ (.func (.func 159) [] [.ai b 0]) b (λn:Int=>[iv n]) zA:=by
 intro p v hv s σ K hb hK;refine Qg hP rfl g159.ok rfl ?_;show g159.u VV [v,.ai b 0] σ K;rw[H2.e]; unfold g159; dsimp only;have cp:=Ye hb (by simp);refine Za (ld hb rfl) (Za (Yj ..) (Qb (cM hb rfl rfl rfl) (Xg _ cp) ?_));have ll:ah (σ.set b (.box [iv (IntKind.i64.wrap (s+1))])) b=.box [iv (IntKind.i64.wrap (s+1))]:=Xe _ cp;refine Za (ld ll rfl) (Za (YZ ..) ?_);exact hK _ ⟨by simp,λc hc cL=>Zg _ hc cL⟩ ll
theorem c124(c:Cd)(f1:bG c.ca=true)(f2:bG c.dead=true)(f3:bG c.dJ=true)(hN:(oW c).length≤500000000):PC 129 [.agg (b_ c)] (iv (nD c)):=by
 refine Yc hP g129.ok rfl rfl ?_;rw[H1.e]; unfold g129; dsimp only;refine Qb rfl rfl (Qb rfl rfl (Qb rfl rfl (Za rfl ?_)));refine Qg hP rfl g158.ok rfl ?_;refine c155 (zz 1) c f1 f2 f3 hN (s:=0) rfl rfl (λσ' _ hb=>?_);rw[T9 _ 0 (by omega) (by omega)] at hb;refine Za (ld hb rfl) ?_;rw[J9]
 congr 1; omega
end Go.Ah.Tz
end
section
namespace Go.Ah.Tz
open Go.Proofs.Tryz (prog)
attribute [local irreducible] ak.rd ak.pu ak.wr ak.dr ak.gr ak.gw ak.gl ak.gd ak.opt aH W
set_option maxHeartbeats 1000000
theorem vZ(σ:List ab)(x:Ef):tl [.agg (aM x)] σ=.ok (.ai σ.length 0) [] [(σ.length,.box (aM x))]:=by rw[XC]; rfl
def dE{α:Type}(f:α→Bool):List α→Int→Int
 |[],_=>-1
 |x::l,n=>if f x=true then n else dE f l (n+1)
theorem JW{α:Type}(f:α→Bool):∀(l:List α) (n:Int),0≤n→decide (0≤dE f l n)=l.any f
 |[],_,_=>rfl
 |x::l,n,h=>by
  by_cases hf:f x=true
  ·have e:dE f (x::l) n=n:=if_pos hf;rw[e,List.any_cons,hf]; simpa using h
  ·have e:dE f (x::l) n=dE f l (n+1):=if_neg hf;have KO:f x=false:=by simpa using hf
   rw[e,JW f l (n+1) (by omega),List.any_cons,KO]; rfl
theorem L9{P:Program}{GL:aw}{c d:Bool}{K:aa→Prop}{r1:az}{f2 f3 f4:aa→az}{σ:List ab}{v1 v2 v3:aa}{q1 q2 q3 q4:List Nat}(h1:r1=.ok v1 q1 [])(h2:f2 v1=.ok v2 q2 [])(h3:f3 v2=.ok v3 q3 [])(h4:f4 v3=.ok (.bool d) q4 [])(hK:K (.bool (c&&d))) :
  (W P GL).gr (.bool c) true (λk=>(W P GL).rd r1 k) λt1=>(W P GL).gr (.bool c) true (λk=>(W P GL).rd (f2 t1) k) λt2=>(W P GL).gr (.bool c) true (λk=>(W P GL).rd (f3 t2) k) λt3=>(W P GL).gr (.bool c) true (λk=>(W P GL).rd (f4 t3) k) λt4=>(W P GL).rd (Ym [.bool c,t4,.bool false] σ) K:=by
 cases c with
 |true=>exact Ya (Za h1 (Ya (Za h2 (Ya (Za h3 (Ya (Za h4 (Za rfl hK))))))))
 |false=>exact Qa rfl (Qa rfl (Qa rfl (Qa rfl (Za rfl hK))))
theorem c255(l:List Ef)(hl:l.length≤gp)(id:FuncId)(fs cs:List aa)(hp:Qj prog id=true)(f:Ef→Bool)(hc:∀x∈l,PC id (fs++[.agg (aM x)]++cs) (.bool (f x)))(hr:∀x,fz (fs++[.agg (aM x)]++cs)=true) :
  PC 194 [ic l,.func (.func id) fs cs] (iv (dE f l 0)):=by
 rw[cO] at hl;refine Yc hP g194.ok rfl rfl ?_;rw[H2.e]; unfold g194; dsimp only;refine Za (v:=iv l.length) (rd:=[]) (by simp[Zh]) ?_;refine Xj (ι:=Nat) (λi vs s=>vs=[iv i]∧i≤l.length∧dE f l 0=dE f (l.drop i) i) (λi=>l.length-i) 0 ⟨rfl,by omega,by simp⟩ ?_;rintro i vs s again ⟨rfl,hi,jV⟩ aZ;refine Za rfl (Zb (λh=>?_) (λh=>?_))
 ·have h:i<l.length:=by simpa using h
  refine Za (Zp _ aM _ _ _ l _ i h) (Za (an (lk _)) ?_);refine Xb (hc _ (List.getElem_mem h)) rfl hp (hr _) ?_;rw[fA h,dE] at jV;refine Zb (λh2=>?_) (λh2=>?_)
  ·rw[if_pos h2] at jV; rw[jV]; rfl
  ·rw[if_neg (by rw[h2]; simp)] at jV;refine Za (Yj ..) ?_;rw[Qd (n:=i) (by omega)];exact aZ (i+1) _ _ (by omega) ⟨rfl,by omega,by rw[jV]; push_cast; rfl⟩
 ·have h:i=l.length:=by simp at h; omega
  subst h;rw[List.drop_length,dE] at jV;rw[jV]
theorem c239(l:List Ef)(hl:l.length≤gp)(id:FuncId)(fs cs:List aa)(hp:Qj prog id=true)(f:Ef→Bool)(hc:∀x∈l,PC id (fs++[.agg (aM x)]++cs) (.bool (f x)))(hr:∀x,fz (fs++[.agg (aM x)]++cs)=true)(He:fz [ic l,.func (.func id) fs cs]=true) :
  PC 176 [ic l,.func (.func id) fs cs] (.bool (l.any f)):=by
 refine Yc hP g176.ok rfl rfl ?_;rw[H2.e]; unfold g176; dsimp only;refine Xb (c255 l hl id fs cs hp f hc hr) rfl g194.ok.plain He ?_;refine Za (X5 ..) ?_;rw[JW f l 0 (by omega)]
def tz(u:Int):List aa:=[.func (.func 172) [.agg [ar u]] [],.func (.func 172) [.agg [ar u]] [],.func (.func 172) [.agg [ar u]] [],.func (.func 172) [.agg [ar u]] [],.func (.func 173) [.agg [ar u]] [],.func (.func 174) [.agg [ar u]] [],.func (.func 173) [.agg [ar u]] [],.func (.func 173) [.agg [ar u]] [],.func (.func 175) [.agg [ar u]] []]
theorem c240(u:Int)(x:Ef)(hf:dk x=true)(h238:x.op=8→PC 175 [.agg [ar u],.agg (aM x)] (.bool (py u x))):PC 177 [.agg (aM x),.ao [ar u] 0,.ao (tz u) 0] (.bool (!py u x)):=by
 have mX:=Ydk hf;refine Yc hP g177.ok rfl rfl ?_;rw[H3.e]; unfold g177; dsimp only;refine Qb (vZ _ _) rfl (Za rfl (Za rfl (Za rfl (Za (ld rfl (bq x)) (Za (X5 ..) ?_)))));have p235:x.op=0∨x.op=1∨x.op=2∨x.op=3→PC 172 [.agg [ar u],.agg (aM x)] (.bool (py u x)):=by
  intro h;have e:py u x=decide (cu u (rh x.n)=0):=by rw[Fh,if_neg (by omega),if_neg (by omega),if_pos h]
  rw[e]; exact c235 u x hf
 have p236:¬(x.op=0∨x.op=1∨x.op=2∨x.op=3)→x.op≠5→x.op≠8→PC 173 [.agg [ar u],.agg (aM x)] (.bool (py u x)):=by
  intro h h5 h8;have e:py u x=decide (kW u=0):=by rw[Fh,if_neg h5,if_neg h8,if_neg h,T2]
  rw[e]; exact c236 u x
 have p237:x.op=5→PC 174 [.agg [ar u],.agg (aM x)] (.bool (py u x)):=by
  intro h;have e:py u x=DU (cu u (rh x.n)) 1:=by rw[Fh,if_pos h]
  rw[e]; exact c237 u x hf
 refine L9 rfl (ld rfl (bq x)) rfl (YZ ..) ?_;rw[bc (n:=x.op) (by omega) (by omega)];refine Qh λk11 i_=>?_;have hk:∀id,Qj prog id=true→PC id [.agg [ar u],.agg (aM x)] (.bool (py u x))→k11 [.func (.func id) [.agg [ar u]] []] [.box (aM x)]:=by
  intro id hp hc;rw[i_];refine Za (ld rfl (lk x)) ?_;refine Xb hc rfl hp (N6 u x) ?_;exact Za rfl rfl
 clear i_;refine Zb (λh=>?_) (λh=>?_)
 ·have h:0≤x.op∧x.op<9:=by simpa using h
  refine Za rfl (Za (ld rfl (bq x)) ?_);have gC:x.op=0∨x.op=1∨x.op=2∨x.op=3∨x.op=4∨x.op=5∨x.op=6∨x.op=7∨x.op=8:=by omega
  rcases gC with e|e|e|e|e|e|e|e|e
  ·have q:=p235 (by omega); rw[e]; exact Za rfl (Za rfl (hk _ g172.ok.plain q))
  ·have q:=p235 (by omega); rw[e]; exact Za rfl (Za rfl (hk _ g172.ok.plain q))
  ·have q:=p235 (by omega); rw[e]; exact Za rfl (Za rfl (hk _ g172.ok.plain q))
  ·have q:=p235 (by omega); rw[e]; exact Za rfl (Za rfl (hk _ g172.ok.plain q))
  ·have q:=p236 (by omega) (by omega) (by omega); rw[e]; exact Za rfl (Za rfl (hk _ g173.ok.plain q))
  ·have q:=p237 e; rw[e]; exact Za rfl (Za rfl (hk _ g174.ok.plain q))
  ·have q:=p236 (by omega) (by omega) (by omega); rw[e]; exact Za rfl (Za rfl (hk _ g173.ok.plain q))
  ·have q:=p236 (by omega) (by omega) (by omega); rw[e]; exact Za rfl (Za rfl (hk _ g173.ok.plain q))
  ·have q:=h238 e; rw[e]; exact Za rfl (Za rfl (hk _ g175.ok.plain q))
 ·have h:0≤x.op→¬x.op<9:=by simpa using h
  exact hk _ g173.ok.plain (p236 (by omega) (by omega) (by omega))
theorem c238(u:Int)(x:Ef)(hf:dk x=true)(h1:∀u',PC 155 [.agg [ar u'],ic x.bM] (.bool (cP u' x.bM)))(h2:∀u',PC 155 [.agg [ar u'],ic x.bQ] (.bool (cP u' x.bQ))) :
  PC 175 [.agg [ar u],.agg (aM x)] (.bool (cP (cu u (nT x.c)) x.bM&&cP (cu u (nT x.c)) x.bQ)):=by
 refine Yc hP g175.ok rfl rfl ?_;rw[H2.e]; unfold g175; dsimp only;refine Qb rfl rfl (Qb (vZ _ _) rfl (Qe rfl (Yg rfl rfl (Qe rfl (Yg (ld rfl (rR x)) rfl ?_)))));refine Yh (c254 _ (Y9 hf)) rfl g193.ok.plain (po _) ?_;refine Yh (c250 _ _) rfl g189.ok.plain rfl ?_;refine Qe rfl (Yg rfl rfl (Yg rfl rfl (Xr (by kernel_rfl) ?_)));refine Za rfl (Za rfl (Za (ld rfl (Qr x)) ?_));refine Xb (h1 _) rfl g155.ok.plain rfl ?_;rcases aT (cP (cu u (nT x.c)) x.bM) with h|h
 ·rw[h];refine Ya (Za rfl (Ya (Za rfl (Ya (Za (ld rfl (Zs x)) (Xa ?_))))));refine Xb (h2 _) rfl g155.ok.plain rfl ?_;exact Za rfl rfl
 ·rw[h];exact Qa rfl (Qa rfl (Qa rfl (Yb rfl (Za rfl rfl))))
theorem Uk(u:Int):∀l,cP u l=l.all (py u)
 |[]=>rfl
 |x::l=>by simp[cP,Uk u l]
theorem rM(k:Nat):∀(l:List Ef) (u:Int),SizeOf.sizeOf l≤k→bG l=true→PC 155 [.agg [ar u],ic l] (.bool (cP u l)):=by
 induction k with
 |zero=>intro l _ h _; cases l<;>simp at h
 |succ k rM=>
  intro l u hk hf;refine Yc hP g155.ok rfl rfl ?_;rw[H2.e]; unfold g155; dsimp only;refine Qb rfl rfl (Za rfl (Za rfl (Za rfl (Za rfl (Za rfl (Za rfl (Za rfl (Za rfl (Za rfl (Za rfl (Za rfl (Za rfl (Za rfl (Za rfl (Za rfl (Za rfl (Za rfl (Za rfl (Za rfl (Qb rfl rfl (Qb rfl rfl (Za rfl ?_))))))))))))))))))))));have hc:∀x∈l,PC 177 ([]++[.agg (aM x)]++[.ao [ar u] 0,.ao (tz u) 0]) (.bool (!py u x)):=by
   intro x hx;have iT:=ZS hf hx;refine c240 u x iT (λh8=>?_);have e:py u x=(cP (cu u (nT x.c)) x.bM&&cP (cu u (nT x.c)) x.bQ):=by rw[Fh,if_neg (by omega),if_pos h8]
   have hs:=List.sizeOf_lt_of_mem hx;have pJ:=DJ x;rw[e];exact c238 u x iT (λu'=>rM x.bM u' (by omega) (XR iT)) (λu'=>rM x.bQ u' (by omega) (YR iT))
  refine ZG (c239 l (YH hf) 177 [] [.ao [ar u] 0,.ao (tz u) 0] g177.ok.plain (λx=>!py u x) hc (λx=>by rw[XC]; rfl) rfl) rfl g176.ok.plain rfl rfl ?_;refine Za rfl ?_;rw[Uk]
  congr 1
  simp only[List.any_eq_not_all_not,Bool.not_not]
theorem c222(l:List Ef)(u:Int)(hf:bG l=true):PC 155 [.agg [ar u],ic l] (.bool (cP u l)):=rM _ l u (Nat.le_refl _) hf
theorem c182(cs:List Cd)(hf:QE cs=true):PC 122 [fm cs] (.agg [iv (iw cs).1,iv (iw cs).2]):=by
 simp only[QE,Bool.and_eq_true,decide_eq_true_eq] at hf;obtain⟨f0,f1⟩:=hf;rw[cO] at f0;refine Yc hP g122.ok rfl rfl ?_;rw[H1.e]; unfold g122; dsimp only;refine Qb rfl rfl (Za rfl (Qb rfl rfl (Qb rfl rfl ?_)));refine Za (v:=iv cs.length) (rd:=[]) (by simp[Zh]) ?_;refine Xj (ι:=Nat) (λi vs σ=>vs=[iv i]∧ah σ 0=.box [iv 0,iv 0]∧ah σ 1=.box [ar 0]∧0<σ.length∧i≤cs.length∧iw cs=iw (cs.drop i)) (λi=>cs.length-i) 0 ⟨rfl,rfl,rfl,by simp,by omega,by simp⟩ ?_;rintro i vs σ again ⟨rfl,hz,ho,nM,hi,hu⟩ aZ;refine Za rfl ?_;refine Zb (λh=>?_) (λh=>?_);rotate_left
 ·have h:i=cs.length:=by simp at h; omega
  subst h;rw[List.drop_length,iw] at hu;refine Za rfl (Qb (cM hz rfl rfl rfl) (Xg _ nM) (Qi (Zr nM rfl) ?_));rw[hu]
 have hi:i<cs.length:=by simpa using h
 have cX:cs.drop i=cs[i]::cs.drop (i+1):=by rw[fA hi]
 have dc:=λ(s:List ab)=>Zp s b_ false false 12 cs .i64 i hi;have vB:=List.all_eq_true.1 f1 _ (List.getElem_mem hi);generalize cs[i]=c at cX dc vB;rw[cX,iw] at hu;simp only[f_,Bool.and_eq_true,decide_eq_true_eq] at vB;obtain⟨g0,g1,g2,g9993⟩:=vB;refine Za (dc _) (Za (an (ov _)) (Xq (row:=b_ c) (row':=b_ c) rfl rfl rfl ?_));have aG:=Yf σ (ab.box (b_ c));have q_:ah (σ++[ab.box (b_ c)]) 0=.box [iv 0,iv 0]:=Xd _ hz (by simp);have eI:ah (σ++[ab.box (b_ c)]) 1=.box [ar 0]:=Xd _ ho (by simp);have oM:0<(σ++[ab.box (b_ c)]).length:=by simp
 generalize σ++[ab.box (b_ c)]=base at aG q_ eI oM ⊢;generalize σ.length=b at aG ⊢;clear hz nM ho;refine Za (ld eI rfl) (Za rfl (Za (ld aG rfl) ?_));refine Xb (c222 _ 0 g1) rfl g155.ok.plain rfl ?_;refine Za rfl ?_;apply oB (rN c=false)
 ·intro hR;have sv:rN c=true→VV.rd (Qn .add false [iv i,(.int .i64 1)] base) λry=>again [ry] base:=by
   intro hc;rw[hc,if_pos rfl] at hu;refine Za (Yj ..) ?_;rw[Qd (n:=i) (by omega)];exact aZ (i+1) _ _ (by omega) ⟨rfl,q_,eI,oM,by omega,hu⟩
  rcases aT (!cP 0 c.ca) with a1|a1
  ·rw[a1];repeat first|refine Ya ?_|refine Xa ?_|refine Qa rfl ?_|refine Yb rfl ?_|refine Zc rfl ?_|refine Qc rfl ?_|refine Za (ld aG rfl) ?_|refine Za rfl ?_
   refine Xc (hR ?_);have a1:cP 0 c.ca=false:=by simpa using a1
   simp[rN,a1]
  rw[a1];repeat first|refine Ya ?_|refine Xa ?_|refine Za (ld eI rfl) ?_|refine Za (ld aG rfl) ?_|refine Za rfl ?_
  have a1:cP 0 c.ca=true:=by simpa using a1
  refine Xb (c222 _ 0 g2) rfl g155.ok.plain rfl ?_;repeat first|refine Ya ?_|refine Xa ?_|refine Za (ld eI rfl) ?_|refine Za (ld aG rfl) ?_|refine Za rfl ?_
  rcases aT (!cP 0 c.dead) with a2|a2
  ·rw[a2];repeat first|refine Ya ?_|refine Xa ?_|refine Qa rfl ?_|refine Yb rfl ?_|refine Zc rfl ?_|refine Qc rfl ?_|refine Za (ld aG rfl) ?_|refine Za rfl ?_
   refine Xc (hR ?_);have a2:cP 0 c.dead=false:=by simpa using a2
   simp[rN,a2]
  rw[a2];repeat first|refine Ya ?_|refine Xa ?_|refine Za (ld eI rfl) ?_|refine Za (ld aG rfl) ?_|refine Za rfl ?_
  have a2:cP 0 c.dead=true:=by simpa using a2
  refine Xb (c222 _ 0 g9993) rfl g155.ok.plain rfl ?_;repeat first|refine Ya ?_|refine Xa ?_|refine Za (ld aG rfl) ?_|refine Za rfl ?_
  refine Zb (λa3=>hR ?_) (λa3=>sv ?_)
  ·have a3:cP 0 c.dJ=false:=by simpa using a3
   simp[rN,a3]
  ·have a3:cP 0 c.dJ=true:=by simpa using a3
   simp[rN,a1,a2,a3]
 intro hc;rw[hc] at hu
 replace hu:iw cs=(140,c.pl):=hu
 refine Za rfl (Za (ld aG rfl) (Za rfl (Qb (cM q_ rfl rfl rfl) (Xg _ oM) (Qi (Zr oM rfl) ?_))));rw[hu]
theorem c259(l:List Cd)(hl:l.length≤gp)(id:FuncId)(fs cs:List aa)(hp:Qj prog id=true)(f:Cd→Bool)(hc:∀x∈l,PC id (fs++[.agg (b_ x)]++cs) (.bool (f x)))(hr:∀x,fz (fs++[.agg (b_ x)]++cs)=true) :
  PC 95 [fm l,.func (.func id) fs cs] (iv (dE f l 0)):=by
 rw[cO] at hl;refine Yc hP g95.ok rfl rfl ?_;rw[H2.e]; unfold g95; dsimp only;refine Za (v:=iv l.length) (rd:=[]) (by simp[Zh]) ?_;refine Xj (ι:=Nat) (λi vs s=>vs=[iv i]∧i≤l.length∧dE f l 0=dE f (l.drop i) i) (λi=>l.length-i) 0 ⟨rfl,by omega,by simp⟩ ?_;rintro i vs s again ⟨rfl,hi,jV⟩ aZ;refine Za rfl (Zb (λh=>?_) (λh=>?_))
 ·have h:i<l.length:=by simpa using h
  refine Za (Zp _ b_ _ _ _ l _ i h) (Za (an (ov _)) ?_);refine Xb (hc _ (List.getElem_mem h)) rfl hp (hr _) ?_;rw[fA h,dE] at jV;refine Zb (λh2=>?_) (λh2=>?_)
  ·rw[if_pos h2] at jV; rw[jV]; rfl
  ·rw[if_neg (by rw[h2]; simp)] at jV;refine Za (Yj ..) ?_;rw[Qd (n:=i) (by omega)];exact aZ (i+1) _ _ (by omega) ⟨rfl,by omega,by rw[jV]; push_cast; rfl⟩
 ·have h:i=l.length:=by simp at h; omega
  subst h;rw[List.drop_length,dE] at jV;rw[jV]
theorem Ud(t:Tx):∀(l:List Cd) (n:Nat),((fE n l t).2=true∧n≤(fE n l t).1∧(fE n l t).1<n+l.length∧dE (λc=>c.name==t) l (n:Int)=((fE n l t).1:Int))∨((fE n l t)=(0,false)∧dE (λc=>c.name==t) l (n:Int) = -1)
 |[],n=>.inr ⟨rfl,rfl⟩
 |c::l,n=>by
  by_cases h:c.name==t
  ·left;have e1:fE n (c::l) t=(n,true):=if_pos h;have e2:dE (λc:Cd=>c.name==t) (c::l) (n:Int)=n:=if_pos h;rw[e1,e2]; simp
  ·have e1:fE n (c::l) t=fE (n+1) l t:=if_neg h;have e2:dE (λc:Cd=>c.name==t) (c::l) (n:Int)=dE (λc:Cd=>c.name==t) l ((n+1:Nat):Int):=by
    have:=(if_neg h:(if (c.name==t)=true then (n:Int) else dE (λc:Cd=>c.name==t) l ((n:Int)+1))=_)
    push_cast; exact this
   rw[e1,e2];rcases Ud t l (n+1) with ⟨q1,q2,q3,q4⟩|q
   ·exact .inl ⟨q1,by omega,by simp; omega,q4⟩
   ·exact .inr q
theorem c244(c:Cd)(t:Tx):PC 140 [.agg (b_ c),.ao [.str t] 0] (.bool (c.name==t)):=by
 refine Yc hP g140.ok rfl rfl ?_;rw[H2.e]; unfold g140; dsimp only;exact Qb rfl rfl (Za rfl (Za (ld rfl rfl) (Za rfl (Za rfl rfl))))
theorem c243(l:List Cd)(hl:l.length≤gp)(t:Tx)(x:ab)(K:aa→List ab→Prop)(hK:∀cs σ,cs.all aa.cell=true→cs.length=12→K (.bn [.agg cs,iv (fE 0 l t).1,.bool (fE 0 l t).2]) ([x,.box [.str t]]++σ)) :
  g139.u VV [fm l,.func (.func 140) [] [.ai 1 0]] [x,.box [.str t]] K:=by
 have hc:=c259 l hl 140 [] [.ao [.str t] 0] g140.ok.plain (λc=>c.name==t) (λx _=>c244 x t) (λx=>rfl);rw[H2.e]; unfold g139; dsimp only;refine Qb rfl rfl ?_;refine ZG hc rfl g95.ok.plain rfl rfl ?_;clear hc;rcases Ud t l 0 with ⟨q1,q2,q3,q4⟩|⟨q1,q4⟩
 ·rw[Nat.zero_add] at q3;have q4:dE (λc=>c.name==t) l 0=((fE 0 l t).1:Int):=q4;rw[q4];rw[q1] at hK;generalize (fE 0 l t).1=i at q2 q3 hK ⊢;refine Za (YZ ..) ?_;rw[decide_eq_false (by omega)];refine Yd (Za (Zp _ b_ _ _ _ l _ i q3) (Za (an (ov _)) (Qb rfl rfl (Qi rfl ?_))));exact hK (b_ l[i]) _ rfl rfl
 ·have q4:dE (λc=>c.name==t) l 0 = -1:=q4;rw[q4];rw[q1] at hK;refine Za rfl ?_;refine Xc (Za rfl (Qb rfl rfl (Qi rfl ?_)));exact hK [.str [],.bool false,iv 0,iv 0,iv 0,iv 0,iv 0,iv 0,.aq,.aq,.aq,iv 0] _ rfl rfl
theorem XdD(cs:List aa)(h:cs.all aa.cell=true):cellsOf (.agg cs)=some cs:=by simp[cellsOf,h]
theorem U6{α:Type}:∀(a b:List α),a.length=b.length→cr 0 a b=some a
 |[],[],_=>rfl
 |x::a,y::b,h=>by simp only[cr,U6 a b (by simpa using h)]
theorem c224(b:Bk)(hl:b.af.length≤gp)(t:Tx):PC 105 [dg b,.str t] (.bn [iv (fE 0 b.af t).1,.bool (fE 0 b.af t).2]):=by
 refine Yc hP g105.ok rfl rfl ?_;rw[H2.e]; unfold g105; dsimp only;refine Qb rfl rfl (Qb rfl rfl (Za rfl (Za rfl (Za rfl ?_))));refine Qg hP rfl g139.ok rfl (c243 b.af hl t _ _ (λcs σ h1 h2=>?_));refine Za rfl (Za rfl (Za rfl ?_));refine Xq (row:=cs) (row':=cs) (XdD cs h1) (by rw[h2]; rfl) (U6 _ _ (by rw[h2]; rfl)) ?_;rfl
theorem Xc5{P:Program}{GL:aw}{c d:Bool}{K:aa→Prop}{r1:az}{σ:List ab}(h1:r1=.ok (.bool d) [] [])(hK:K (.bool (c&&d))) :
  (W P GL).gr (.bool c) true (λk=>(W P GL).rd r1 k) λt1=>(W P GL).rd (Ym [.bool c,t1,.bool false] σ) K:=by
 cases c with
 |true=>exact Ya (Za h1 (Za rfl hK))
 |false=>exact Qa rfl (Za rfl hK)
theorem Zc6{P:Program}{GL:aw}{c d:Bool}{K:aa→Prop}{r1 r2:az}{f3:aa→aa→az}{f4:aa→az}{σ:List ab}{v1 v2 v3:aa}{q1 q2 q3 q4:List Nat}(h1:r1=.ok v1 q1 [])(h2:r2=.ok v2 q2 [])(h3:f3 v1 v2=.ok v3 q3 [])(h4:f4 v3=.ok (.bool d) q4 [])(hK:K (.bool (c&&d))) :
  (W P GL).gr (.bool c) true (λk=>(W P GL).rd r1 k) λt1=>(W P GL).gr (.bool c) true (λk=>(W P GL).rd r2 k) λt2=>(W P GL).gr (.bool c) true (λk=>(W P GL).rd (f3 t1 t2) k) λt3=>(W P GL).gr (.bool c) true (λk=>(W P GL).rd (f4 t3) k) λt4=>(W P GL).rd (Ym [.bool c,t4,.bool false] σ) K:=by
 cases c with
 |true=>exact Ya (Za h1 (Ya (Za h2 (Ya (Za h3 (Ya (Za h4 (Za rfl hK))))))))
 |false=>exact Qa rfl (Qa rfl (Qa rfl (Qa rfl (Za rfl hK))))
theorem Yc6{P:Program}{GL:aw}{c d:Bool}{K:aa→Prop}{r1 r3:az}{f2 f4:aa→az}{f5:aa→aa→az}{σ:List ab}{v1 v2 v3 v4:aa}{q1 q2 q3 q4 q5:List Nat}(h1:r1=.ok v1 q1 [])(h2:f2 v1=.ok v2 q2 [])(h3:r3=.ok v3 q3 [])(h4:f4 v3=.ok v4 q4 [])(h5:f5 v2 v4=.ok (.bool d) q5 [])(hK:K (.bool (c&&d))) :
  (W P GL).gr (.bool c) true (λk=>(W P GL).rd r1 k) λt1=>(W P GL).gr (.bool c) true (λk=>(W P GL).rd (f2 t1) k) λt2=>(W P GL).gr (.bool c) true (λk=>(W P GL).rd r3 k) λt3=>(W P GL).gr (.bool c) true (λk=>(W P GL).rd (f4 t3) k) λt4=>(W P GL).gr (.bool c) true (λk=>(W P GL).rd (f5 t2 t4) k) λt5=>(W P GL).rd (Ym [.bool c,t5,.bool false] σ) K:=by
 cases c with
 |true=>exact Ya (Za h1 (Ya (Za h2 (Ya (Za h3 (Ya (Za h4 (Ya (Za h5 (Za rfl hK))))))))))
 |false=>exact Qa rfl (Qa rfl (Qa rfl (Qa rfl (Qa rfl (Za rfl hK)))))
theorem Xc6{P:Program}{GL:aw}{c d:Bool}{K:aa→Prop}{r1 r2:az}{f3:aa→az}{f4:aa→aa→az}{f5:aa→az}{σ:List ab}{v1 v2 v3 v4:aa}{q1 q2 q3 q4 q5:List Nat}(h1:r1=.ok v1 q1 [])(h2:r2=.ok v2 q2 [])(h3:f3 v2=.ok v3 q3 [])(h4:f4 v1 v3=.ok v4 q4 [])(h5:f5 v4=.ok (.bool d) q5 [])(hK:K (.bool (c&&d))) :
  (W P GL).gr (.bool c) true (λk=>(W P GL).rd r1 k) λt1=>(W P GL).gr (.bool c) true (λk=>(W P GL).rd r2 k) λt2=>(W P GL).gr (.bool c) true (λk=>(W P GL).rd (f3 t2) k) λt3=>(W P GL).gr (.bool c) true (λk=>(W P GL).rd (f4 t1 t3) k) λt4=>(W P GL).gr (.bool c) true (λk=>(W P GL).rd (f5 t4) k) λt5=>(W P GL).rd (Ym [.bool c,t5,.bool false] σ) K:=by
 cases c with
 |true=>exact Ya (Za h1 (Ya (Za h2 (Ya (Za h3 (Ya (Za h4 (Ya (Za h5 (Za rfl hK))))))))))
 |false=>exact Qa rfl (Qa rfl (Qa rfl (Qa rfl (Qa rfl (Za rfl hK)))))
theorem W8{P:Program}{GL:aw}{c d:Bool}{K:List ab→aa→Prop}{r1:az}{f2:aa→az}{f3:aa→(aa→List ab→Prop)→Prop}{g:List ab→List ab}{σ:List ab}{v1 v2:aa}{q1 q2:List Nat}(h1:r1=.ok v1 q1 [])(h2:f2 v1=.ok v2 q2 [])(h3:∀k:aa→List ab→Prop,k (.bool d) σ→f3 v2 k)(hK:K σ (.bool (c&&d))) :
  (W P GL).gr (.bool c) true (λk=>(W P GL).rd r1 k) λt1=>(W P GL).gr (.bool c) true (λk=>(W P GL).rd (f2 t1) k) λt2=>(W P GL).gw (.bool c) true (λk=>f3 t2 k) σ λt3 σ'=>(W P GL).rd (Ym [.bool c,t3,.bool false] (g σ')) (K σ'):=by
 cases c with
 |true=>exact Ya (Za h1 (Ya (Za h2 (Xa (h3 _ (Za rfl hK))))))
 |false=>exact Qa rfl (Qa rfl (Yb rfl (Za rfl hK)))
def Old(σ σ':List ab):Prop:=σ.length≤σ'.length∧∀c,c<σ.length→ah σ' c=ah σ c
theorem Old.trans{a b c:List ab}(h:Old a b)(k:Old b c):Old a c:=⟨Nat.le_trans h.1 k.1,λi hi=>by rw[k.2 i (by have:=h.1; omega),h.2 i hi]⟩
theorem Old.app(σ l:List ab):Old σ (σ++l):=⟨by simp,λ_ h=>Xo l h⟩
theorem Old.get{σ σ':List ab}(h:Old σ σ'){c:Nat}{x:ab}(hx:ah σ c=x)(hd:x≠.dead):ah σ' c=x:=by
 rw[h.2 c (Ye hx hd)]; exact hx
theorem Bt.HM{σ σ':List ab}{x:ab}(h:Bt σ.length (σ++[x]) σ'):Old σ σ':=by
 obtain⟨h1,h2⟩:=h;simp only[List.length_append,List.length_singleton] at h1 h2;exact⟨by omega,λc hc=>by rw[h2 c (by omega) (by omega),Xo _ hc]⟩
def mr(m:List (Tx×Bool))(l:List Tx):Prop:=∀t,(bJ t m).getD false=l.any λd=>d==t
theorem mr.nil:mr [] []:=λt=>by simp[bJ]
theorem mr.put{m:List (Tx×Bool)}{l:List Tx}(h:mr m l)(c:Tx):mr (ko c true m) (l++[c]):=by
 intro t;rw[Y2,List.any_append,←h t]
 grind
theorem Td{α:Type}(l:List α)(f:α→Bool):(!l.any f)=l.all λx=>!f x:=by
 grind
theorem UE(b:Bk)(hc:b.af.length≤gp)(l:List Tx)(hl:l.length≤gp)(ok:Bool){σ:List ab}(h0':ah σ 0=.box [fm b.af,kT b.av]){K:List aa→List ab→Prop}
 (hK:∀w σ',Old σ σ'→K [w,.bool (ok&&gg b.af [] l)] σ') :
  VV.loop (λNx v57 τ=>VV.rd (Qn .lss false [(h0 v57),iv l.length] τ) λCD=>VV.test CD (
   VV.rd (Zm 1 [El l,(h0 v57)] τ) λCH=>VV.rd (Xh false 1 [CH] τ) λrF=>VV.rd (Xh true 2 [.ai 0 0] τ) λCN=>
   VV.call (.call 105) [CN,rF] τ λoV τ=>VV.rd (Ql 0 [oV] τ) λRj=>VV.rd (Ql 1 [oV] τ) λCU=>
   VV.gr (h1 v57) true (λk=>VV.rd (Q9 [CU] τ) k) λCX=>VV.rd (Ym [(h1 v57),CX,(.bool false)] τ) λnt=>
   VV.gr nt true (λk=>VV.rd (Q9 [.map σ.length] τ) k) λC5=>VV.gr nt true (λk=>VV.rd (Q9 [rF] τ) k) λC8=>
   VV.gr nt true (λk=>VV.rd (Zz true false (.bool false) [C5,C8] τ) k) λDa=>VV.gr nt true (λk=>VV.rd (pd .not [Da] τ) k) λDc=>
   VV.rd (Ym [nt,Dc,(.bool false)] τ) λDe=>VV.wr (YG true [.map σ.length,rF,(.bool true)] τ) τ λ_ τ=>
   VV.rd (Qn .add false [(h0 v57),(.int .i64 1)] τ) λDl=>Nx [Dl,De] τ) (K v57 τ)) [(.int .i64 0),.bool ok] (σ ++ [.map []]):=by
 rw[cO] at hl;have jl:ah (σ++[.map []]) σ.length=.map (ik []):=Yf _ _;have hlen:σ.length<(σ++[ab.map []]).length:=by simp
 refine Xj (ι:=Nat) (λi vs s=>∃PY m,vs=[iv i,.bool PY]∧i≤l.length∧ah s σ.length=.map (ik m)∧mr m (l.take i)∧Bt σ.length (σ++[.map []]) s∧(ok&&gg b.af [] l)=(PY&&gg b.af (l.take i) (l.drop i))) (λi=>l.length-i) 0 ⟨ok,[],rfl,by omega,jl,by simpa using mr.nil,Bt.refl _ _,by simp⟩ ?_;rintro i vs s again ⟨PY,m,rfl,hi,hm,yM,oY,hr⟩ aZ;have N9:ah s 0=.box [fm b.af,kT b.av]:=oY.HM.get h0' (by simp);refine Za rfl (Zb (λh=>?_) (λh=>?_))
 ·have h:i<l.length:=by simpa using h
  refine Za (Zp _ sR _ _ _ l _ i h) (Za (an (vi _)) (Za (ld N9 rfl) ?_));refine Xb (c224 b hc _) rfl g105.ok.plain rfl ?_;refine Za rfl (Za rfl (Xc5 rfl ?_));refine Zc6 rfl rfl (LB hm _) rfl ?_;refine Qb (D2 hm _ _) (Xg _ (Ye hm (by simp))) (Za (Yj ..) ?_);rw[Qd (n:=i) (by omega)];have s_:=Ye hm (by simp);refine aZ (i+1) _ _ (by omega) ⟨_,_,rfl,by omega,Xe _ s_,by rw[Yv _ _ h]; exact yM.put _,oY.trans ⟨by simp,λc hc cL=>Zg _ hc cL⟩,?_⟩;rw[hr,fA h,gg,Yv _ _ h,yM,Td];simp only[Bool.and_assoc]
 ·have h:i=l.length:=by simp at h; omega
  subst h;rw[List.drop_length,gg,Bool.and_true] at hr;have:=hK (iv (l.length:Int)) s oY.HM;rw[hr] at this; exact this
def rJ(m:List (Tx×Bool))(l:List Fo):Prop:=∀t,(bJ t m).getD false=l.any λd=>d.name==t
theorem rJ.put{m:List (Tx×Bool)}{l:List Fo}(h:rJ m l)(c:Fo):rJ (ko c.name true m) (l++[c]):=by
 intro t;rw[Y2,List.any_append,←h t]
 grind
theorem c184(b:Bk)(hf:aS b=true):PC 124 [dg b] (.agg [iv (fy b [] b.av).1,iv (fy b [] b.av).2]):=by
 simp only[aS,QE,Bool.and_eq_true,decide_eq_true_eq] at hf;obtain⟨⟨fc,_⟩,fl,fa⟩:=hf;have fl':=fl;rw[cO] at fl';refine Yc hP g124.ok rfl rfl ?_;rw[H1.e]; unfold g124; dsimp only;refine Qb rfl rfl (Qb rfl rfl (Qb rfl rfl (Za rfl (Za rfl ?_))));refine Za (v:=iv b.av.length) (rd:=[]) (by simp[Zh]) ?_;refine Xj (ι:=Nat) (λi vs σ=>∃m,vs=[iv i]∧i≤b.av.length∧ah σ 0=.box [fm b.af,kT b.av]∧ah σ 1=.box [iv 0,iv 0]∧ah σ 2=.map (ik m)∧rJ m (b.av.take i)∧fy b [] b.av=fy b (b.av.take i) (b.av.drop i)) (λi=>b.av.length-i) 0 ⟨[],rfl,by omega,rfl,rfl,rfl,λt=>by simp[bJ],by simp⟩ ?_;rintro i vs σ again ⟨m,rfl,hi,Gs,zJ,ll,yM,hr⟩ aZ;refine Za rfl (Zb (λh=>?_) (λh=>?_));rotate_left
 ·have h:i=b.av.length:=by simp at h; omega
  subst h;rw[List.drop_length,fy] at hr;refine Za rfl (Qb (cM zJ rfl rfl rfl) (Xg _ (Ye zJ (by simp))) (Qi (Zr (Ye zJ (by simp)) rfl) ?_));rw[hr]
 have h:i<b.av.length:=by simpa using h
 have dc:=λ(s:List ab)=>Zp s mK false false 7 b.av .i64 i h;have D9:=List.all_eq_true.1 fa _ (List.getElem_mem h);have jb:=Yv _ _ h;rw[fA h,fy] at hr;generalize b.av[i]=f at dc D9 jb hr;simp only[mL,Bool.and_eq_true,decide_eq_true_eq] at D9;obtain⟨fo1,fo2,fo3⟩:=D9;refine Za (dc _) (Za (an (Ga f)) (Xq (row:=mK f) (row':=mK f) rfl rfl rfl ?_));have hB:=Yf σ (ab.box (mK f));have wJ:ah (σ++[ab.box (mK f)]) 0=.box [fm b.af,kT b.av]:=Xd _ Gs (by simp);have Gu:ah (σ++[ab.box (mK f)]) 1=.box [iv 0,iv 0]:=Xd _ zJ (by simp);have zK:ah (σ++[ab.box (mK f)]) 2=.map (ik m):=Xd _ ll (by simp);generalize σ++[ab.box (mK f)]=τ at hB wJ Gu zK ⊢;generalize σ.length=c at hB ⊢;clear Gs zJ ll;refine Za (YZ ..) ?_;refine W8 (g:=λs=>s) (σ:=τ) (d:=dV f.name) rfl (ld hB rfl) (λk hk=>Xb (c223 _ fo1) rfl g128.ok.plain rfl hk) ?_;refine Xc6 rfl rfl (ld hB rfl) (LB zK _) rfl ?_;refine DT rfl (ld hB rfl) (X5 ..) ?_;refine Yc6 rfl (ld hB rfl) rfl (ld hB rfl) (JN ..) ?_;refine DT rfl (ld hB rfl) (JN ..) ?_;refine DT rfl (ld hB rfl) (X5 ..) ?_;refine DT rfl (ld hB rfl) (JN ..) ?_;refine Za rfl (Za (ld hB rfl) (Za rfl (Za (ld hB rfl) (Za rfl ?_))));refine YK 3 (Xk (Za rfl (Xc (Za rfl (Qb rfl (Yi _ _) ?_)))));refine Za (v:=iv f.iQ.length) (rd:=[]) (by simp[Zh]) ?_;refine UE b fc f.iQ fo2 _ wJ (λw τ2 o2=>?_);refine Za rfl (Xk (Za rfl (Xc (Za rfl (Qb rfl (Yi _ _) ?_)))));refine Za (v:=iv f.single.length) (rd:=[]) (by simp[Zh]) ?_;refine UE b fc f.single fo3 _ (o2.get wJ (by simp)) (λw τ3 o3=>?_);have o:=o2.trans o3;refine Za rfl (Xk (Za rfl (Yd ?_)));have bV:((((((((((decide ((i:Int)<240)&&dV f.name) && !(bJ f.name m).getD false)&&decide (0≤f.least))&&decide (f.least≤f.most))&&decide (f.most≤60))&&decide (0≤f.iR))&&decide (f.iR≤999))&&gg b.af [] f.iQ)&&gg b.af [] f.single))=kH b (b.av.take i) f:=by
  have hti:(b.av.take i).length=i:=by rw[List.length_take]; omega
  have e:decide ((i:Int)<240)=decide (i<240):=by congr 1; simp; omega
  rw[kH,hti,yM,e];generalize (List.take i b.av).any (λg=>g.name==f.name)=x1;generalize decide (i<240)=x2;generalize dV f.name=x3;cases x1<;>cases x2<;>cases x3<;>simp[Bool.and_assoc]
 have rT:=o.get Gu (by simp);have ug:=o.get zK (by simp);have Gi:=o.get hB (by simp);have Gt:=o.get wJ (by simp);refine Za (v:=.bool (!kH b (b.av.take i) f)) (rd:=[]) (by rw[←bV]; rfl) ?_;refine Zb (λh2=>?_) (λh2=>?_)
 ·have h2:kH b (b.av.take i) f=false:=by simpa using h2
  rw[h2,if_neg (by simp)] at hr;refine Za rfl (Za (ld Gi rfl) (Za rfl (Qb (cM rT rfl rfl rfl) (Xg _ (Ye rT (by simp))) (Qi (Zr (Ye rT (by simp)) rfl) ?_))));rw[hr]
 ·have h2:kH b (b.av.take i) f=true:=by simpa using h2
  rw[h2,if_pos rfl] at hr;refine Za rfl (Za (ld Gi rfl) (Qb (D2 ug _ _) (Xg _ (Ye ug (by simp))) (Za (Yj ..) ?_)));rw[Qd (n:=i) (by omega)];refine aZ (i+1) _ _ (by omega) ⟨_,rfl,by omega,?_,?_,Xe _ (Ye ug (by simp)),by rw[jb]; exact yM.put f,by rw[jb]; exact hr⟩
  ·exact Zd Gt (by simp) (by omega)
  ·exact Zd rT (by simp) (by omega)
def Zj(l:List Cd):Prop:=∀c∈l,(oW c).length≤500000000
theorem xX(cs:List Cd)(hf:QE cs=true)(hs:Zj cs):PC 58 [fm cs] (.agg [iv (cW cs).1,iv (cW cs).2]):=by
 refine c180 cs hf (λm hm c hc=>?_);have yA:f_ c=true:=by
  simp_all [QE]
 have GG:=yA;simp only[f_,Bool.and_eq_true,decide_eq_true_eq] at GG;obtain⟨q0,q1,q2,q3⟩:=GG;exact c221 m cs hm c yA (c223 _ q0) (c124 c q1 q2 q3 (hs c hc))
theorem c143(b:Bk)(hf:aS b=true)(hs:Zj b.af):PC 92 [dg b] (.agg [iv (cE b).1,iv (cE b).2]):=by
 have KO:=hf;simp only[aS,Bool.and_eq_true] at KO;have D8:=KO.1;have p179:PC 120 [.ao [fm b.af,kT b.av] 0] (.agg [iv (cW b.af).1,iv (cW b.af).2]):=by
  refine Yc hP g120.ok rfl rfl ?_;rw[H1.e]; unfold g120; dsimp only;refine Qb rfl rfl (Za rfl (Za rfl ?_));refine Xb (xX _ D8 hs) rfl g58.ok.plain rfl ?_;exact Qb rfl rfl (Qi rfl rfl)
 have p181:PC 121 [.ao [fm b.af,kT b.av] 0] (.agg [iv (iw b.af).1,iv (iw b.af).2]):=by
  refine Yc hP g121.ok rfl rfl ?_;rw[H1.e]; unfold g121; dsimp only;refine Qb rfl rfl (Za rfl (Za rfl ?_));refine Xb (c182 _ D8) rfl g122.ok.plain rfl ?_;exact Qb rfl rfl (Qi rfl rfl)
 have p183:PC 123 [.ao [fm b.af,kT b.av] 0] (.agg [iv (fy b [] b.av).1,iv (fy b [] b.av).2]):=by
  refine Yc hP g123.ok rfl rfl ?_;rw[H1.e]; unfold g123; dsimp only;refine Qb rfl rfl (Za rfl ?_);refine Xb (c184 b hf) rfl g124.ok.plain rfl ?_;exact Qb rfl rfl (Qi rfl rfl)
 refine Yc hP g92.ok rfl rfl ?_;rw[H1.e]; unfold g92; dsimp only;refine Qb rfl rfl (Qb rfl rfl (Za rfl (Za rfl (Za rfl (Za rfl ?_)))));refine YK 4 (Xk (Za rfl (Xc (Za rfl ?_))));refine ZG p179 rfl g120.ok.plain rfl rfl (Qb rfl rfl (Qb rfl rfl (Za rfl (Za rfl (Za (XZ ..) (Zb (λh=>?_) (λh=>Za rfl ?_)))))))
 ·refine Za rfl (Qb rfl rfl (Qi rfl ?_));rw[cE,if_pos (by simpa using h)]
 refine Xk (Za rfl (Xc (Za rfl ?_)));refine ZG p181 rfl g121.ok.plain rfl rfl (Qb rfl rfl (Qb rfl rfl (Za rfl (Za rfl (Za (XZ ..) (Zb (λh2=>?_) (λh2=>Za rfl ?_)))))))
 ·refine Za rfl (Qb rfl rfl (Qi rfl ?_));simp_all [cE]
 refine Xk (Za rfl (Xc (Za rfl ?_)));refine ZG p183 rfl g123.ok.plain rfl rfl (Qb rfl rfl (Qb rfl rfl (Za rfl (Za rfl (Za (XZ ..) (Zb (λh3=>?_) (λh3=>Za rfl ?_)))))))
 ·refine Za rfl (Qb rfl rfl (Qi rfl ?_));simp_all [cE]
 refine Xk (Za rfl (Yd (Za rfl (Qb rfl rfl (Qi rfl ?_)))));rw[cE,if_neg (by simpa using h),if_neg (by simpa using h2)];have h3:(fy b [] b.av).1=0:=by simpa using h3
 have key:∀(l pre:List Fo),(fy b pre l).1=0→(fy b pre l).2=0:=by
  intro l
  induction l<;>grind [fy]
 rw[h3,key _ _ h3]
end Go.Ah.Tz
end
section
namespace Go.Ah.Tz
open Go.Proofs.Tryz (prog)
theorem dh.tK{P:Program}{GL:aw}{f:FuncId}{e:Bool}{sz:Nat}{v:aa}{bs:List ab}(h1:dh P GL f [.aq] v bs)(h2:dh P GL f [.ax e true sz []] v bs):dh P GL f [.ax e false sz []] v bs:=by
 intro w M vs hM hg hx
 match vs,hx with
 |[u],⟨hu,_⟩=>
  have hu':Den M bg (.ax e false sz []) u:=hu;cases hu' with
  |ax _ _ _ _ _ a cap aE off f q1 q2 q3 q4 q5 q6 q7 q8=>
   cases a with
   |none=>
    have:=q4 rfl;subst this;exact h1 w M _ hM hg ⟨.aq _,trivial⟩
   |some p=>exact h2 w M _ hM hg ⟨.ax _ e true sz [] (some p) cap aE off f q1 (λ_=>rfl) q3 q4 q5 q6 q7 q8,trivial⟩
attribute [local irreducible] ak.rd ak.pu ak.wr ak.dr ak.gr ak.gw ak.gl ak.gd ak.opt aH W
theorem c96(l:List Int)(hl:l.length≤1000000000):dh prog aK 33 [aV l] (.sl 0 0 l.length false) [.rows 1 (l.map aY)]:=by
 cases l with
 |nil=>
  refine dh.tK ?_ ?_
  ·refine ZC hP g33.ok rfl ?_;rw[H1.e]; unfold g33; dsimp only;exact Za rfl (Xc (Tidy.ghost 1 (.inl rfl)))
  ·refine ZC hP g33.ok rfl ?_;rw[H1.e]; unfold g33; dsimp only;exact Za rfl (Yd (Za rfl (Qb rfl rfl (Tidy.trans (Tidy.cy λM c u d=>QU (.ax true true 1 []) ⟨M,c⟩ u d) (Tidy.ghost 1 (.inr rfl))))))
 |cons x l=>
  refine ZC hP g33.ok rfl ?_;rw[H1.e]; unfold g33; dsimp only;refine Za rfl (Yd (Za rfl ?_));refine Qb (v:=.sl 0 0 (x :: l).length false) (rd:=[]) (up:=[(0,.rows 1 ((x :: l).map aY))]) ?_ rfl (Tidy.refl _ _);show (match Qp 1 [] (aV (x :: l)) with
   |some (ys,rd)=>bif Xs ys&&Nat.ble ((2*(([]:List (List aa)).length+ys.length)+192)*8) (2 ^ 48) then az.ok (.sl 0 0 (([]:List (List aa)).length+ys.length) false) rd ([]++[(0,ab.rows 1 ([]++ys))]) else az.stop
   | none=>.stop)=_
  have h1:Qp 1 [] (aV (x::l))=some ((x::l).map aY,[]):=rfl;have h2:∀q:List Int,Xs (q.map aY)=true:=by
   intro q; induction q with
   |nil=>rfl
   |cons y q ih=>simp only[List.map_cons,Xs,ih,Bool.and_true]; rfl
  have h3:Nat.ble ((2*(([]:List (List aa)).length+((x::l).map aY).length)+192)*8) (2 ^ 48)=true:=Nat.ble_eq_true_of_le (by simp only[List.length_map,List.length_nil]; omega);simp only[h1,h2,h3,Bool.and_self,cond_true];simp
theorem w96{l:List Int}(hl:l.length≤1000000000){σ:List ab}{K:aa→List ab→Prop}(hK:K (.sl σ.length 0 l.length false) (σ++[.rows 1 (l.map aY)])):VV.call (.call 33) [aV l] σ K:=by
 refine Mb (c96 l hl) rfl g33.ok.plain rfl ?_;simp only[QA,List.map_cons,List.map_nil,EF,aa.cj,ZK,Nat.zero_add];exact hK
theorem d96{l:List Int}(hl:l.length≤1000000000){σ:List ab}{K:aa→List Nat×List Nat→List ab→Prop}(hK:K (.sl σ.length 0 l.length false) ([],[σ.length]) (σ++[.rows 1 (l.map aY)])):VV.eJ (.call 33) [aV l] σ K:=by
 refine TP (c96 l hl) rfl g33.ok.plain rfl ?_;simp only[QA,List.map_cons,List.map_nil,EF,aa.cj,ZK,Nat.zero_add,wo];exact hK
theorem c112(l:List Th)(hl:l.length≤1000000000):dh prog aK 34 [il l] (.sl 0 0 l.length false) [.rows 4 (l.map aP)]:=by
 cases l with
 |nil=>
  refine dh.tK ?_ ?_
  ·refine ZC hP g34.ok rfl ?_;rw[H1.e]; unfold g34; dsimp only;exact Za rfl (Xc (Tidy.ghost 4 (.inl rfl)))
  ·refine ZC hP g34.ok rfl ?_;rw[H1.e]; unfold g34; dsimp only;exact Za rfl (Yd (Za rfl (Qb rfl rfl (Tidy.trans (Tidy.cy λM c u d=>QU (.ax true true 4 []) ⟨M,c⟩ u d) (Tidy.ghost 4 (.inr rfl))))))
 |cons x l=>
  refine ZC hP g34.ok rfl ?_;rw[H1.e]; unfold g34; dsimp only;refine Za rfl (Yd (Za rfl ?_));refine Qb (v:=.sl 0 0 (x :: l).length false) (rd:=[]) (up:=[(0,.rows 4 ((x :: l).map aP))]) ?_ rfl (Tidy.refl _ _);show (match Qp 4 [] (il (x :: l)) with
   |some (ys,rd)=>bif Xs ys&&Nat.ble ((2*(([]:List (List aa)).length+ys.length)+192)*32) (2 ^ 48) then az.ok (.sl 0 0 (([]:List (List aa)).length+ys.length) false) rd ([]++[(0,ab.rows 4 ([]++ys))]) else az.stop
   | none=>.stop)=_
  have h1:Qp 4 [] (il (x::l))=some ((x::l).map aP,[]):=rfl;have h2:∀q:List Th,Xs (q.map aP)=true:=by
   intro q; induction q with
   |nil=>rfl
   |cons y q ih=>simp only[List.map_cons,Xs,ih,Bool.and_true]; rfl
  have h3:Nat.ble ((2*(([]:List (List aa)).length+((x::l).map aP).length)+192)*32) (2 ^ 48)=true:=Nat.ble_eq_true_of_le (by simp only[List.length_map,List.length_nil]; omega);simp only[h1,h2,h3,Bool.and_self,cond_true];simp
theorem d112{l:List Th}(hl:l.length≤1000000000){σ:List ab}{K:aa→List Nat×List Nat→List ab→Prop}(hK:K (.sl σ.length 0 l.length false) ([],[σ.length]) (σ++[.rows 4 (l.map aP)])):VV.eJ (.call 34) [il l] σ K:=by
 refine TP (c112 l hl) rfl g34.ok.plain rfl ?_;simp only[QA,List.map_cons,List.map_nil,J3,aa.cj,ZK,Nat.zero_add,wo];exact hK
theorem c59(s:St)(hs:bu 1000000000 s):dh prog aK 14 [cf s] (.agg (ru s 0)) (nk s):=by
 refine ZC hP g14.ok rfl ?_;rw[H1.e]; unfold g14; dsimp only;have w1:IntKind.i64.wrap (0+1)=1:=by decide
 have w2:IntKind.i64.wrap (1+1)=2:=by decide
 repeat first|refine Za rfl ?_|refine Qb rfl rfl ?_|refine Qe rfl ?_|refine Yg rfl rfl ?_
 refine w96 hs.al ?_;simp only[List.length_cons,List.length_nil,List.nil_append,List.cons_append,Nat.zero_add,Nat.reduceAdd];repeat first|refine Za rfl ?_|refine Qb rfl rfl ?_|refine Qe rfl ?_|refine Yg rfl rfl ?_
 refine YK 3 (Xk ?_);refine Za rfl (Xc ?_);repeat first|refine Za rfl ?_|refine Qb rfl rfl ?_|refine Qe rfl ?_|refine Yg rfl rfl ?_
 refine d96 hs.s0.aA ?_;simp only[List.length_cons,List.length_nil,List.nil_append,List.cons_append,Nat.zero_add,Nat.reduceAdd];repeat first|refine Za rfl ?_|refine Qb rfl rfl ?_|refine Qe rfl ?_|refine Yg rfl rfl ?_
 refine d96 hs.s0.hand ?_;simp only[List.length_cons,List.length_nil,List.nil_append,List.cons_append,Nat.zero_add,Nat.reduceAdd];repeat first|refine Za rfl ?_|refine Qb rfl rfl ?_|refine Qe rfl ?_|refine Yg rfl rfl ?_
 refine d96 hs.s0.aj ?_;simp only[List.length_cons,List.length_nil,List.nil_append,List.cons_append,Nat.zero_add,Nat.reduceAdd];repeat first|refine Za rfl ?_|refine Qb rfl rfl ?_|refine Qe rfl ?_|refine Yg rfl rfl ?_
 refine d96 hs.s0.told ?_;simp only[List.length_cons,List.length_nil,List.nil_append,List.cons_append,Nat.zero_add,Nat.reduceAdd];repeat first|refine Za rfl ?_|refine Qb rfl rfl ?_|refine Qe rfl ?_|refine Yg rfl rfl ?_
 refine d112 hs.s0.ae ?_;simp only[List.length_cons,List.length_nil,List.nil_append,List.cons_append,Nat.zero_add,Nat.reduceAdd];repeat first|refine Za rfl ?_|refine Qb rfl rfl ?_|refine Qe rfl ?_|refine Yg rfl rfl ?_
 refine Xr (by kernel_rfl) (Za rfl ?_);rw[w1];refine Xk ?_;refine Za rfl (Xc ?_);repeat first|refine Za rfl ?_|refine Qb rfl rfl ?_|refine Qe rfl ?_|refine Yg rfl rfl ?_
 refine d96 hs.s1.aA ?_;simp only[List.length_cons,List.length_nil,List.nil_append,List.cons_append,Nat.zero_add,Nat.reduceAdd];repeat first|refine Za rfl ?_|refine Qb rfl rfl ?_|refine Qe rfl ?_|refine Yg rfl rfl ?_
 refine d96 hs.s1.hand ?_;simp only[List.length_cons,List.length_nil,List.nil_append,List.cons_append,Nat.zero_add,Nat.reduceAdd];repeat first|refine Za rfl ?_|refine Qb rfl rfl ?_|refine Qe rfl ?_|refine Yg rfl rfl ?_
 refine d96 hs.s1.aj ?_;simp only[List.length_cons,List.length_nil,List.nil_append,List.cons_append,Nat.zero_add,Nat.reduceAdd];repeat first|refine Za rfl ?_|refine Qb rfl rfl ?_|refine Qe rfl ?_|refine Yg rfl rfl ?_
 refine d96 hs.s1.told ?_;simp only[List.length_cons,List.length_nil,List.nil_append,List.cons_append,Nat.zero_add,Nat.reduceAdd];repeat first|refine Za rfl ?_|refine Qb rfl rfl ?_|refine Qe rfl ?_|refine Yg rfl rfl ?_
 refine d112 hs.s1.ae ?_;simp only[List.length_cons,List.length_nil,List.nil_append,List.cons_append,Nat.zero_add,Nat.reduceAdd];repeat first|refine Za rfl ?_|refine Qb rfl rfl ?_|refine Qe rfl ?_|refine Yg rfl rfl ?_
 refine Xr (by kernel_rfl) (Za rfl ?_);rw[w2];refine Xk ?_;refine Za rfl (Yd ?_);repeat first|refine Za rfl ?_|refine Qb rfl rfl ?_|refine Qe rfl ?_|refine Yg rfl rfl ?_
 refine Qi rfl ?_;refine Tidy.gc [2,3,4,5,7,6,8,9,10,12,11] (by decide) (by simp) ?_ rfl;simp only[KF,List.map_cons,List.map_nil,ah,EF,J3]
end Go.Ah.Tz
end
section
namespace Go.Ah.Tz
open Go.Proofs.Tryz (prog)
def du{α:Type}(t:Int):List (Int×α)→Option α
 |[]=>none
 |p::l=>if t==p.1 then some p.2 else du t l
def pU{α:Type}(f:α→aa)(l:List (Int×α)):List (aa×aa):=l.map λp=>(iv p.1,f p.2)
theorem UN{α:Type}(f:α→aa)(t:Int):∀l:List (Int×α),ir (iv t) (pU f l)=some ((du t l).map f)
 |[]=>rfl
 |p::l=>by
  simp only[pU,List.map_cons,ir,iG,du,jc,cond_true];cases h:t==p.1 with
  |true=>rfl
  |false=>exact UN f t l
theorem Uf{α:Type}(f:α→aa)(t:Int)(v:α):∀l:List (Int×α),du t l=none→my (iv t) (f v) (pU f l)=some (pU f (l++[(t,v)]))
 |[],_=>rfl
 |p::l,h=>by
  rw[du] at h;split at h
  ·cases h
  ·rename_i h2;have h2:(t==p.1)=false:=by simpa using h2
   have:=Uf f t v l h;simp only[pU] at this;simp only[pU,List.map_cons,List.cons_append,my,iG,jc,cond_true,h2,this]
theorem Ry{α:Type}(t:Int):∀ (a b:List (Int × α)),du t (a ++ b)=(match du t a with
 |some v=>some v
 | none=>du t b)
 |[],b=>rfl
 |p::a,b=>by
  simp only[List.cons_append,du];split
  ·rfl
  ·exact Ry t a b
theorem Mp{α:Type}(t:Int):∀l:List (Int×α),(du t l).isSome=(l.map (·.1)).contains t
 |[]=>rfl
 |p::l=>by
  simp only[du,List.map_cons,List.contains_cons];cases h:t==p.1 with
  |true=>simp
  |false=>simp only[Bool.false_eq_true,if_false,Bool.false_or]; exact Mp t l
theorem L1{α:Type}(f:α→aa)(z:aa)(ok:Bool){σ:List ab}{b:Nat}{l:List (Int×α)}(h:ah σ b=.map (pU f l))(t:Int):Zz false ok z [.map b,iv t] σ=.ok (jX ok z ((du t l).map f)) [b] []:=by
 simp only[Zz,v_,mapOf,h,UN,cond_true]
theorem Sq{α:Type}(f:α→aa){σ:List ab}{b:Nat}{l:List (Int×α)}(h:ah σ b=.map (pU f l))(t:Int)(v:α)(hn:du t l=none):YG false [.map b,iv t,f v] σ=.ok .aF [] [(b,.map (pU f (l++[(t,v)])))]:=by
 simp only[YG,v_,h,Uf f t v l hn,cond_true]
structure zc (row:List aa) (j:Nat) (x:Sd):Prop where
 h0:aL false (j+0) 1 row=some (iv x.aJ)
 h1:aL false (j+1) 1 row=some (iv x.aW)
 h2:aL false (j+2) 1 row=some (iv x.most)
 h3:aL false (j+3) 1 row=some (aV x.aA)
 h4:aL false (j+4) 1 row=some (aV x.hand)
 h5:aL false (j+5) 1 row=some (aV x.aj)
 h6:aL false (j+6) 1 row=some (il x.ae)
 h7:aL false (j+7) 1 row=some (aV x.told)
theorem HZ(s:St):zc (aD s) 7 s.s0:=⟨rfl,rfl,rfl,rfl,rfl,rfl,rfl,rfl⟩
theorem H9(s:St):zc (aD s) 15 s.s1:=⟨rfl,rfl,rfl,rfl,rfl,rfl,rfl,rfl⟩
attribute [local irreducible] ak.rd ak.pu ak.wr ak.dr ak.gr ak.gw ak.gl ak.gd ak.opt aH W
set_option maxHeartbeats 2000000
theorem c120(l:List Int)(hl:l.length≤gp)(id:FuncId)(fs cs:List aa)(hp:Qj prog id=true)(f:Int→Bool)(hc:∀x∈l,PC id (fs++[iv x]++cs) (.bool (f x)))(hr:∀x,fz (fs++[iv x]++cs)=true) :
  PC 71 [aV l,.func (.func id) fs cs] (iv (dE f l 0)):=by
 rw[cO] at hl;refine Yc hP g71.ok rfl rfl ?_;rw[H2.e]; unfold g71; dsimp only;refine Za (v:=iv l.length) (rd:=[]) (by simp[Zh]) ?_;refine Xj (ι:=Nat) (λi vs s=>vs=[iv i]∧i≤l.length∧dE f l 0=dE f (l.drop i) i) (λi=>l.length-i) 0 ⟨rfl,by omega,by simp⟩ ?_;rintro i vs s again ⟨rfl,hi,jV⟩ aZ;refine Za rfl (Zb (λh=>?_) (λh=>?_))
 ·have h:i<l.length:=by simpa using h
  refine Za (Zp _ aY _ _ _ l _ i h) (Za (an rfl) ?_);refine Xb (hc _ (List.getElem_mem h)) rfl hp (hr _) ?_;rw[fA h,dE] at jV;refine Zb (λh2=>?_) (λh2=>?_)
  ·rw[if_pos h2] at jV; rw[jV]; rfl
  ·rw[if_neg (by rw[h2]; simp)] at jV;refine Za (Yj ..) ?_;rw[Qd (n:=i) (by omega)];exact aZ (i+1) _ _ (by omega) ⟨rfl,by omega,by rw[jV]; push_cast; rfl⟩
 ·have h:i=l.length:=by simp at h; omega
  subst h;rw[List.drop_length,dE] at jV;rw[jV]
theorem c185(l:List Int)(hl:l.length≤gp)(id:FuncId)(fs cs:List aa)(hp:Qj prog id=true)(f:Int→Bool)(hc:∀x∈l,PC id (fs++[iv x]++cs) (.bool (f x)))(hr:∀x,fz (fs++[iv x]++cs)=true)(He:fz [aV l,.func (.func id) fs cs]=true) :
  PC 126 [aV l,.func (.func id) fs cs] (.bool (l.any f)):=by
 refine Yc hP g126.ok rfl rfl ?_;rw[H2.e]; unfold g126; dsimp only;refine Xb (c120 l hl id fs cs hp f hc hr) rfl g71.ok.plain He ?_;refine Za (X5 ..) ?_;rw[JW f l 0 (by omega)]
theorem c186(b:Bk)(x:Int):PC 127 [iv x,.ao [.ao [fm b.af,kT b.av] 0] 0] (.bool (decide (x<0)||decide ((b.af.length:Int)≤x))):=by
 refine Yc hP g127.ok rfl rfl ?_;rw[H2.e]; unfold g127; dsimp only;refine Za (YZ ..) ?_;refine zk (λ_=>rfl) (λ_=>an rfl) (λ_=>rfl) (λ_=>rfl) (λ_=>an rfl) (v6:=iv b.af.length) (q6:=[]) (λ_=>by simp[Zh]) (λ_=>X5 ..) rfl
theorem Xcq(n:Nat)(l:List Int)(most:Int):(!(decide ((l.length:Int)>most)||l.any λx=>decide (x<0)||decide ((n:Int)≤x)))=Zn n l most:=by
 rw[Zn,Bool.not_or,Td]
 congr 1
 ·rw[Bool.eq_iff_iff]; simp
 ·congr 1; funext x
  rw[Bool.eq_iff_iff]; simp
end Go.Ah.Tz
end
section
namespace Go.Ah.Tz
open Go.Proofs.Tryz (prog)
theorem Zdm(f:Int→aa)(z:aa)(o:Option Int):jX true z (o.map f)=.bn [(o.map f).getD z,.bool o.isSome]:=by cases o<;>rfl
theorem QcH{σ:List ab}{b:Nat}{row:List aa}(h:ah σ b=.box [.ao row 0])(l:List Int)(id:FuncId):Xy σ 1000 [aV l,.func (.func id) [] [.ai b 0]]=some ([aV l,.func (.func id) [] [.ao [.ao row 0] 0]],[b]):=by
 simp_all [Xy]
attribute [local irreducible] ak.rd ak.pu ak.wr ak.dr ak.gr ak.gw ak.gl ak.gd ak.opt aH W
set_option maxHeartbeats 4000000
@[reducible] def bU(b:Bk):List aa:=[fm b.af,kT b.av]
theorem Jk(b:Bk)(l:List Int)(hl:l.length≤gp)(most:Int){σ:List ab}{b4:Nat}(hb:ah σ b4=.box [.ao (bU b) 0]){R K:List ab→Prop}(hR:Zn b.af.length l most=false→∀σ',Old σ σ'→R σ')(hK:Zn b.af.length l most=true→∀σ',Old σ σ'→K σ') :
  VV.wr (Zy [.aq,(.int .i64 0)] [] σ) σ λoT σ=>VV.wr (Qm 2 [oT,.agg [aV l,iv most]] σ) σ λ_ σ=>
  VV.rd (Ze 0 [oT] σ) λCZ=>VV.rd (Xh false 1 [CZ] σ) λC1=>VV.rd (Yp [C1] σ) λC4=>
  VV.rd (Ze 1 [oT] σ) λC7=>VV.rd (Xh false 1 [C7] σ) λC_=>VV.rd (Qn .gtr false [C4,C_] σ) λnu=>
  VV.gr nu false (λk=>VV.rd (Ze 0 [oT] σ) k) λDg=>VV.gr nu false (λk=>VV.rd (Xh false 1 [Dg] σ) k) λDi=>
  VV.gr nu false (λk=>VV.rd (XS (.func 127) 0 [.ai b4 0] σ) k) λDk=>VV.gw nu false (λk=>VV.call (.call 126) [Di,Dk] σ k) σ λDp σ=>
  VV.rd (Ym [nu,(.bool true),Dp] σ) λDr=>VV.test Dr (R σ) (K σ):=by
 refine Xq (row:=[aV l,iv most]) rfl rfl rfl ?_;have hB:=Yf σ (ab.box [aV l,iv most]);have bZ:ah (σ++[ab.box [aV l,iv most]]) b4=.box [.ao (bU b) 0]:=Xd _ hb (by simp);have ho:=Old.app σ [ab.box [aV l,iv most]];generalize σ++[ab.box [aV l,iv most]]=τ at hB bZ ho ⊢;generalize σ.length=c at hB ⊢;refine Za rfl (Za (ld hB rfl) (Za (v:=iv l.length) (rd:=[]) (by simp[Zh]) (Za rfl (Za (ld hB rfl) (Za (Z9 ..) ?_)))));refine Yc7 (d:=l.any λx=>decide (x<0)||decide ((b.af.length:Int)≤x)) (λ_=>rfl) (λ_=>ld hB rfl) (λ_=>rfl) (λ_ k hk=>?_) ?_
 ·exact ZG (c185 l hl 127 [] [.ao [.ao (bU b) 0] 0] g127.ok.plain (λx=>decide (x<0)||decide ((b.af.length:Int)≤x)) (λx _=>c186 b x) (λx=>rfl) rfl) rfl g126.ok.plain (QcH bZ l 127) rfl hk
 have he:=Xcq b.af.length l most;refine Zb (λh=>hR ?_ _ ho) (λh=>hK ?_ _ ho)
 ·rw[←he,h]; rfl
 ·rw[←he,h]; rfl
theorem YdN(b:Bk)(next:Int)(u:Th)(met:Bool) :
  (!((((((((met||decide (u.card<0))||decide ((b.af.length:Int)≤u.card)) || !((b.af[u.card.toNat]?).getD default).unit)||decide (u.harm<0))||decide (1000000<u.harm))||decide (u.id<1))||decide (next≤u.id))))=(Zq b next u && !met):=by
 rw[Zq]
 grind
theorem c144(b:Bk)(s:St)(side:Int)(j:Nat)(x:Sd)(hx:zc (aD s) j x)(hj:∀σ,Yt 2 8 [.ao (aD s) (0+7),iv side] σ=.ok (.ao (aD s) j) [] [])(hs:pc 1000000000 x)(ids:List (Int×Int)){m:Nat}{σ:List ab}(hm:ah σ m=.map (pU iv ids)){K:aa→List ab→Prop}
 (hF:(Xl b.af.length x&&Ys b s.next (ids.map (·.1)) x.ae)=false→∀σ',K (.bool false) σ')
 (hT:(Xl b.af.length x&&Ys b s.next (ids.map (·.1)) x.ae)=true→∀σ',Bt m σ σ'→ah σ' m=.map (pU iv (ids++x.ae.map λu=>(u.id,side)))→K (.bool true) σ') :
  g93.u VV [.ao (bU b) 0,.ao (aD s) 0,iv side,.map m] σ K:=by
 rw[H4.e]; unfold g93; dsimp only;refine Qb rfl (Yi _ _) ?_;have hB:=Yf σ (ab.box [.ao (bU b) 0]);have ma:ah (σ++[ab.box [.ao (bU b) 0]]) m=.map (pU iv ids):=Xd _ hm (by simp);have ho:=Old.app σ [ab.box [.ao (bU b) 0]];have s_:=Ye hm (by simp);have cL:m≠σ.length:=by omega
 generalize σ++[ab.box [.ao (bU b) 0]]=τ at hB ma ho ⊢;generalize σ.length=c at hB cL ⊢;refine Za rfl (Za rfl (Za (hj _) (Za rfl (Za rfl (Za (an hx.h0) ?_)))));refine Xb (c57 _) rfl g125.ok.plain rfl (Za rfl ?_);refine zq (λ_=>rfl) (λ_=>rfl) (λ_=>rfl) (λ_=>an hx.h1) (λ_=>YZ ..) ?_;refine Xc7 (λ_=>rfl) (λ_=>rfl) (λ_=>rfl) (λ_=>an hx.h1) (λ_ k hk=>Xb (c57 _) rfl g125.ok.plain rfl hk) (λ_=>rfl) ?_;refine zq (λ_=>rfl) (λ_=>rfl) (λ_=>rfl) (λ_=>an hx.h2) (λ_=>YZ ..) ?_;refine zq (λ_=>rfl) (λ_=>rfl) (λ_=>rfl) (λ_=>an hx.h2) (λ_=>Z9 ..) ?_;refine LC (λ_=>rfl) (λ_=>rfl) (λ_=>rfl) (λ_=>an hx.h6) (v5:=iv x.ae.length) (q5:=[]) (λ_=>by simp[Zh]) (λ_=>Z9 ..) ?_;refine Zb (λh=>hF ?_ _) (λh=>?_)
 ·have:Xl b.af.length x=false:=by
   rw[Bool.eq_false_iff]; intro hh;simp only[Xl,Bool.and_eq_true,decide_eq_true_eq] at hh;obtain⟨p1,p2,p3,p4,p5,_,_,_,_,p6⟩:=hh;simp only[p1,p3,Bool.not_true,Bool.false_or,Bool.or_false,Bool.or_eq_true,decide_eq_true_eq] at h;omega
  rw[this]; rfl
 simp only[Bool.or_eq_false_iff,Bool.not_eq_false',decide_eq_false_iff_not] at h;obtain⟨⟨⟨⟨⟨p1,p2⟩,p3⟩,p4⟩,p5⟩,p6⟩:=h;have hh:Xl b.af.length x=(Zn b.af.length x.aA 60&&(Zn b.af.length x.hand 10&&(Zn b.af.length x.aj 1000000&&Zn b.af.length x.told 1000000))):=by
  have q2:decide (0≤x.aW)=true:=by simp; omega
  have q4:decide (0≤x.most)=true:=by simp; omega
  have q5:decide (x.most≤10)=true:=by simp; omega
  have q6:decide (x.ae.length≤7)=true:=by simp; omega
  rw[Xl,p1,p3,q2,q4,q5,q6]; simp
 rw[hh] at hF hT;clear hh p1 p2 p3 p4 p5 p6;refine Za rfl (Za rfl (Za (an hx.h3) (Za rfl (Za rfl (Za rfl (Za (an hx.h4) (Za rfl (Za rfl (Za rfl (Za (an hx.h5) (Za rfl (Za rfl (Za rfl (Za (an hx.h7) (Za rfl (Za rfl ?_))))))))))))))));have d1:=hs.aA;have d2:=hs.hand;have d3:=hs.aj;have d4:=hs.told;have d5:=hs.ae;refine YK 5 (Xk (Za rfl (Xc (Za rfl ?_))));refine Jk b x.aA (by rw[cO]; omega) 60 hB (λh _ _=>hF (by rw[h]; rfl) _) (λa1 σ1 o1=>Za rfl (Xk (Za rfl (Xc (Za rfl ?_)))));refine Jk b x.hand (by rw[cO]; omega) 10 (o1.get hB (by simp)) (λh _ _=>hF (by rw[a1,h]; rfl) _) (λa2 σ2 o2=>Za rfl (Xk (Za rfl (Xc (Za rfl ?_)))))
 replace o2:=o1.trans o2
 refine Jk b x.aj (by rw[cO]; omega) 1000000 (o2.get hB (by simp)) (λh _ _=>hF (by rw[a1,a2,h]; rfl) _) (λa3 σ3 o3=>Za rfl (Xk (Za rfl (Xc (Za rfl ?_)))))
 replace o3:=o2.trans o3
 refine Jk b x.told (by rw[cO]; omega) 1000000 (o3.get hB (by simp)) (λh _ _=>hF (by rw[a1,a2,a3,h]; rfl) _) (λa4 σ4 o4=>Za rfl (Xk (Za rfl (Yd ?_))))
 replace o4:=o3.trans o4
 rw[a1,a2,a3,a4] at hF hT;simp only[Bool.and_self,Bool.true_and] at hF hT;have VJ:=o4.get hB (by simp);have V6:=o4.get ma (by simp);have oo:=ho.trans o4;clear o1 o2 o3 o4 ho hB ma hm;refine Za rfl (Za rfl (Za (an hx.h6) (Za (v:=iv x.ae.length) (rd:=[]) (by simp[Zh]) ?_)));refine Xj (ι:=Nat) (λi vs τ=>vs=[iv i]∧i≤x.ae.length∧ah τ c=.box [.ao (bU b) 0]∧ah τ m=.map (pU iv (ids++(x.ae.take i).map λu=>(u.id,side)))∧Bt m σ τ∧Ys b s.next (ids.map (·.1)) x.ae=Ys b s.next ((ids++(x.ae.take i).map λu=>(u.id,side)).map (·.1)) (x.ae.drop i)) (λi=>x.ae.length-i) 0
  ⟨rfl,by omega,VJ,by simpa using V6,⟨oo.1,λc hc _=>oo.2 c hc⟩,by simp⟩ ?_
 clear VJ V6 oo;rintro i vs τ1 again ⟨rfl,hi,hB,hm,oY,hr⟩ aZ;refine Za rfl (Zb (λh=>?_) (λh=>?_));rotate_left
 ·have h:i=x.ae.length:=by simp at h; omega
  subst h;rw[List.drop_length,Ys] at hr;rw[List.take_length] at hm;exact hT hr _ oY hm
 have h:i<x.ae.length:=by simpa using h
 have dc:=λ(s:List ab)=>Zp s aP false false 4 x.ae .i64 i h;have jb:=Yv _ _ h;rw[fA h,Ys] at hr;generalize x.ae[i]=u at dc jb hr;generalize hq:ids++(x.ae.take i).map (λu=>(u.id,side))=cur at hm hr;have GA:ids++(x.ae.take (i+1)).map (λu=>(u.id,side))=cur++[(u.id,side)]:=by rw[jb,List.map_append,←List.append_assoc,hq]; rfl
 refine Za (dc _) (Za (an rfl) (Xq (row:=aP u) (row':=aP u) rfl rfl rfl ?_));have hU:=Yf τ1 (ab.box (aP u));have vx:ah (τ1++[ab.box (aP u)]) c=.box [.ao (bU b) 0]:=Xd _ hB (by simp);have ma:ah (τ1++[ab.box (aP u)]) m=.map (pU iv cur):=Xd _ hm (by simp);have z_:=Ye ma (by simp);have wL:Bt m σ (τ1++[ab.box (aP u)]):=oY.trans (Bt.gr m (Old.app _ _).1 (Old.app _ _).2);generalize τ1++[ab.box (aP u)]=τ2 at hU vx ma z_ wL ⊢;generalize τ1.length=d at hU ⊢;refine Za rfl (Za (ld hU rfl) (Za (L1 iv _ _ ma _) ?_));rw[Zdm];refine Za rfl (Za rfl ?_);refine sq (λ_=>rfl) (λ_=>ld hU rfl) (λ_=>YZ ..) ?_;refine Yd1 (λ_=>rfl) (λ_=>ld hU rfl) (λ_=>ld vx rfl) (λ_=>rfl) (λ_=>rfl) (λ_=>an rfl) (v7:=iv b.af.length) (q7:=[]) (λ_=>by simp[Zh]) (λ_=>X5 ..) ?_;refine QdK (d:=!((b.af[u.card.toNat]?).getD default).unit) (λ_=>ld vx rfl) (λ_=>rfl) (λ_=>rfl) (λ_=>an rfl) (λ_=>rfl) (λ_=>ld hU rfl) (v7:=.ao (b_ ((b.af[u.card.toNat]?).getD default)) 0) (q7:=[]) (λhc=>?_) (λ_=>rfl) (λ_=>an (rO _)) (λ_=>rfl) ?_
 ·simp only[Bool.or_eq_false_iff,decide_eq_false_iff_not] at hc;have e3:u.card.toNat<b.af.length:=by omega
  rw[List.getElem?_eq_getElem e3];exact sU _ b_ _ _ _ b.af _ u.card (by omega) e3
 refine sq (λ_=>rfl) (λ_=>ld hU rfl) (λ_=>YZ ..) ?_;refine sq (λ_=>rfl) (λ_=>ld hU rfl) (λ_=>Z9 ..) ?_;refine sq (λ_=>rfl) (λ_=>ld hU rfl) (λ_=>YZ ..) ?_;refine zk (λ_=>rfl) (λ_=>ld hU rfl) (λ_=>rfl) (λ_=>rfl) (λ_=>rfl) (v6:=iv s.next) (q6:=[]) (λ_=>an rfl) (λ_=>X5 ..) ?_;have o7:=YdN b s.next u (du u.id cur).isSome;have hk:=Mp u.id cur;refine Zb (λh2=>hF ?_ _) (λh2=>?_)
 ·rw[h2] at o7;rw[hr,←hk];have o7:(Zq b s.next u && !(du u.id cur).isSome)=false:=o7.symm;cases h5:Zq b s.next u with
  |false=>rfl
  |true=>
   rw[h5] at o7;have:(du u.id cur).isSome=true:=by simpa using o7
   rw[this]; rfl
 ·rw[h2] at o7;have o7:(Zq b s.next u && !(du u.id cur).isSome)=true:=o7.symm;simp only[Bool.and_eq_true,Bool.not_eq_true'] at o7;have jT:du u.id cur=none:=by
   have:=o7.2;cases h5:du u.id cur with
   |none=>rfl
   |some v=>rw[h5] at this; cases this
  rw[o7.1,←hk,o7.2,Bool.not_false,Bool.true_and,Bool.true_and] at hr;refine Za rfl (Za (ld hU rfl) (Qb (Sq iv ma _ side jT) (Xg _ z_) (Za (Yj ..) ?_)));rw[Qd (n:=i) (by omega)];refine aZ (i+1) _ _ (by omega) ⟨rfl,by omega,Zd vx (by simp) (λe=>cL e),?_,wL.trans ⟨by simp,λc hc cL=>Zg _ hc cL⟩,?_⟩
  ·rw[GA]; exact Xe _ z_
  ·rw[GA,hr,List.map_append]; rfl
end Go.Ah.Tz
end
section
namespace Go.Ah.Tz
open Go.Proofs.Tryz (prog)
theorem Ng(k:Int)(a:Int):∀l:List Th,du a (l.map λu=>(u.id,k))=(gU l a).map λ_=>k
 |[]=>rfl
 |u::l=>by
  have:=Ng k a l;simp only[List.map_cons,du,gU,List.findIdx?_cons];by_cases h:u.id=a
  ·simp_all
  ·have h2:(a==u.id)=false:=by simp; exact λe=>h e.symm
   simp only[h2,Bool.false_eq_true,if_false,decide_eq_false h,this,gU,Option.map_map];rfl
theorem QcU(s:St)(a:Int):du a (s.s0.ae.map (λu=>(u.id,(0:Int)))++s.s1.ae.map (λu=>(u.id,(1:Int))))=if (bj s a).2.2=true then some (bj s a).1 else none:=by
 rw[Ry,Ng,Ng,bj]
 grind
attribute [local irreducible] ak.rd ak.pu ak.wr ak.dr ak.gr ak.gw ak.gl ak.gd ak.opt aH W
set_option maxHeartbeats 4000000
theorem NF(b:Bk):aL true 0 2 (bU b)=some (dg b):=rfl
theorem Xv{e:Int}{b:Bk}{s:St}{bare:Bool}(h:aQ e b s bare=true):e=0∧1≤s.turn∧s.turn≤4096∧0≤s.mover∧s.mover≤1∧0≤s.phase∧s.phase≤2∧0≤s.result∧s.result≤3∧((s.result==0)==(s.phase != 2))=true∧1≤s.next∧s.next≤1000000∧s.al.length≤7:=by
 simp only[aQ,Bool.and_eq_true,decide_eq_true_eq] at h
 grind
theorem XcU(o:Option Int):jX true (iv 0) (o.map iv)=.bn [iv (o.getD 0),.bool o.isSome]:=by cases o<;>rfl
theorem YcU(o:Option Bool):jX false (.bool false) (o.map aa.bool)=.bool (o.getD false):=by cases o<;>rfl
theorem Tn(t:Int):∀l:List Int,(du t (l.map λa=>(a,true))).getD false=l.contains t
 |[]=>rfl
 |a::l=>by
  simp only[List.map_cons,du,List.contains_cons];cases h:t==a<;>simp_all [Tn]
theorem c111(b:Bk)(hf:aS b=true)(bN:Zj b.af)(s:St)(hs:bu 1000000000 s)(bare:Bool):PC 56 [.ao (bU b) 0,.ao (aD s) 0,.bool bare] (.bool (aQ (cE b).1 b s bare)):=by
 have h143:=c143 b hf bN;generalize (cE b).1=e at h143 ⊢;generalize (cE b).2=ep at h143;have n7:=hs.al;refine Yc hP g56.ok rfl rfl ?_;rw[H3.e]; unfold g56; dsimp only;refine Za rfl (Za rfl (Za (an rfl) (Za (YZ ..) ?_)));refine Qh λk4 KQ=>?_;have kL:(aQ e b s bare=true→False)→k4 [.bool true] []:=by
  intro h; rw[KQ]; refine Xc ?_;rw[Bool.eq_false_iff.2 (λhm=>h hm)]
 apply oB (R:=k4 [.bool false] []) (1≤s.turn∧s.turn≤4096∧0≤s.mover∧s.mover≤1∧0≤s.phase∧s.phase≤2∧0≤s.result∧s.result≤3∧((s.result==0)==(s.phase != 2))=true∧1≤s.next∧s.next≤1000000∧s.al.length≤7∧e=0)
 ·intro hR;clear KQ;refine Zb (λh=>by rw[h]; exact kL (λhm=>by have:=Xv hm; simp at h; omega)) (λb1=>Za rfl (Za rfl (Za (an rfl) (Za (Z9 ..) ?_))));refine Zb (λh=>by rw[h]; exact kL (λhm=>by have:=Xv hm; simp at h; omega)) (λb2=>Za rfl (Za rfl (Za (an rfl) (Za (YZ ..) ?_))));refine Zb (λh=>by rw[h]; exact kL (λhm=>by have:=Xv hm; simp at h; omega)) (λb3=>Za rfl (Za rfl (Za (an rfl) (Za (Z9 ..) ?_))));refine Zb (λh=>by rw[h]; exact kL (λhm=>by have:=Xv hm; simp at h; omega)) (λb4=>Za rfl (Za rfl (Za (an rfl) (Za (YZ ..) ?_))));refine Zb (λh=>by rw[h]; exact kL (λhm=>by have:=Xv hm; simp at h; omega)) (λb5=>Za rfl (Za rfl (Za (an rfl) (Za (Z9 ..) ?_))));refine Zb (λh=>by rw[h]; exact kL (λhm=>by have:=Xv hm; simp at h; omega)) (λb6=>Za rfl (Za rfl (Za (an rfl) (Za (YZ ..) ?_))));refine Zb (λh=>by rw[h]; exact kL (λhm=>by have:=Xv hm; simp at h; omega)) (λb7=>Za rfl (Za rfl (Za (an rfl) (Za (Z9 ..) ?_))));refine Zb (λh=>by rw[h]; exact kL (λhm=>by have:=Xv hm; simp at h; omega)) (λb8=>Za rfl (Za rfl (Za (an rfl) (Za (Zf ..) (Za rfl (Za rfl (Za (an rfl) (Za (XZ ..) (Za (XdU ..) ?_)))))))));have hx:(!(decide (s.result=0)==decide (s.phase≠2))) = !((s.result==0)==(s.phase != 2)):=by
   congr 1
   have e1:decide (s.result=0)=(s.result==0):=by rw[Bool.eq_iff_iff]; simp
   have e2:decide (s.phase≠2)=(s.phase != 2):=by rw[Bool.eq_iff_iff]; simp
   rw[e1,e2]
  rw[hx];refine Zb (λh=>by rw[h]; exact kL (λhm=>by have:=(Xv hm).2.2.2.2.2.2.2.2.2.1; rw[this] at h; cases h)) (λb9=>Za rfl (Za rfl (Za (an rfl) (Za (YZ ..) ?_))));refine Zb (λh=>by rw[h]; exact kL (λhm=>by have:=Xv hm; simp at h; omega)) (λb10=>Za rfl (Za rfl (Za (an rfl) (Za (Z9 ..) ?_))));refine Zb (λh=>by rw[h]; exact kL (λhm=>by have:=Xv hm; simp at h; omega)) (λb11=>Za rfl (Za rfl (Za (an rfl) (Za (v:=iv s.al.length) (rd:=[]) (by simp[Zh]) (Za (Z9 ..) ?_)))));refine Zb (λh=>by rw[h]; exact kL (λhm=>by have:=Xv hm; simp at h; omega)) (λb12=>Za rfl (Za (an (NF b)) ?_));refine Xb h143 rfl g92.ok.plain rfl (Za rfl (Za (XZ ..) ?_));by_cases he:e=0
  ·rw[show decide (e≠0)=false by simp[he]];simp at b1 b2 b3 b4 b5 b6 b7 b8 b10 b11 b12;exact hR ⟨by omega,by omega,by omega,by omega,by omega,by omega,by omega,by omega,by simpa using b9,by omega,by omega,by omega,he⟩
  ·rw[show decide (e≠0)=true by simp[he]];exact kL (λhm=>he (Xv hm).1)
 rintro⟨p1,p2,p3,p4,p5,p6,p7,p8,p9,p10,p11,p12,p13⟩;rw[KQ]; clear KQ kL k4;have mc:aQ e b s bare=(Xw b s&&(if s.phase≠1 then decide (s.al.length=0) else !(decide (s.al.length=0) && !bare)&&(s.bF&&et s [] s.al))):=by
  rw[aQ,decide_eq_true p13,decide_eq_true p1,decide_eq_true p2,decide_eq_true p3,decide_eq_true p4,decide_eq_true p5,decide_eq_true p6,decide_eq_true p7,decide_eq_true p8,p9,decide_eq_true p10,decide_eq_true p11,decide_eq_true p12];rfl
 rw[mc]; clear mc h143 p1 p2 p3 p4 p5 p6 p7 p8 p9 p10 p11 p13;have w1:IntKind.i64.wrap (0+1)=1:=by decide
 have w2:IntKind.i64.wrap (1+1)=2:=by decide
 refine Yd (Qb rfl rfl (YK 3 (Xk (Za rfl (Xc ?_)))));refine Qg hP rfl g93.ok rfl (c144 b s 0 7 s.s0 (HZ s) (λ_=>rfl) hs.s0 [] (by rfl) (λh σ1=>?_) (λh σ1 t1 m1=>?_))
 ·refine Za rfl (Xc ?_);have h:(Xl b.af.length s.s0&&Ys b s.next [] s.s0.ae)=false:=h;have:Xw b s=false:=by
   rw[Xw,←Bool.and_assoc,h]; rfl
  rw[this]; rfl
 refine Za rfl (Yd (Za rfl ?_));rw[w1];refine Xk (Za rfl (Xc ?_));refine Qg hP rfl g93.ok rfl (c144 b s 1 15 s.s1 (H9 s) (λ_=>rfl) hs.s1 _ m1 (λh2 σ2=>?_) (λh2 σ2 t2 m2=>?_))
 ·refine Za rfl (Xc ?_);have e0:(([]++s.s0.ae.map λu=>(u.id,(0:Int))):List (Int×Int)).map (·.1)=s.s0.ae.map Th.id:=by simp[Function.comp_def]
  rw[e0] at h2;have:Xw b s=false:=by
   rw[Xw,h2]; simp
  rw[this]; rfl
 have Wc:Xw b s=true:=by
  have e0:(([]++s.s0.ae.map λu=>(u.id,(0:Int))):List (Int×Int)).map (·.1)=s.s0.ae.map Th.id:=by simp[Function.comp_def]
  rw[e0] at h2;have h:(Xl b.af.length s.s0&&Ys b s.next [] s.s0.ae)=true:=h;rw[Xw,←Bool.and_assoc,h,h2]; rfl
 rw[Wc,Bool.true_and];clear Wc h h2 m1 t1 t2;refine Za rfl (Yd (Za rfl ?_));rw[w2];refine Xk (Za rfl (Yd (Za rfl (Za rfl (Za (an rfl) (Za (XZ ..) ?_))))));refine Zb (λhp=>?_) (λhp=>?_)
 ·have hp:s.phase≠1:=by simpa using hp
  rw[if_pos hp];refine Za rfl (Za rfl (Za (an rfl) (Za (v:=iv s.al.length) (rd:=[]) (by simp[Zh]) (Za (Zf ..) ?_))))
  congr 1
  rw[Bool.eq_iff_iff]; simp
 have hp:¬s.phase≠1:=by simpa using hp
 rw[if_neg hp];refine Qb rfl (Yi _ _) (Za rfl (Za rfl (Za (an rfl) (Za (v:=iv s.al.length) (rd:=[]) (by simp[Zh]) ?_))));have jl:ah (σ2++[ab.map []]) σ2.length=.map (pU aa.bool (([]:List Int).map λa=>(a,true))):=Yf _ _;have hold:=Xd [ab.map []] m2 (by simp);have cL:σ2.length≠0:=by have:=Ye m2 (by simp); omega
 generalize σ2++[ab.map []]=τ at jl hold ⊢;generalize σ2.length=mb at jl cL ⊢;refine Xj (ι:=Nat) (λi vs τ=>vs=[iv i]∧i≤s.al.length∧ah τ 0=.map (pU iv (([]++s.s0.ae.map λu=>(u.id,(0:Int)))++s.s1.ae.map λu=>(u.id,(1:Int))))∧ah τ mb=.map (pU aa.bool ((s.al.take i).map λa=>(a,true)))∧et s [] s.al=et s (s.al.take i) (s.al.drop i)) (λi=>s.al.length-i) 0
  ⟨rfl,by omega,hold,by simpa using jl,by simp⟩ ?_
 clear jl hold m2;rintro i vs τ1 again ⟨rfl,hi,Ea,O',hr⟩ aZ;refine Za rfl (Zb (λh=>?_) (λh=>?_));rotate_left
 ·have h:i=s.al.length:=by simp at h; omega
  subst h;rw[List.drop_length,et] at hr;rw[hr,Bool.and_true];refine Za rfl (Za rfl (Za (an rfl) ?_));cases fT:s.bF with
  |false=>
   refine Qa rfl (Qa rfl (Zc rfl (Zc rfl (Zc rfl (Zc rfl (Zc rfl (Zc rfl (Qa rfl (Za rfl ?_)))))))));simp
  |true=>
   refine Ya (Za rfl (Ya (Za rfl ?_)));cases bare with
   |true=>
    refine Qa rfl (Qa rfl (Qa rfl (Qa rfl (Qa rfl (Qa rfl (Ya (Za rfl (Za rfl ?_))))))));simp
   |false=>
    refine Ya (Za rfl (Ya (Za rfl (Ya (Za rfl (Ya (Za (an rfl) (Ya (Za (v:=iv s.al.length) (rd:=[]) (by simp[Zh]) (Ya (Za (Z9 ..) (Ya (Za rfl (Za rfl ?_))))))))))))));show aa.bool _=_
    congr 1
    rw[Bool.eq_iff_iff];simp[List.length_pos_iff]
 have h:i<s.al.length:=by simpa using h
 have jb:=Yv _ _ h;rw[fA h,et] at hr;refine Za (Zp _ aY _ _ _ s.al _ i h) (Za (an rfl) (Za (L1 iv _ _ Ea _) ?_));rw[XcU,List.nil_append,QcU];generalize s.al[i]=a at jb hr ⊢;generalize ho:(if (bj s a).2.2=true then some (bj s a).1 else none)=o;have KT:o.isSome=(bj s a).2.2:=by rw[←ho]; cases (bj s a).2.2<;>rfl
 have KU:(bj s a).2.2=true→o.getD 0=(bj s a).1:=by intro q; rw[←ho,if_pos q]; rfl
 refine Za rfl (Za rfl (Za rfl ?_));refine LC (λ_=>rfl) (λ_=>rfl) (λ_=>rfl) (λ_=>rfl) (λ_=>an rfl) (λ_=>XZ ..) ?_;refine sq (d:=(du a ((s.al.take i).map λa=>(a,true))).getD false) (λ_=>rfl) (λ_=>rfl) (λ_=>by rw[L1 aa.bool _ _ O',YcU]) ?_;have z8:=Tn a (s.al.take i);refine Zb (λh2=>?_) (λh2=>?_)
 ·have:et s [] s.al=false:=by
   rw[hr,Bool.eq_false_iff]; intro q;simp only[Bool.and_eq_true,decide_eq_true_eq,Bool.not_eq_true'] at q;obtain⟨⟨q1,q2⟩,q3,q4⟩:=q;rw[KT,KU q1,q1,q2,z8,q3] at h2;simp at h2
  rw[this]; simp
 ·simp only[Bool.or_eq_false_iff,Bool.not_eq_false',decide_eq_false_iff_not,Decidable.not_not] at h2;obtain⟨⟨q1,q2⟩,q3⟩:=h2;rw[KT] at q1;rw[KU q1] at q2;have jT:du a ((s.al.take i).map λa=>(a,true))=none:=by
   have:=Mp a ((s.al.take i).map λa=>(a,true));simp only[List.map_map,Function.comp_def,List.map_id'] at this;rw[←z8,q3] at this;cases h5:du a ((s.al.take i).map λa=>(a,true)) with
   |none=>rfl
   |some v=>rw[h5] at this; cases this
  rw[z8] at q3;rw[q1,q2,q3] at hr;have s_:=Ye O' (by simp);refine Qb (Sq aa.bool O' a true jT) (Xg _ s_) (Za (Yj ..) ?_);rw[Qd (n:=i) (by omega)];refine aZ (i+1) _ _ (by omega) ⟨rfl,by omega,Zd Ea (by simp) (λe=>cL e),?_,?_⟩
  ·rw[jb,List.map_append]; exact Xe _ s_
  ·rw[jb,hr]; simp
end Go.Ah.Tz
end
section
namespace Go.Ah.Tz
open Go.Proofs.Tryz (prog)
def RI(σ:List ab)(rd:List Nat)(v:aa)(l:List Int):Prop:=aB (hp σ) rd v (aV l)
def RT(σ:List ab)(rd:List Nat)(v:aa)(l:List Th):Prop:=aB (hp σ) rd v (il l)
theorem Np:∀ {l:List Int},∀r∈l.map aY,fz r=true:=by
 intro l r hr;obtain⟨x,_,rfl⟩:=List.mem_map.1 hr; rfl
theorem Vr:∀ {l:List Th},∀r∈l.map aP,fz r=true:=by
 intro l r hr;obtain⟨x,_,rfl⟩:=List.mem_map.1 hr; rfl
theorem RI.own{σ:List ab}{rd:List Nat}{b:Nat}{ex:Bool}{l:List Int}{n:Nat}(hb:ah σ b=.rows 1 (l.map aY))(cY:b∈rd)(hn:n=l.length):RI σ rd (.sl b 0 n ex) l:=
 aB.own hb cY (by simp[hn]) (Ju _ _ (by simp[hn])) Np
theorem RI.tail{σ:List ab}{rd:List Nat}{b:Nat}{ex:Bool}{x:Int}{l:List Int}{n:Nat}(hb:ah σ b=.rows 1 ((x::l).map aY))(cY:b∈rd)(hn:n=l.length):RI σ rd (.sl b 1 n ex) l:=
 aB.own hb cY (by simp[hn]; omega) (Qdg _ _ _ (by simp[hn])) Np
theorem RI.ro{σ:List ab}{rd:List Nat}(l:List Int):RI σ rd (aV l) l:=aB.ro rfl
theorem RI.aq{σ:List ab}{rd:List Nat}:RI σ rd .aq []:=aB.cy (aB.ro rfl) (λM u d=>d.bC 1)
theorem RT.aq{σ:List ab}{rd:List Nat}:RT σ rd .aq []:=aB.cy (aB.ro rfl) (λM u d=>d.bC 4)
theorem RT.ro{σ:List ab}{rd:List Nat}(l:List Th):RT σ rd (il l) l:=aB.ro rfl
theorem RT.own{σ:List ab}{rd:List Nat}{b:Nat}{ex:Bool}{l:List Th}{n:Nat}(hb:ah σ b=.rows 4 (l.map aP))(cY:b∈rd)(hn:n=l.length):RT σ rd (.sl b 0 n ex) l:=
 aB.own hb cY (by simp[hn]) (Ju _ _ (by simp[hn])) Vr
@[reducible] def Ax(s:St)(a d0 h0 g0 u0 t0 d1 h1 g1 u1 t1:aa):List aa:=[iv s.turn,iv s.mover,ar s.phase,.bool s.bF,ar s.result,a,iv s.next,
 iv s.s0.aJ,iv s.s0.aW,iv s.s0.most,d0,h0,g0,u0,t0,iv s.s1.aJ,iv s.s1.aW,iv s.s1.most,d1,h1,g1,u1,t1]
def SB(σ:List ab)(rd:List Nat)(cs:List aa)(s:St):Prop:=bp (hp σ) rd cs (aD s)
theorem SB.mk{σ:List ab}{rd:List Nat}{s:St}{a d0 h0 g0 u0 t0 d1 h1 g1 u1 t1:aa}(x1:RI σ rd a s.al)(x2:RI σ rd d0 s.s0.aA)(x3:RI σ rd h0 s.s0.hand)(x4:RI σ rd g0 s.s0.aj)(x5:RT σ rd u0 s.s0.ae)(x6:RI σ rd t0 s.s0.told)
 (y2:RI σ rd d1 s.s1.aA)(y3:RI σ rd h1 s.s1.hand)(y4:RI σ rd g1 s.s1.aj)(y5:RT σ rd u1 s.s1.ae)(y6:RI σ rd t1 s.s1.told):SB σ rd (Ax s a d0 h0 g0 u0 t0 d1 h1 g1 u1 t1) s:=
 .cons (aB.ro rfl) <| .cons (aB.ro rfl) <| .cons (aB.ro rfl) <| .cons (aB.ro rfl) <| .cons (aB.ro rfl) <| .cons x1 <| .cons (aB.ro rfl) <| .cons (aB.ro rfl) <| .cons (aB.ro rfl) <| .cons (aB.ro rfl) <| .cons x2 <| .cons x3 <| .cons x4 <| .cons x5 <| .cons x6 <|
 .cons (aB.ro rfl) <| .cons (aB.ro rfl) <| .cons (aB.ro rfl) <| .cons y2 <| .cons y3 <| .cons y4 <| .cons y5 <| .cons y6 .nil
theorem SB.ro{σ:List ab}{rd:List Nat}(s:St):SB σ rd (aD s) s:=bp.ro rfl
theorem SB.agg{σ:List ab}{rd:List Nat}{cs:List aa}{s:St}(h:SB σ rd cs s):aB (hp σ) rd (.agg cs) (cf s):=aB.agg h
def WE:Sd:=⟨0,0,0,[],[],[],[],[]⟩
def je:St:=⟨0,0,0,false,0,[],0,WE,WE⟩
theorem SB.zero{σ:List ab}{rd:List Nat}:SB σ rd (Ax je .aq .aq .aq .aq .aq .aq .aq .aq .aq .aq .aq) je:=SB.mk .aq .aq .aq .aq .aq .aq .aq .aq .aq .aq .aq
structure Ev where
 kind:Int
 side:Int
 card:Int
 id:Int
 other:Int
 n:Int
 af:List Int
 deriving DecidableEq,Inhabited
@[reducible] def eP(e:Ev):List aa:=[ar e.kind,iv e.side,iv e.card,iv e.id,iv e.other,iv e.n,aV e.af]
@[reducible] def vw(e:Ev):aa:=.agg (eP e)
def kS:Ev:=⟨0,0,0,0,0,0,[]⟩
theorem ss{σ:List ab}{rd:List Nat}{e:Ev}{v:aa}(h:RI σ rd v e.af):aB (hp σ) rd (.agg [ar e.kind,iv e.side,iv e.card,iv e.id,iv e.other,iv e.n,v]) (vw e):=
 aB.agg (.cons (aB.ro rfl) <| .cons (aB.ro rfl) <| .cons (aB.ro rfl) <| .cons (aB.ro rfl) <| .cons (aB.ro rfl) <| .cons (aB.ro rfl) <| .cons h .nil)
attribute [local irreducible] ak.rd ak.pu ak.wr ak.dr ak.gr ak.gw ak.gl ak.gd ak.opt aH W
set_option maxHeartbeats 1000000
theorem c56(b:Bk)(hf:aS b=true)(bN:Zj b.af)(s:St)(hs:bu 1000000000 s){σ:List ab}{bb sb:Nat}(h1:ah σ bb=.box (bU b))(h2:ah σ sb=.box (aD s)){K:aa→List ab→Prop}
 (hF:aQ (cE b).1 b s true=false→K .ei σ)(hT:aQ (cE b).1 b s true=true→K (.ai (σ++nk s).length 0) (σ++nk s++[.box (.ai bb 0::ru s σ.length)])):g37.u VV [.ai bb 0,.ai sb 0] σ K:=by
 rw[H2.e]; unfold g37; dsimp only;have zJ:hp σ bb=some (.box (bU b)):=Yx h1 (by simp);have ll:hp σ sb=some (.box (aD s)):=Yx h2 (by simp);refine Zx (rd:=[bb,sb]) (c111 b hf bN s hs true) rfl g56.ok.plain (.cons (aB.box zJ (by simp) (bp.ro rfl)) <| .cons (aB.box ll (by simp) (bp.ro rfl)) <| .cons (aB.ro rfl) .nil) rfl ?_;refine Za rfl (Zb (λh=>?_) (λh=>?_))
 ·exact hF (by simpa using h)
 refine Za rfl (Za (ld h2 rfl) ?_);refine Mb (c59 s hs) rfl g14.ok.plain rfl ?_;have e1:(aa.agg (ru s 0)).cj (ZK σ.length)=.agg (ru s σ.length):=by
  simp[aa.cj,fZ,ZK,Nat.add_comm]; omega
 have e2:QA σ.length (nk s)=nk s:=by
  simp only[QA,nk,vK,List.map_cons,List.map_append,List.map_nil,EF,J3]
 rw[e1,e2];refine Za rfl (Qb rfl (Yi _ _) ?_);exact hT (by simpa using h)
def lR(b:Nat):List Int→aa
 |[]=>.ax false true 1 []
 |y::l=>.sl b 1 (y::l).length false
theorem ZdK{τ:List ab}{bf:Nat}{x:Int}{l:List Int}(D6:ah τ bf=.rows 1 ((x::l).map aY)):∃rd,ZI 1 [.sl bf 0 (l.length+1) false,iv 1] τ=.ok (lR bf l) rd []:=by
 cases l with
 |nil=>
  refine⟨[],?_⟩;show (match ah τ bf with
   |.rows s _=>bif Nat.beq s 1 then (bif Nat.blt 1 1 then az.ok (.sl bf (0+1) (1-1) false) [bf] [] else bif Nat.beq 1 1 then .ok (.ax false true 1 []) [] [] else .stop) else .stop
   | _=>.stop)=_
  rw[D6]; rfl
 |cons y l=>
  refine⟨[bf],?_⟩;show (match ah τ bf with
   |.rows s _=>bif Nat.beq s 1 then (bif Nat.blt 1 ((y::l).length+1) then az.ok (.sl bf (0+1) ((y::l).length+1-1) false) [bf] [] else bif Nat.beq 1 ((y::l).length+1) then .ok (.ax false true 1 []) [] [] else .stop) else .stop
   | _=>.stop)=_
  rw[D6];have:Nat.blt 1 ((y::l).length+1)=true:=Nat.ble_eq_true_of_le (by simp);simp only[this];rfl
theorem RI.lR{σ:List ab}{rd:List Nat}{b:Nat}{x:Int}{l:List Int}(hb:ah σ b=.rows 1 ((x::l).map aY))(cY:b∈rd):RI σ rd (Tz.lR b l) l:=by
 cases l with
 |nil=>
  refine aB.cy (aB.ro (x:=.ax false true 1 []) rfl) (λM u d=>?_);cases d with
  |ax _ _ _ _ _ a cap aE off f q1 q2 q3 q4 q5 q6 q7 q8=>exact .ax _ _ _ _ _ a cap aE off f q1 (λh=>by cases h) q3 q4 q5 q6 q7 q8
 |cons y l=>exact RI.tail hb cY rfl
theorem c58{τ:List ab}{mb jf jt bf bt n k:Nat}{row nj HT:List aa}{x:Int}{l t:List Int}{vf:aa}(hm:ah τ mb=.box row)(hf:aL false jf 1 row=some (.sl bf 0 n false))(hn:n=l.length+1)(ht:aL false jt 1 nj=some (.sl bt 0 k false))(hk:k=t.length)(mW:t.length≤1000000000)
 (D6:ah τ bf=.rows 1 ((x::l).map aY))(oY:ah τ bt=.rows 1 (t.map aY))(cL:mb≠bf)(G6:mb≠bt)(Wj:vf=lR bf l)
 (h1:cr jf [vf] row=some nj)(h2:cr jt [.sl (τ.length+1) 0 (k+1) false] nj=some HT){K:aa→List ab→Prop}
 (hK:K (iv x) (((((τ.set mb (.box nj)).set bt .dead)++[ab.rows 1 [aY x]])++[ab.rows 1 ((t++[x]).map aY)]).set mb (.box HT))):g138.u VV [.ai mb jf,.ai mb jt] τ K:=by
 subst hn; subst hk;have s_:=Ye hm (by simp);have zN:=Ye oY (by simp);rw[H2.e]; unfold g138; dsimp only;refine Za rfl (Za (ld hm hf) ?_);have hx:Zm 1 [.sl bf 0 (l.length+1) false,iv ((0:Nat):Int)] τ=.ok (.ptr bf (0+0) 0) [bf] []:=rI τ bf 0 _ false 1 _ .i64 0 (by omega) D6;refine Za hx ?_;refine Za (v:=iv x) (rd:=[bf]) ?_ ?_
 ·show (match ah τ bf with
   |.rows _ rs=>match nth rs 0 with
    |some row=>match aL false 0 1 row with
     |some v=>az.ok v [bf] []
     |none=>.stop
    |none=>.stop
   | _=>.stop)=_
  rw[D6]; rfl
 refine Za rfl (Za (ld hm hf) ?_);have hvc:cellsOf vf=some [vf]:=by subst Wj; cases l<;>rfl
 obtain⟨rd,Pv⟩:=ZdK D6;rw[←Wj] at Pv;refine Za Pv ?_;refine Za rfl (Qb (cM hm hvc rfl h1) (Xg _ s_) (Za rfl (Za (ld (Xe _ s_) ht) ?_)));have wL:ah (τ.set mb (.box nj)) bt=.rows 1 (t.map aY):=Zd oY (by simp) G6;rw[ZN _ _ _ _ _ (aY x) rfl rfl,zf _ 1 8 (τ.set mb (.box nj)) bt t.length false _ (aY x) wL (by simp) rfl (by omega)];refine Za rfl ?_;have hz:t.map aY++[aY x]=(t++[x]).map aY:=by simp
 have hlen:(τ.set mb (ab.box nj)).length=τ.length:=by simp
 have hm3:ah ((((τ.set mb (.box nj)).set bt .dead)++[ab.rows 1 [aY x]])++[ab.rows 1 ((t++[x]).map aY)]) mb=.box nj:=by
  rw[Xo _ (by simp; omega),Xo _ (by simp; omega),Zg _ (by simp; omega) G6,Xe _ s_]
 rw[hz,hlen];refine Qb (cM hm3 rfl rfl h2) (Xg _ (by simp; omega)) ?_;exact hK
end Go.Ah.Tz
end
section
namespace Go.Ah.Tz
open Go.Proofs.Tryz (prog)
theorem XdK(s:St)(n:Nat):(aa.agg (ru s 0)).cj (ZK n)=.agg (ru s n):=by
 simp[aa.cj,fZ,ZK,Nat.add_comm]; omega
theorem YdK(s:St)(n:Nat):QA n (nk s)=nk s:=by
 simp only[QA,nk,vK,List.map_cons,List.map_append,List.map_nil,EF,J3]
theorem To:∀l:List Int,Z7 (l.map aY)=true
 |[]=>rfl
 |x::l=>by simp only[List.map_cons,Z7,To l,Bool.and_true]; rfl
theorem Ue:∀l:List Th,Z7 (l.map aP)=true
 |[]=>rfl
 |x::l=>by simp only[List.map_cons,Z7,Ue l,Bool.and_true]; rfl
theorem Qdr(s:St):xM (nk s)=true:=by
 simp only[nk,vK,List.cons_append,List.nil_append,xM,ab.c8,To,Ue,Bool.and_self]
theorem d59{s:St}(hs:bu 1000000000 s){σ:List ab}{rd:List Nat}{cs:List aa}(h:SB σ rd cs s){K:aa→List Nat×List Nat→List ab→Prop}(hK:K (.agg (ru s σ.length)) (rd,wo σ.length (nk s)) (σ++nk s)):VV.eJ (.call 14) [.agg cs] σ K:=by
 refine Xcp (c59 s hs) rfl g14.ok.plain (.cons (SB.agg h) .nil) rfl (Qdr s) ?_;rw[XdK,YdK]; exact hK
theorem pc.mono{n m:Nat}{s:Sd}(h:pc n s)(k:n≤m):pc m s:=⟨Nat.le_trans h.1 k,Nat.le_trans h.2 k,Nat.le_trans h.3 k,Nat.le_trans h.4 k,Nat.le_trans h.5 k⟩
theorem bu.mono{n m:Nat}{s:St}(h:bu n s)(k:n≤m):bu m s:=⟨Nat.le_trans h.1 k,h.2.mono k,h.3.mono k⟩
theorem Ka{e:Int}{b:Bk}{s:St}{bare:Bool}(h:aQ e b s bare=true):Xw b s=true:=by
 simp only[aQ,Bool.and_eq_true] at h;exact h.2.2.2.2.2.2.2.2.2.2.2.2.1
theorem ZcW{e:Int}{b:Bk}{s:St}{bare:Bool}(h:aQ e b s bare=true):gD s.s0.aJ=true:=by
 have:=Ka h;simp only[Xw,Xl,Bool.and_eq_true] at this;exact this.1.1
theorem YcW{e:Int}{b:Bk}{s:St}{bare:Bool}(h:aQ e b s bare=true):gD s.s1.aJ=true:=by
 have:=Ka h;simp only[Xw,Xl,Bool.and_eq_true] at this;exact this.2.2.1.1
theorem tp{n:Int}:gD n=true↔-1000000≤n∧n≤1000000:=by simp[gD]
theorem SB.copy{σ:List ab}{rd:List Nat}{s:St}{n:Nat}(key:∀i x,(nk s)[i]?=some x→ah σ (n+i)=x)(cY:∀i,i<11→n+i∈rd):SB σ rd (ru s n) s:=
 SB.mk (RI.own (key 0 _ rfl) (cY 0 (by decide)) rfl) (RI.own (key 1 _ rfl) (cY 1 (by decide)) rfl) (RI.own (key 2 _ rfl) (cY 2 (by decide)) rfl) (RI.own (key 3 _ rfl) (cY 3 (by decide)) rfl) (RT.own (key 4 _ rfl) (cY 4 (by decide)) rfl) (RI.own (key 5 _ rfl) (cY 5 (by decide)) rfl)
  (RI.own (key 6 _ rfl) (cY 6 (by decide)) rfl) (RI.own (key 7 _ rfl) (cY 7 (by decide)) rfl) (RI.own (key 8 _ rfl) (cY 8 (by decide)) rfl) (RT.own (key 9 _ rfl) (cY 9 (by decide)) rfl) (RI.own (key 10 _ rfl) (cY 10 (by decide)) rfl)
theorem LI{agg:Bool}{σ:List ab}{b j n:Nat}{row:List aa}{v:aa}(hb:ah σ b=.box row)(hv:aL agg j n row=some v):ga agg n (.ai b j) σ=some v:=by
 simp only[ga,hb,hv]
theorem lW(b:Bk)(hf:aS b=true)(bN:Zj b.af)(s:St)(hs:bu 1000000000 s){σ:List ab}{bb sb n0 n:Nat}(jK:σ.length=n0)(hn:n0+11=n)(h1:ah σ bb=.box (bU b))(h2:ah σ sb=.box (aD s)){K:aa→List ab→Prop}
 (hF:aQ (cE b).1 b s true=false→K .ei σ)(hT:aQ (cE b).1 b s true=true→K (.ai n 0) (σ++nk s++[.box (.ai bb 0::ru s n0)])):VV.call (.call 37) [.ai bb 0,.ai sb 0] σ K:=by
 subst jK; subst hn;refine Qg hP rfl g37.ok rfl (c56 b hf bN s hs h1 h2 hF (λh=>?_));have:(σ++nk s).length=σ.length+11:=by simp[nk,vK]
 rw[this]; exact hT h
def St.side(s:St)(k:Int):Sd:=if k=0 then s.s0 else s.s1
def St.put(s:St)(k:Int)(d:Sd):St:=if k=0 then { s with s0:=d } else { s with s1:=d }
@[reducible] def nN(s:St)(e:Ev)(x:aa):aa:=.bn [cf s,vw e,x]
@[reducible] def fQ(r:St×Ev×Int):aa:=nN r.1 r.2.1 (iv r.2.2)
theorem sk{σ:List ab}{rd:List Nat}{cs ec:List aa}{s:St}{e:Ev}{x:aa}(h1:SB σ rd cs s)(h2:aB (hp σ) rd (.agg ec) (vw e))(hx:x.ro=true):aB (hp σ) rd (.bn [.agg cs,.agg ec,x]) (nN s e x):=
 aB.bn (.cons (SB.agg h1) <| .cons h2 <| .cons (aB.ro hx) .nil)
theorem qd{σ:List ab}{rd:List Nat}{cs ec:List aa}{r:St×Ev×Int}(h1:SB σ rd cs r.1)(h2:aB (hp σ) rd (.agg ec) (vw r.2.1)):aB (hp σ) rd (.bn [.agg cs,.agg ec,iv r.2.2]) (fQ r):=sk h1 h2 rfl
@[reducible] def aU:List aa:=Ax je .aq .aq .aq .aq .aq .aq .aq .aq .aq .aq .aq
@[reducible] def bK:List aa:=[ar 0,iv 0,iv 0,iv 0,iv 0,iv 0,.aq]
theorem sN{σ:List ab}{rd:List Nat}(e:Int):aB (hp σ) rd (.bn [.agg aU,.agg bK,iv e]) (fQ (je,kS,e)):=
 qd (r:=(je,kS,e)) SB.zero (ss (e:=kS) RI.aq)
theorem yX{σ:List ab}{rd:List Nat}{x:aa}(hx:x.ro=true):aB (hp σ) rd (.bn [.agg aU,.agg bK,x]) (nN je kS x):=
 sk SB.zero (ss (e:=kS) RI.aq) hx
end Go.Ah.Tz
end
section
namespace Go.Ah
theorem M8:∀ {rs:List (List aa)},(∀r∈rs,r.all aa.cell=true)→Xs rs=true
 |[],_=>rfl
 |r::rs,h=>by simp only[Xs,Bool.and_eq_true]; exact⟨h r (by simp),M8 λx hx=>h x (by simp[hx])⟩
theorem R0{σ:List ab}{n c k:Nat}{yq:Bool}{rs2:List (List aa)}(hc:ah σ c=.rows n rs2)(eX:rs2.length=k):Qp n σ (.sl c 0 k yq)=some (rs2,[c]):=by
 simp only[Qp,hc];simp[cut,eX];rw[show Nat.ble k k=true from Nat.ble_eq_true_of_le (Nat.le_refl _)];simp[←eX]
theorem QcP(n by_:Nat){σ:List ab}{b c len k:Nat}{ex yq:Bool}{rs rs2:List (List aa)}(hb:ah σ b=.rows n rs)(hc:ah σ c=.rows n rs2)(hl:rs.length=len)(eX:rs2.length=k)(hr:Xs rs2=true)(ct:(2*(len+k)+192)*by_≤2 ^ 48) :
  Zl n by_ [.sl b 0 len ex,.sl c 0 k yq] σ=.ok (.sl σ.length 0 (len+k) false) [c] ([(b,.dead)]++[(σ.length,.rows n (rs++rs2))]):=by
 have h2:Nat.ble ((2*(len+k)+192)*by_) (2 ^ 48)=true:=Nat.ble_eq_true_of_le ct;have:Zl n by_ [.sl b 0 len ex,.sl c 0 k yq] σ=QH n by_ σ rs [(b,.dead)] (.sl c 0 k yq):=by
  simp[Zl,zh,hb,hl]
 rw[this];unfold QH;simp only[R0 hc eX,hr,eX,h2,Bool.and_self,cond_true,hl]
end Go.Ah
namespace Go.Ah.Tz
open Go.Proofs.Tryz (prog)
set_option maxRecDepth 100000
theorem ke{n:Nat}(h:Nat.blt n 40=true):n∈List.range 40:=List.mem_range.2 (gE h)
theorem SB.lit{σ:List ab}{rd:List Nat}{cs:List aa}{s:St}{a d0 h0 g0 u0 t0 d1 h1 g1 u1 t1:aa}(e:cs=Ax s a d0 h0 g0 u0 t0 d1 h1 g1 u1 t1)
 (x0:RI σ rd a s.al:=by exact RI.own rfl (ke rfl) rfl)
 (x1:RI σ rd d0 s.s0.aA:=by exact RI.own rfl (ke rfl) rfl)
 (x2:RI σ rd h0 s.s0.hand:=by exact RI.own rfl (ke rfl) rfl)
 (x3:RI σ rd g0 s.s0.aj:=by exact RI.own rfl (ke rfl) rfl)
 (x4:RT σ rd u0 s.s0.ae:=by exact RT.own rfl (ke rfl) rfl)
 (x5:RI σ rd t0 s.s0.told:=by exact RI.own rfl (ke rfl) rfl)
 (x6:RI σ rd d1 s.s1.aA:=by exact RI.own rfl (ke rfl) rfl)
 (x7:RI σ rd h1 s.s1.hand:=by exact RI.own rfl (ke rfl) rfl)
 (x8:RI σ rd g1 s.s1.aj:=by exact RI.own rfl (ke rfl) rfl)
 (x9:RT σ rd u1 s.s1.ae:=by exact RT.own rfl (ke rfl) rfl)
 (x10:RI σ rd t1 s.s1.told:=by exact RI.own rfl (ke rfl) rfl):SB σ rd cs s:=by
 subst e; exact SB.mk x0 x1 x2 x3 x4 x5 x6 x7 x8 x9 x10
theorem MG{σ:List ab}{b c len:Nat}{ex yq:Bool}{l:List Int}{x:Int}{K:aa→List Nat×List Nat→List ab→Prop}(hb:ah σ b=.rows 1 (l.map aY))(hc:ah σ c=.rows 1 [[iv x]])(hl:len=l.length)(ct:l.length≤1000000000)(hK:K (.sl σ.length 0 (l++[x]).length false) ([c],[b,σ.length]) (σ.set b .dead++[.rows 1 ((l++[x]).map aY)])) :
  VV.dr (Zl 1 8 [.sl b 0 len ex,.sl c 0 1 yq] σ) σ K:=by
 refine Yg (QcP 1 8 (rs2:=[[iv x]]) hb hc (by simp[hl]) rfl rfl (by omega)) (DC _ _ (Ye hb (by simp))) ?_;rw[hl];simpa[aY] using hK
attribute [local irreducible] ak.rd ak.pu ak.wr ak.dr ak.gr ak.gw ak.gl ak.gd ak.opt aH W
set_option maxHeartbeats 8000000
theorem au{A B:Prop}(k:B)(h:B→A:=by intro k; (repeat (first|refine Za (X6 ..) ?_|refine Za (ZM ..) ?_|refine Za rfl ?_|refine Qb rfl rfl ?_|refine Qi rfl ?_|refine Qe rfl ?_|refine Yg rfl rfl ?_|refine Xc ?_|refine Yd ?_|refine Ya ?_|refine Qa rfl ?_|refine Xa ?_|refine Yb rfl ?_|refine Xr rfl ?_|refine ZY ?_)); exact k):A:=h k
end Go.Ah.Tz
end
section
namespace Go.Ah.Tz
open Go.Proofs.Tryz (prog)
set_option maxRecDepth 100000
abbrev sf(s:St):List aa:=[.ai 0 0,iv s.turn,iv s.mover,ar s.phase,.bool s.bF,ar s.result,.sl 4 0 s.al.length false,iv s.next,iv s.s0.aJ,iv s.s0.aW,iv s.s0.most,.sl 5 0 s.s0.aA.length false,.sl 6 0 s.s0.hand.length false,.sl 7 0 s.s0.aj.length false,.sl 8 0 s.s0.ae.length false,.sl 9 0 s.s0.told.length false,iv s.s1.aJ,iv s.s1.aW,iv s.s1.most,.sl 10 0 s.s1.aA.length false,.sl 11 0 s.s1.hand.length false,.sl 12 0 s.s1.aj.length false,.sl 13 0 s.s1.ae.length false,.sl 14 0 s.s1.told.length false]
abbrev K9(s:St):List aa:=[iv s.turn,iv s.mover,ar s.phase,.bool s.bF,ar s.result,.sl 4 0 s.al.length false,iv s.next,iv s.s0.aJ,iv s.s0.aW,iv s.s0.most,.sl 5 0 s.s0.aA.length false,.sl 6 0 s.s0.hand.length false,.sl 7 0 s.s0.aj.length false,.sl 8 0 s.s0.ae.length false,.sl 9 0 s.s0.told.length false,iv s.s1.aJ,iv s.s1.aW,iv s.s1.most,.sl 10 0 s.s1.aA.length false,.sl 11 0 s.s1.hand.length false,.sl 12 0 s.s1.aj.length false,.sl 13 0 s.s1.ae.length false,.sl 14 0 s.s1.told.length false]
abbrev K8(b:Bk)(s:St):List ab:=[.box (bU b),.box (aD s),.box aU,.box bK,.rows 1 (s.al.map aY),.rows 1 (s.s0.aA.map aY),.rows 1 (s.s0.hand.map aY),.rows 1 (s.s0.aj.map aY),.rows 4 (s.s0.ae.map aP),.rows 1 (s.s0.told.map aY),.rows 1 (s.s1.aA.map aY),.rows 1 (s.s1.hand.map aY),.rows 1 (s.s1.aj.map aY),.rows 4 (s.s1.ae.map aP),.rows 1 (s.s1.told.map aY)]
def a_(s:St)(k:Int):St×Ev×Int:=
 match (s.side k).aA with
 |[]=>if gD ((s.side k).aJ-1) then (s.put k { s.side k with aJ:=(s.side k).aJ-1 },⟨3,k,-1,0,0,0,[]⟩,0) else (je,kS,171)
 |c::l=>if 10≤(s.side k).hand.length then
   ({ s with s0:={ s.s0 with told:=s.s0.told++[c] },s1:={ s.s1 with told:=s.s1.told++[c] } } |> λs'=>s'.put k { s'.side k with aA:=l,aj:=(s.side k).aj++[c] },⟨4,k,c,0,0,0,[]⟩,0)
  else (s.put k { s.side k with aA:=l,hand:=(s.side k).hand++[c],told:=(s.side k).told++[c] },⟨3,k,c,0,0,0,[]⟩,0)
attribute [local irreducible] ak.rd ak.pu ak.wr ak.dr ak.gr ak.gw ak.gl ak.gd ak.opt aH W
set_option maxHeartbeats 8000000
theorem c18(b:Bk)(hf:aS b=true)(bN:Zj b.af)(s:St)(hs:bu 2000000 s)(hm:aQ (cE b).1 b s true=true)(k:Int)(h01:k=0∨k=1):PC 101 [dg b,cf s,iv k] (fQ (a_ s k)):=by
 have wT:=tp.1 (ZcW hm);have fj:=tp.1 (YcW hm);have pK:bu 1000000000 s:=hs.mono (by decide);have ma:=hm;refine Qo hP g101.ok rfl ?_;rcases h01 with rfl|rfl
 rotate_left;obtain⟨tu,mo,ph,st,re,at_,ne,⟨l',m',o',d',h',g',u',t'⟩,⟨l,m,o,d,h,g,u,t⟩⟩:=s;obtain⟨ha,⟨p1,p2,p3,p4,p5⟩,⟨q1,q2,q3,q4,q5⟩⟩:=hs;have hl:=fj
 let mk:Sd→List Int→St:=λx y=>⟨tu,mo,ph,st,re,at_,ne,⟨l',m',o',d',h',g',u',y⟩,x⟩
 have KS:∀l m o (d h g:List Int) u (t y:List Int),d.length≤1000000000→h.length≤1000000000→g.length≤1000000000→u.length≤1000000000→t.length≤1000000000→y.length≤1000000000→bu 1000000000 (mk ⟨l,m,o,d,h,g,u,t⟩ y):=λ_ _ _ _ _ _ _ _ _ a b c d e f=>⟨pK.1,⟨pK.2.1,pK.2.2,pK.2.3,pK.2.4,f⟩,⟨a,b,c,d,e⟩⟩;rotate_left;obtain⟨tu,mo,ph,st,re,at_,ne,⟨l,m,o,d,h,g,u,t⟩,⟨l',m',o',d',h',g',u',t'⟩⟩:=s;obtain⟨ha,⟨q1,q2,q3,q4,q5⟩,⟨p1,p2,p3,p4,p5⟩⟩:=hs;have hl:=wT
 let mk:Sd→List Int→St:=λx y=>⟨tu,mo,ph,st,re,at_,ne,x,⟨l',m',o',d',h',g',u',y⟩⟩
 have KS:∀l m o (d h g:List Int) u (t y:List Int),d.length≤1000000000→h.length≤1000000000→g.length≤1000000000→u.length≤1000000000→t.length≤1000000000→y.length≤1000000000→bu 1000000000 (mk ⟨l,m,o,d,h,g,u,t⟩ y):=λ_ _ _ _ _ _ _ _ _ a b c d e f=>⟨pK.1,⟨a,b,c,d,e⟩,⟨pK.3.1,pK.3.2,pK.3.3,pK.3.4,f⟩⟩
 all_goals
  simp only at ha q1 q2 q3 q4 q5 p1 p2 p3 p4 p5 hl;rw[H3.e]; unfold g101; dsimp only[cf,aD];refine au ?_;refine lW b hf bN _ pK (n0:=4) (n:=15) (bb:=0) (sb:=1) rfl rfl rfl rfl (λh=>by rw[hm] at h; cases h) (λ_=>?_);dsimp only[ru,nk,Ej,vK];cases d with
  |nil=>
   refine au ?_;refine Xb (c57 _) rfl g125.ok.plain rfl ?_;refine au ?_;have e:IntKind.i64.wrap (l-1)=l-1:=bc (by omega) (by omega);refine Zb (λhw=>?_) (λhw=>?_)
   ·have hw:gD (l-1)=false:=by rw[←e]; simpa using hw
    refine au ?_;refine⟨[],?_⟩;show aB _ _ _ (fQ (if gD (l-1) then _ else (je,kS,171)));rw[hw];exact sN 171
   ·have hw:gD (l-1)=true:=by rw[←e]; simpa using hw
    rw[e];refine au ?_;refine d59 (s:=mk ⟨l-1,m,o,[],h,g,u,t⟩ t') (rd:=List.range 40) (KS _ _ _ _ _ _ _ _ _ (by simp) (by omega) (by omega) (by omega) (by omega) (by omega)) (SB.lit rfl) ?_;dsimp only[ru,nk,Ej,vK,mk];refine au ?_;show ∃rd,aB _ rd _ (fQ (if gD (l-1) then (_,(⟨3,_,-1,0,0,0,[]⟩:Ev),0) else (je,kS,171)));rw[if_pos hw];exact⟨List.range 40,qd (r:=(_,⟨3,_,-1,0,0,0,[]⟩,0)) (SB.lit rfl) (ss (e:=⟨3,_,-1,0,0,0,[]⟩) RI.aq)⟩
  |cons c d2=>
   simp only[List.length_cons] at q1;refine au ?_;refine Zb (λhw=>?_) (λhw=>?_)
   ·have hw:10≤h.length:=by simp at hw; omega
    refine au ?_;refine Qg hP rfl g138.ok rfl (c58 (x:=c) (l:=d2) (t:=g) rfl rfl rfl rfl rfl (by omega) rfl rfl (by decide) (by decide) rfl rfl rfl ?_);rw[show g.length+1=(g++[c]).length by simp];refine au ?_;refine YK 3 (Xk ?_);refine au ?_;refine MG rfl rfl rfl (by omega) ?_;refine au ?_;refine MG rfl rfl rfl (by omega) ?_;refine au ?_;refine d59 (s:=mk ⟨l,m,o,d2,h,g++[c],u,t++[c]⟩ (t'++[c])) (rd:=List.range 40) (KS _ _ _ _ _ _ _ _ _ (by omega) (by omega) (by simp; omega) (by omega) (by simp; omega) (by simp; omega)) (by first|exact SB.lit rfl (x1:=RI.lR rfl (ke rfl))|exact SB.lit rfl (x6:=RI.lR rfl (ke rfl))) ?_;dsimp only[ru,nk,Ej,vK,mk];refine au ?_;show ∃rd,aB _ rd _ (fQ (if 10≤h.length then (_,(⟨4,_,c,0,0,0,[]⟩:Ev),0) else _));rw[if_pos hw];exact⟨List.range 40,qd (r:=(_,⟨4,_,c,0,0,0,[]⟩,0)) (SB.lit rfl) (ss (e:=⟨4,_,c,0,0,0,[]⟩) RI.aq)⟩
   ·have hw:¬10≤h.length:=by simp at hw; omega
    refine au ?_;refine Qg hP rfl g138.ok rfl (c58 (x:=c) (l:=d2) (t:=h) rfl rfl rfl rfl rfl (by omega) rfl rfl (by decide) (by decide) rfl rfl rfl ?_);rw[show h.length+1=(h++[c]).length by simp];refine au ?_;refine MG rfl rfl rfl (by omega) ?_;refine au ?_;refine d59 (s:=mk ⟨l,m,o,d2,h++[c],g,u,t++[c]⟩ t') (rd:=List.range 40) (KS _ _ _ _ _ _ _ _ _ (by omega) (by simp; omega) (by omega) (by omega) (by simp; omega) (by omega)) (by first|exact SB.lit rfl (x1:=RI.lR rfl (ke rfl))|exact SB.lit rfl (x6:=RI.lR rfl (ke rfl))) ?_;dsimp only[ru,nk,Ej,vK,mk];refine au ?_;show ∃rd,aB _ rd _ (fQ (if 10≤h.length then _ else (_,(⟨3,_,c,0,0,0,[]⟩:Ev),0)));rw[if_neg hw];exact⟨List.range 40,qd (r:=(_,⟨3,_,c,0,0,0,[]⟩,0)) (SB.lit rfl) (ss (e:=⟨3,_,c,0,0,0,[]⟩) RI.aq)⟩
theorem Fy(b:Bk)(hf:aS b=true)(bN:Zj b.af)(s:St)(hs:bu 2000000 s)(hm:aQ (cE b).1 b s true=true):PC 101 [dg b,cf s,iv 0] (fQ (a_ s 0)):=c18 b hf bN s hs hm 0 (.inl rfl)
theorem Fz(b:Bk)(hf:aS b=true)(bN:Zj b.af)(s:St)(hs:bu 2000000 s)(hm:aQ (cE b).1 b s true=true):PC 101 [dg b,cf s,iv 1] (fQ (a_ s 1)):=c18 b hf bN s hs hm 1 (.inr rfl)
end Go.Ah.Tz
end
section
namespace Go.Ah.Tz
open Go.Proofs.Tryz (prog)
def ZU(b:Bk)(s:St)(k c:Int):Bool:=((((decide (c<0)||decide ((b.af.length:Int)≤c)) || !((b.af[c.toNat]?).getD default).unit)||decide (7≤((s.side k).ae.length:Int)))||decide (1000000≤s.next))
def XG(s:St)(k c:Int):St:={ s.put k { s.side k with ae:=(s.side k).ae++[⟨s.next,c,0,true⟩] } with next:=s.next+1 }
def wh(b:Bk)(s:St)(k c:Int):aa:=
 if ZU b s k c then nN je kS (.bool false) else nN (XG s k c) ⟨2,k,c,s.next,0,0,[]⟩ (.bool true)
attribute [local irreducible] ak.rd ak.pu ak.wr ak.dr ak.gr ak.gw ak.gl ak.gd ak.opt aH W
set_option maxHeartbeats 4000000
theorem FA(b:Bk)(hf:aS b=true)(bN:Zj b.af)(s:St)(hs:bu 2000000 s)(hm:aQ (cE b).1 b s true=true)(c:Int):PC 106 [dg b,cf s,iv 0,iv c] (wh b s 0 c):=by
 have OK:=Xv hm;have hw:IntKind.i64.wrap (s.next+1)=s.next+1:=IntWalk.i64_in _ (by omega);refine Qo hP g106.ok rfl ?_;rw[H4.e]; unfold g106; dsimp only;refine Qb (v:=.ai 0 0) (rd:=[]) (up:=[(0,.box (bU b))]) rfl rfl ?_;refine Qb (v:=.ai 1 0) (rd:=[]) (up:=[(1,.box (aD s))]) rfl rfl ?_;refine Qb (v:=.ai 2 0) (rd:=[]) (up:=[(2,.box aU)]) rfl rfl ?_;refine Qb (v:=.ai 3 0) (rd:=[]) (up:=[(3,.box bK)]) rfl rfl ?_;refine lW b hf bN s (hs.mono (by decide)) (n0:=4) (n:=15) rfl rfl rfl rfl (λh=>by rw[hm] at h; cases h) (λ_=>?_);refine Za rfl ?_;refine XQ (c:=false) (d:=false) (λ_=>rfl) (λ_=>rfl) ?_;refine XQ (c:=false) (d:=false) (λ_=>rfl) (λ_=>rfl) ?_;refine XQ (c:=false) (λ_=>rfl) (λ_=>YZ ..) ?_;refine zq (c:=decide (c<0)) (λ_=>rfl) (λ_=>rfl) (λ_=>rfl) (v4:=iv b.af.length) (q4:=[]) (λ_=>by simp[Zh]) (λ_=>X5 ..) ?_;refine zk (d:=!((b.af[c.toNat]?).getD default).unit) (λ_=>rfl) (λ_=>rfl) (λ_=>rfl) (v4:=.ao (b_ ((b.af[c.toNat]?).getD default)) 0) (q4:=[]) (λhc=>?_) (λ_=>rfl) (λ_=>an (rO _)) (λ_=>rfl) ?_
 ·have h0:0≤c∧c.toNat<b.af.length:=by
   have:¬c<0∧¬(b.af.length:Int)≤c:=by simpa using hc
   omega
  have:=sU (((K8 b s).append [.box (sf s)])) b_ false false 12 b.af .i64 c h0.1 h0.2;rw[List.getElem?_eq_getElem h0.2]; exact this
 refine zk (λ_=>rfl) (λ_=>rfl) (λ_=>rfl) (λ_=>rfl) (λ_=>rfl) (v6:=iv s.s0.ae.length) (q6:=[]) (λ_=>by simp[Zh]) (λ_=>X5 ..) ?_;refine sq (λ_=>rfl) (λ_=>rfl) (λ_=>X5 ..) ?_;refine Zb (λh=>?_) (λh=>?_)
 ·refine Za rfl (Za rfl (Qb rfl rfl (Qb rfl rfl (Qi rfl (Qi rfl ?_)))));have hr:wh b s 0 c=nN je kS (.bool false):=if_pos h;rw[hr];exact⟨[],yX rfl⟩
 have hr:wh b s 0 c=nN (XG s 0 c) ⟨2,0,c,s.next,0,0,[]⟩ (.bool true):=if_neg (by rw[Bool.not_eq_true]; exact h);have hu:¬7≤(s.s0.ae.length:Int):=by
  have h':ZU b s 0 c=false:=h;simp only[ZU,Bool.or_eq_false_iff,decide_eq_false_iff_not] at h';exact h'.1.2
 refine Za rfl (Za rfl (Za rfl (Za rfl ?_)));refine Qe rfl (Qe rfl (Yg (ld (row:=(sf s)) rfl rfl) (Xi _) ?_));refine Qe rfl (Yg (ld (row:=aD s) rfl rfl) (Xi _) (Qe rfl ?_));refine Yg (v:=.sl 16 0 1 true) (rd:=[]) (up:=[(16,.rows 4 [aP (⟨s.next,c,0,true⟩:Th)])]) rfl rfl ?_;refine Yg (v:=.sl 17 0 (s.s0.ae.length+1) false) (rd:=[16]) (up:=[(8,.dead),(17,.rows 4 ((s.s0.ae++[(⟨s.next,c,0,true⟩:Th)]).map aP))]) ?_ rfl ?_
 ·have:=Y6 4 32 (σ:=((K8 b s).append [.box (sf s),.rows 4 [aP (⟨s.next,c,0,true⟩:Th)]])) (b:=8) (c:=16) (len:=s.s0.ae.length) (ex:=false) (rs:=s.s0.ae.map aP) (row:=aP (⟨s.next,c,0,true⟩:Th)) rfl rfl (by simp) rfl (by omega);rw[show (s.s0.ae++[(⟨s.next,c,0,true⟩:Th)]).map aP=s.s0.ae.map aP++[aP (⟨s.next,c,0,true⟩:Th)] by simp]; exact this
 refine Qe rfl (Qe rfl (Yg (v:=.aF) (rd:=[]) (up:=[(15,.box ((sf s).set 14 (.sl 17 0 (s.s0.ae.length+1) false)))]) rfl rfl ?_));refine Xr (by kernel_rfl) ?_;refine Za rfl (Za rfl (Za rfl (Za (ld (row:=((sf s).set 14 (.sl 17 0 (s.s0.ae.length+1) false))) rfl rfl) (Za (Yj ..) ?_))));rw[hw];refine Za rfl (Za rfl (Za rfl (Qb (v:=.aF) (rd:=[]) (up:=[(15,.box (((sf s).set 7 (iv (s.next+1))).set 14 (.sl 17 0 (s.s0.ae.length+1) false)))]) rfl rfl ?_)));refine Qe rfl (Qe rfl (Yg (ld (row:=(((sf s).set 7 (iv (s.next+1))).set 14 (.sl 17 0 (s.s0.ae.length+1) false))) rfl rfl) (Xi _) ?_));refine Qe rfl (Yg (ld (row:=aD s) rfl rfl) (Xi _) (Qe rfl ?_));refine Yg (v:=.aF) (rd:=[]) (up:=[(2,.box (((K9 s).set 6 (iv (s.next+1))).set 13 (.sl 17 0 (s.s0.ae.length+1) false)))]) rfl rfl ?_;refine Yg (v:=.aF) (rd:=[]) (up:=[(3,.box [ar 2,iv 0,iv c,iv s.next,iv 0,iv 0,.aq])]) rfl rfl ?_;refine Xr (by kernel_rfl) (Qi rfl (Qi rfl ?_));refine⟨List.range 18,?_⟩;rw[hr];refine sk (cs:=(((K9 s).set 6 (iv (s.next+1))).set 13 (.sl 17 0 (s.s0.ae.length+1) false))) (s:=XG s 0 c) ?_ (ss (e:=⟨2,0,c,s.next,0,0,[]⟩) RI.aq) rfl;refine SB.mk (rd:=List.range 18) (s:=XG s 0 c) ?_ ?_ ?_ ?_ ?_ ?_ ?_ ?_ ?_ ?_ ?_<;>first|exact RI.own rfl (by decide) rfl|exact RT.own rfl (by decide) rfl|exact RT.own (l:=s.s0.ae++[(⟨s.next,c,0,true⟩:Th)]) rfl (by decide) (by simp)
theorem FB(b:Bk)(hf:aS b=true)(bN:Zj b.af)(s:St)(hs:bu 2000000 s)(hm:aQ (cE b).1 b s true=true)(c:Int):PC 106 [dg b,cf s,iv 1,iv c] (wh b s 1 c):=by
 have OK:=Xv hm;have hw:IntKind.i64.wrap (s.next+1)=s.next+1:=IntWalk.i64_in _ (by omega);refine Qo hP g106.ok rfl ?_;rw[H4.e]; unfold g106; dsimp only;refine Qb (v:=.ai 0 0) (rd:=[]) (up:=[(0,.box (bU b))]) rfl rfl ?_;refine Qb (v:=.ai 1 0) (rd:=[]) (up:=[(1,.box (aD s))]) rfl rfl ?_;refine Qb (v:=.ai 2 0) (rd:=[]) (up:=[(2,.box aU)]) rfl rfl ?_;refine Qb (v:=.ai 3 0) (rd:=[]) (up:=[(3,.box bK)]) rfl rfl ?_;refine lW b hf bN s (hs.mono (by decide)) (n0:=4) (n:=15) rfl rfl rfl rfl (λh=>by rw[hm] at h; cases h) (λ_=>?_);refine Za rfl ?_;refine XQ (c:=false) (d:=false) (λ_=>rfl) (λ_=>rfl) ?_;refine XQ (c:=false) (d:=false) (λ_=>rfl) (λ_=>rfl) ?_;refine XQ (c:=false) (λ_=>rfl) (λ_=>YZ ..) ?_;refine zq (c:=decide (c<0)) (λ_=>rfl) (λ_=>rfl) (λ_=>rfl) (v4:=iv b.af.length) (q4:=[]) (λ_=>by simp[Zh]) (λ_=>X5 ..) ?_;refine zk (d:=!((b.af[c.toNat]?).getD default).unit) (λ_=>rfl) (λ_=>rfl) (λ_=>rfl) (v4:=.ao (b_ ((b.af[c.toNat]?).getD default)) 0) (q4:=[]) (λhc=>?_) (λ_=>rfl) (λ_=>an (rO _)) (λ_=>rfl) ?_
 ·have h0:0≤c∧c.toNat<b.af.length:=by
   have:¬c<0∧¬(b.af.length:Int)≤c:=by simpa using hc
   omega
  have:=sU (((K8 b s).append [.box (sf s)])) b_ false false 12 b.af .i64 c h0.1 h0.2;rw[List.getElem?_eq_getElem h0.2]; exact this
 refine zk (λ_=>rfl) (λ_=>rfl) (λ_=>rfl) (λ_=>rfl) (λ_=>rfl) (v6:=iv s.s1.ae.length) (q6:=[]) (λ_=>by simp[Zh]) (λ_=>X5 ..) ?_;refine sq (λ_=>rfl) (λ_=>rfl) (λ_=>X5 ..) ?_;refine Zb (λh=>?_) (λh=>?_)
 ·refine Za rfl (Za rfl (Qb rfl rfl (Qb rfl rfl (Qi rfl (Qi rfl ?_)))));have hr:wh b s 1 c=nN je kS (.bool false):=if_pos h;rw[hr];exact⟨[],yX rfl⟩
 have hr:wh b s 1 c=nN (XG s 1 c) ⟨2,1,c,s.next,0,0,[]⟩ (.bool true):=if_neg (by rw[Bool.not_eq_true]; exact h);have hu:¬7≤(s.s1.ae.length:Int):=by
  have h':ZU b s 1 c=false:=h;simp only[ZU,Bool.or_eq_false_iff,decide_eq_false_iff_not] at h';exact h'.1.2
 refine Za rfl (Za rfl (Za rfl (Za rfl ?_)));refine Qe rfl (Qe rfl (Yg (ld (row:=(sf s)) rfl rfl) (Xi _) ?_));refine Qe rfl (Yg (ld (row:=aD s) rfl rfl) (Xi _) (Qe rfl ?_));refine Yg (v:=.sl 16 0 1 true) (rd:=[]) (up:=[(16,.rows 4 [aP (⟨s.next,c,0,true⟩:Th)])]) rfl rfl ?_;refine Yg (v:=.sl 17 0 (s.s1.ae.length+1) false) (rd:=[16]) (up:=[(13,.dead),(17,.rows 4 ((s.s1.ae++[(⟨s.next,c,0,true⟩:Th)]).map aP))]) ?_ rfl ?_
 ·have:=Y6 4 32 (σ:=((K8 b s).append [.box (sf s),.rows 4 [aP (⟨s.next,c,0,true⟩:Th)]])) (b:=13) (c:=16) (len:=s.s1.ae.length) (ex:=false) (rs:=s.s1.ae.map aP) (row:=aP (⟨s.next,c,0,true⟩:Th)) rfl rfl (by simp) rfl (by omega);rw[show (s.s1.ae++[(⟨s.next,c,0,true⟩:Th)]).map aP=s.s1.ae.map aP++[aP (⟨s.next,c,0,true⟩:Th)] by simp]; exact this
 refine Qe rfl (Qe rfl (Yg (v:=.aF) (rd:=[]) (up:=[(15,.box ((sf s).set 22 (.sl 17 0 (s.s1.ae.length+1) false)))]) rfl rfl ?_));refine Xr (by kernel_rfl) ?_;refine Za rfl (Za rfl (Za rfl (Za (ld (row:=((sf s).set 22 (.sl 17 0 (s.s1.ae.length+1) false))) rfl rfl) (Za (Yj ..) ?_))));rw[hw];refine Za rfl (Za rfl (Za rfl (Qb (v:=.aF) (rd:=[]) (up:=[(15,.box (((sf s).set 7 (iv (s.next+1))).set 22 (.sl 17 0 (s.s1.ae.length+1) false)))]) rfl rfl ?_)));refine Qe rfl (Qe rfl (Yg (ld (row:=(((sf s).set 7 (iv (s.next+1))).set 22 (.sl 17 0 (s.s1.ae.length+1) false))) rfl rfl) (Xi _) ?_));refine Qe rfl (Yg (ld (row:=aD s) rfl rfl) (Xi _) (Qe rfl ?_));refine Yg (v:=.aF) (rd:=[]) (up:=[(2,.box (((K9 s).set 6 (iv (s.next+1))).set 21 (.sl 17 0 (s.s1.ae.length+1) false)))]) rfl rfl ?_;refine Yg (v:=.aF) (rd:=[]) (up:=[(3,.box [ar 2,iv 1,iv c,iv s.next,iv 0,iv 0,.aq])]) rfl rfl ?_;refine Xr (by kernel_rfl) (Qi rfl (Qi rfl ?_));refine⟨List.range 18,?_⟩;rw[hr];refine sk (cs:=(((K9 s).set 6 (iv (s.next+1))).set 21 (.sl 17 0 (s.s1.ae.length+1) false))) (s:=XG s 1 c) ?_ (ss (e:=⟨2,1,c,s.next,0,0,[]⟩) RI.aq) rfl;refine SB.mk (rd:=List.range 18) (s:=XG s 1 c) ?_ ?_ ?_ ?_ ?_ ?_ ?_ ?_ ?_ ?_ ?_<;>first|exact RI.own rfl (by decide) rfl|exact RT.own rfl (by decide) rfl|exact RT.own (l:=s.s1.ae++[(⟨s.next,c,0,true⟩:Th)]) rfl (by decide) (by simp)
end Go.Ah.Tz
end
section
namespace Go.Ah.Tz
open Go.Proofs.Tryz (prog)
attribute [local irreducible] ak.rd ak.pu ak.wr ak.dr ak.gr ak.gw ak.gl ak.gd ak.opt aH W
set_option maxHeartbeats 4000000
theorem c118(l:List Th)(hl:l.length≤1000000000)(id:FuncId)(fs cs:List aa)(hp:Qj prog id=true)(f:Th→Bool)(hc:∀x∈l,PC id (fs++[.agg (aP x)]++cs) (.bool (f x)))(hr:∀x,fz (fs++[.agg (aP x)]++cs)=true) :
  PC 39 [il l,.func (.func id) fs cs] (iv (dE f l 0)):=by
 refine Yc hP g39.ok rfl rfl ?_;rw[H2.e]; unfold g39; dsimp only;refine Za (v:=iv l.length) (rd:=[]) (by simp[Zh]) ?_;refine Xj (ι:=Nat) (λi vs s=>vs=[iv i]∧i≤l.length∧dE f l 0=dE f (l.drop i) i) (λi=>l.length-i) 0 ⟨rfl,by omega,by simp⟩ ?_;rintro i vs s again ⟨rfl,hi,jV⟩ aZ;refine Za rfl (Zb (λh=>?_) (λh=>?_))
 ·have h:i<l.length:=by simpa using h
  refine Za (Zp _ aP _ _ _ l _ i h) (Za (an rfl) ?_);refine Xb (hc _ (List.getElem_mem h)) rfl hp (hr _) ?_;rw[fA h,dE] at jV;refine Zb (λh2=>?_) (λh2=>?_)
  ·rw[if_pos h2] at jV; rw[jV]; rfl
  ·rw[if_neg (by rw[h2]; simp)] at jV;refine Za (Yj ..) ?_;rw[Qd (n:=i) (by omega)];exact aZ (i+1) _ _ (by omega) ⟨rfl,by omega,by rw[jV]; push_cast; rfl⟩
 ·have h:i=l.length:=by simp at h; omega
  subst h;rw[List.drop_length,dE] at jV;rw[jV]
theorem c119(u:Th)(id:Int):PC 40 [.agg (aP u),.ao [iv id] 0] (.bool (decide (u.id=id))):=by
 refine Yc hP g40.ok rfl rfl ?_;rw[H2.e]; unfold g40; dsimp only;exact Qb rfl rfl (Za rfl (Za (ld rfl rfl) (Za rfl (Za (Zf ..) rfl))))
theorem Un(id:Int):∀(l:List Th) (n:Int),dE (λu:Th=>decide (u.id=id)) l n=match gU l id with
  |some k=>n+k
  |none=>-1
 |[],n=>rfl
 |u::l,n=>by
  have ih:=Un id l (n+1);simp only[dE,gU,List.findIdx?_cons] at ih ⊢;by_cases h:u.id=id
  ·simp[h]
  ·simp only[decide_eq_false h,Bool.false_eq_true,if_false,ih];cases List.findIdx? (λu=>decide (u.id=id)) l with
   |none=>rfl
   |some k=>show n+1+(k:Int)=n+((k+1:Nat):Int); omega
theorem c71(s:St)(hs:bu 1000000000 s)(id:Int):PC 19 [cf s,iv id] (i7 s id):=by
 have h0:=c118 s.s0.ae hs.s0.ae 40 [] [.ao [iv id] 0] g40.ok.plain (λu=>decide (u.id=id)) (λx _=>c119 x id) (λx=>rfl);have h1:=c118 s.s1.ae hs.s1.ae 40 [] [.ao [iv id] 0] g40.ok.plain (λu=>decide (u.id=id)) (λx _=>c119 x id) (λx=>rfl);have w1:IntKind.i64.wrap (0+1)=1:=by decide
 have w2:IntKind.i64.wrap (1+1)=2:=by decide
 rw[Un] at h0 h1;refine Yc hP g19.ok rfl rfl ?_;rw[H2.e]; unfold g19; dsimp only;refine Qb rfl rfl (Qb rfl rfl ?_);refine YK 3 (Xk ?_);refine Za rfl (Xc (Za rfl (Za rfl (Za rfl (Za rfl (Za rfl ?_))))));refine ZG h0 rfl g39.ok.plain rfl rfl ?_;simp only[i7,bj];cases q0:gU s.s0.ae id with
 |some k=>
  simp only[q0];refine Za (X5 ..) ?_;rw[decide_eq_true (by omega)];exact Xc (by simp)
 |none=>
  simp only[q0];refine Za rfl (Yd (Za rfl ?_));rw[w1];refine Xk ?_;refine Za rfl (Xc (Za rfl (Za rfl (Za rfl (Za rfl (Za rfl ?_))))));refine ZG h1 rfl g39.ok.plain rfl rfl ?_;cases q1:gU s.s1.ae id with
  |some k=>
   simp only[q1];refine Za (X5 ..) ?_;rw[decide_eq_true (by omega)];exact Xc (by simp)
  |none=>
   simp only[q1];refine Za rfl (Yd (Za rfl ?_));rw[w2];refine Xk ?_;exact Za rfl (Yd (by simp))
def Jt(b:Bk)(c:Int):Int:=((b.af[c.toNat]?).getD default).cw
def nL(b:Bk)(u:Th)(n:Int):Int:=max (IntKind.i64.wrap (n-Jt b u.card)) 0
theorem FV(x:Cd):aL false 5 1 (b_ x)=some (iv x.cw):=rfl
theorem NM(m:List aa)(aJ n:Int):PC 134 [.ao m 0,.ei,iv aJ,iv n] (.bn [iv (IntKind.i64.wrap (aJ-n)),iv n]):=by
 refine Yc hP g134.ok rfl rfl ?_;rw[H4.e]; unfold g134; dsimp only;exact Za rfl (Yd (Za (sV ..) rfl))
theorem NN(b:Bk)(m:List aa)(u:Th)(aJ n:Int)(h0:0≤u.card)(h1:u.card.toNat<b.af.length):PC 134 [.ao (.ao (bU b) 0::m) 0,.ao (aP u) 0,iv aJ,iv n] (.bn [iv (IntKind.i64.wrap (u.harm+nL b u n)),iv (nL b u n)]):=by
 refine Yc hP g134.ok rfl rfl ?_;rw[H4.e]; unfold g134; dsimp only;refine Za rfl (Xc (Za rfl (Za rfl (Za (an rfl) (Za rfl (Za rfl (Za (an rfl) (Za rfl (Za rfl (Za (an rfl) ?_))))))))));have hx:=sU [] b_ false false 12 b.af .i64 u.card h0 h1;refine Za hx (Za rfl (Za (an (FV _)) (Za (sV ..) (Za (X6 ..) ?_))));refine Za rfl (Za rfl (Za (an rfl) (Za (Yj ..) ?_)));have:Jt b u.card=(b.af[u.card.toNat]).cw:=by simp[Jt,List.getElem?_eq_getElem h1]
 rw[nL,this]
end Go.Ah.Tz
end
section
namespace Go.Ah.Tz
open Go.Proofs.Tryz (prog)
abbrev lO(s:St):List aa:=[.ai 0 0,iv s.turn,iv s.mover,ar s.phase,.bool s.bF,ar s.result,.sl 6 0 s.al.length false,iv s.next,iv s.s0.aJ,iv s.s0.aW,iv s.s0.most,.sl 7 0 s.s0.aA.length false,.sl 8 0 s.s0.hand.length false,.sl 9 0 s.s0.aj.length false,.sl 10 0 s.s0.ae.length false,.sl 11 0 s.s0.told.length false,iv s.s1.aJ,iv s.s1.aW,iv s.s1.most,.sl 12 0 s.s1.aA.length false,.sl 13 0 s.s1.hand.length false,.sl 14 0 s.s1.aj.length false,.sl 15 0 s.s1.ae.length false,.sl 16 0 s.s1.told.length false]
abbrev rq(s:St):List aa:=[iv s.turn,iv s.mover,ar s.phase,.bool s.bF,ar s.result,.sl 6 0 s.al.length false,iv s.next,iv s.s0.aJ,iv s.s0.aW,iv s.s0.most,.sl 7 0 s.s0.aA.length false,.sl 8 0 s.s0.hand.length false,.sl 9 0 s.s0.aj.length false,.sl 10 0 s.s0.ae.length false,.sl 11 0 s.s0.told.length false,iv s.s1.aJ,iv s.s1.aW,iv s.s1.most,.sl 12 0 s.s1.aA.length false,.sl 13 0 s.s1.hand.length false,.sl 14 0 s.s1.aj.length false,.sl 15 0 s.s1.ae.length false,.sl 16 0 s.s1.told.length false]
abbrev vL(b:Bk)(s:St):List ab:=[.box (bU b),.box (aD s),.box aU,.box bK,.box aU,.box bK,.rows 1 (s.al.map aY),.rows 1 (s.s0.aA.map aY),.rows 1 (s.s0.hand.map aY),.rows 1 (s.s0.aj.map aY),.rows 4 (s.s0.ae.map aP),.rows 1 (s.s0.told.map aY),.rows 1 (s.s1.aA.map aY),.rows 1 (s.s1.hand.map aY),.rows 1 (s.s1.aj.map aY),.rows 4 (s.s1.ae.map aP),.rows 1 (s.s1.told.map aY)]
abbrev pr:List ab:=[.dead,.dead,.dead,.dead,.dead,.dead,.dead,.dead,.dead,.dead,.dead,.dead,.dead,.dead,.dead,.dead,.dead,.dead]
def iu(n:Int):Int:=min (max n 0) 4000000
def lj(s:St)(kd k:Int)(i:Nat)(id:Int)(u:Th)(v:Int×Int):St×Ev×Int:=
 if gD v.1 then (s.put k { s.side k with ae:=(s.side k).ae.set i { u with harm:=v.1 } },⟨kd,k,0,id,0,v.2,[]⟩,0) else (je,kS,171)
def nE(s:St)(kd k:Int)(v:Int×Int):St×Ev×Int:=
 if gD v.1 then (s.put k { s.side k with aJ:=v.1 },⟨kd,k,0,0,0,v.2,[]⟩,0) else (je,kS,171)
def jH(kd:Int)(fP:Int→Int×Int)(fU:Th→Int×Int)(s:St)(id k:Int):St×Ev×Int:=
 if id=0 then nE s kd k (fP (s.side k).aJ) else if id<0 then (je,kS,4) else match gU s.s0.ae id with
  |some i=>lj s kd 0 i id ((s.s0.ae[i]?).getD default) (fU ((s.s0.ae[i]?).getD default))
  |none=>match gU s.s1.ae id with
   |some i=>lj s kd 1 i id ((s.s1.ae[i]?).getD default) (fU ((s.s1.ae[i]?).getD default))
   |none=>(je,kS,4)
def mM(b:Bk)(s:St)(id k n:Int):St×Ev×Int:=
 jH 5 (λl=>(IntKind.i64.wrap (l-iu n),iu n)) (λu=>(IntKind.i64.wrap (u.harm+nL b u (iu n)),nL b u (iu n))) s id k
def na(s:St)(id k n:Int):St×Ev×Int:=
 jH 6 (λl=>(IntKind.i64.wrap (l+iu n),iu n)) (λu=>(IntKind.i64.wrap (u.harm-min (iu n) u.harm),min (iu n) u.harm)) s id k
def gT(kd:Int)(F:FuncId):eH:=λA xs σ ret=>match xs with
|[x0,x1,x2,x3,x4]=>
 A.wr (tl [x0] σ) σ λRf σ=>
 A.wr (tl [x1] σ) σ λRg σ=>
 A.wr (Zy aU [] σ) σ λsn σ=>
 A.wr (Zy bK [] σ) σ λyY σ=>
 A.call (.call 132) [Rf,Rg,(.int .i8 kd),x2,x3,x4,(.func (.func F) [] [])] σ λqj σ=>
 A.rd (Ql 0 [qj] σ) λu9=>
 A.rd (Ql 1 [qj] σ) λIt=>
 A.rd (Ql 2 [qj] σ) λva=>
 A.wr (Qm 23 [sn,u9] σ) σ λ_ σ=>
 A.wr (Qm 7 [yY,It] σ) σ λ_ σ=>
 A.opt (ga true 23 sn σ) λr8=>
 A.opt (ga true 7 yY σ) λr9=>
 ret (.bn [r8,r9,va]) σ
|_=>A.stop
theorem Lo{b:Bk}{next:Int}:∀ {l:List Th} {ids:List Int},Ys b next ids l=true→∀u∈l,Zq b next u=true
 |v::l,ids,h,u,hu=>by
  simp only[Ys,Bool.and_eq_true] at h;rcases List.mem_cons.1 hu with rfl|hu
  ·exact h.1
  ·exact Lo h.2.2 u hu
theorem Ki{b:Bk}{next:Int}{u:Th}(h:Zq b next u=true):0≤u.card∧u.card.toNat<b.af.length:=by
 simp_all [Zq]
theorem JS{e:Int}{b:Bk}{s:St}{bare:Bool}(h:aQ e b s bare=true):∀u∈s.s0.ae,0≤u.card∧u.card.toNat<b.af.length:=by
 have:=Ka h;simp only[Xw,Bool.and_eq_true] at this;exact λu hu=>Ki (Lo this.2.1 u hu)
theorem Jv{e:Int}{b:Bk}{s:St}{bare:Bool}(h:aQ e b s bare=true):∀u∈s.s1.ae,0≤u.card∧u.card.toNat<b.af.length:=by
 have:=Ka h;simp only[Xw,Bool.and_eq_true] at this;exact λu hu=>Ki (Lo this.2.2.2 u hu)
theorem XY{l:List Th}{id:Int}{k:Nat}(h:gU l id=some k):∃u,l[k]?=some u∧u.id=id:=by
 obtain⟨hk,h2,_⟩:=List.findIdx?_eq_some_iff_getElem.1 h;simp_all
theorem Sc{σ:List ab}{b k:Nat}{l:List Th}{u:Th}(hU:ah σ b=.rows 4 (l.map aP))(hk:l[k]?=some u)(now:Int):Qm 1 [.ptr b k 2,iv now] σ=.ok .aF [] [(b,.rows 4 ((l.set k { u with harm:=now }).map aP))]:=by
 have h1:nth (l.map aP) k=some (aP u):=by rw[Y7,List.getElem?_map,hk]; rfl
 have hl:k<(l.map aP).length:=by grind
 have h2:YM k [iv u.id,iv u.card,iv now,.bool u.oq] (l.map aP)=some ((l.set k { u with harm:=now }).map aP):=by
  rw[DA hl,List.map_set]; rfl
 show (match ah σ b with
   |.rows sz rs=>match nth rs k with
    |some row=>match cellsOf (iv now) with
     | some cs=>bif Nat.beq cs.length 1 then (match cr 2 cs row with
      |some row'=>match YM k row' rs with
       |some rs'=>az.ok .aF [] [(b,.rows sz rs')]
       |none=>.stop
      | none=>.stop) else .stop
     |none=>.stop
    |none=>.stop
   | _=>.stop)=_
 simp_all [aP]
attribute [local irreducible] ak.rd ak.pu ak.wr ak.dr ak.gr ak.gw ak.gl ak.gd ak.opt aH W
set_option maxHeartbeats 4000000
theorem FP{b:Bk}(hf:aS b=true)(bN:Zj b.af){s:St}(hs:bu 2000000 s)(hm:aQ (cE b).1 b s true=true){f F F2:FuncId}{kd:Int}(hg:GQ f 5 (gT kd F)){gF:eH}(qQ:GQ F 1 gF)(hF:∀x τ (K:aa→List ab→Prop),K (.func (.func F2) [x] []) τ→gF VV [x] τ K)(qK:Qj prog F2=true)(n:Int)(v:Int×Int)(hc:PC F2 [.ao (.ao (bU b) 0::aD s) 0,.ei,iv s.s0.aJ,iv (iu n)] (.bn [iv v.1,iv v.2])):PC f [dg b,cf s,iv 0,iv 0,iv n] (fQ (nE s kd 0 v)):=by
 have hr:nE s kd 0 v=(if gD v.1 then (s.put 0 { s.s0 with aJ:=v.1 },⟨kd,0,0,0,0,v.2,[]⟩,0) else (je,kS,171)):=rfl;refine Qo hP hg rfl ?_;unfold gT;refine Qb (v:=.ai 0 0) (rd:=[]) (up:=[(0,.box (bU b))]) rfl rfl ?_;refine Qb (v:=.ai 1 0) (rd:=[]) (up:=[(1,.box (aD s))]) rfl rfl ?_;refine Qb (v:=.ai 2 0) (rd:=[]) (up:=[(2,.box aU)]) rfl rfl ?_;refine Qb (v:=.ai 3 0) (rd:=[]) (up:=[(3,.box bK)]) rfl rfl ?_;refine Qg hP rfl g132.ok rfl ?_;rw[H7.e]; unfold g132; dsimp only;refine Qb (v:=.ai 4 0) (rd:=[]) (up:=[(4,.box aU)]) rfl rfl ?_;refine Qb (v:=.ai 5 0) (rd:=[]) (up:=[(5,.box bK)]) rfl rfl ?_;refine lW b hf bN s (hs.mono (by decide)) (n0:=6) (n:=17) rfl rfl rfl rfl (λh=>by rw[hm] at h; cases h) (λ_=>?_);refine Za rfl (Yd (Za (X6 ..) (Za (ZM ..) (Za (XZ ..) ?_))));refine Qh λk11 i_=>?_;refine Yd ?_;rw[i_];refine Za rfl ?_;refine XQ (c:=false) (d:=false) (λ_=>rfl) (λ_=>rfl) ?_;refine Yd (Za rfl (Za rfl (Za rfl (Za rfl ?_))));refine JE hP (ys:=[.ai 17 0]) (zs:=[.ai 17 0]) rfl qQ rfl [] [17] (v:=.func (.func F2) [.ai 17 0] []) (m:=0) (σ:=((vL b s).append [.box (lO s)])) (τ:=pr) (τ':=pr) (by decide) (show ∀b∈[17],b<18 by decide) rfl rfl ?_ rfl (u:=.func (.func F2) [.ai 17 0] []) (up:=[]) (σ':=((vL b s).append [.box (lO s)])) rfl rfl rfl ?_
 ·exact hF _ _ _ ⟨rfl,rfl⟩
 refine Qe rfl (Qe rfl (Yg (ld (row:=(lO s)) rfl rfl) (Xi _) ?_));refine YW (rd:=[0,6,7,8,9,10,11,12,13,14,15,16,17]) (hc) rfl qK (.cons (aB.box (row:=(lO s)) rfl (by decide) (.cons (aB.box (row:=bU b) rfl (by decide) (bp.ro rfl)) ?_)) <| .cons (aB.ro rfl) <| .cons (aB.ro rfl) <| .cons (aB.ro rfl) .nil) rfl ?_
 ·exact SB.mk (s:=s) (RI.own rfl (by decide) rfl) (RI.own rfl (by decide) rfl) (RI.own rfl (by decide) rfl) (RI.own rfl (by decide) rfl) (RT.own rfl (by decide) rfl) (RI.own rfl (by decide) rfl) (RI.own rfl (by decide) rfl) (RI.own rfl (by decide) rfl) (RI.own rfl (by decide) rfl) (RT.own rfl (by decide) rfl) (RI.own rfl (by decide) rfl)
 refine Qe rfl (Qe rfl (Xr (by kernel_rfl) ?_));refine Xb (c57 _) rfl g125.ok.plain rfl (Za rfl (Zb (λh2=>?_) (λh2=>?_)))
 ·have h3:gD v.1=false:=by simpa using h2
  replace hr:=hr.trans (if_neg (by rw[h3]; decide))
  refine Za rfl (Za rfl (Qb rfl rfl (Qb rfl rfl (Qi rfl (Qi rfl ?_)))));refine Za rfl (Za rfl (Za rfl (Qb rfl rfl (Qb rfl rfl (Qi rfl (Qi rfl ?_))))));rw[hr];exact⟨[],sN 171⟩
 have h3:gD v.1=true:=by simpa using h2
 replace hr:=hr.trans (if_pos h3)
 refine Za rfl ?_;refine Qh λk63 qU=>?_;refine Yd (Za rfl (Za rfl (Qb (v:=.aF) (rd:=[]) (up:=[(17,.box ((lO s).set 8 (iv v.1)))]) rfl rfl ?_)));rw[qU];refine Za rfl (Za rfl (Za (ld (row:=((lO s).set 8 (iv v.1))) rfl rfl) (Za rfl ?_)));refine Qb (v:=.aF) (rd:=[]) (up:=[(4,.box ((rq s).set 7 (iv v.1)))]) rfl rfl ?_;refine Qb (v:=.aF) (rd:=[]) (up:=[(5,.box [ar kd,iv 0,iv 0,iv 0,iv 0,iv v.2,.aq])]) rfl rfl (Qi rfl (Qi rfl ?_));refine Za rfl (Za rfl (Za rfl ?_));refine Qb (v:=.aF) (rd:=[]) (up:=[(2,.box ((rq s).set 7 (iv v.1)))]) rfl rfl ?_;refine Qb (v:=.aF) (rd:=[]) (up:=[(3,.box [ar kd,iv 0,iv 0,iv 0,iv 0,iv v.2,.aq])]) rfl rfl (Qi rfl (Qi rfl ?_));rw[hr];refine⟨List.range 18,?_⟩;refine qd (cs:=((rq s).set 7 (iv v.1))) (r:=({ s with s0:={ s.s0 with aJ:=v.1 } },⟨kd,0,0,0,0,v.2,[]⟩,0)) ?_ (ss (e:=⟨kd,0,0,0,0,v.2,[]⟩) RI.aq);refine SB.mk (rd:=List.range 18) (s:={ s with s0:={ s.s0 with aJ:=v.1 } }) ?_ ?_ ?_ ?_ ?_ ?_ ?_ ?_ ?_ ?_ ?_<;>first|exact RI.own rfl (by decide) rfl|exact RT.own rfl (by decide) rfl
theorem FQ{b:Bk}(hf:aS b=true)(bN:Zj b.af){s:St}(hs:bu 2000000 s)(hm:aQ (cE b).1 b s true=true){f F F2:FuncId}{kd:Int}(hg:GQ f 5 (gT kd F)){gF:eH}(qQ:GQ F 1 gF)(hF:∀x τ (K:aa→List ab→Prop),K (.func (.func F2) [x] []) τ→gF VV [x] τ K)(qK:Qj prog F2=true)(n:Int)(v:Int×Int)(hc:PC F2 [.ao (.ao (bU b) 0::aD s) 0,.ei,iv s.s1.aJ,iv (iu n)] (.bn [iv v.1,iv v.2])):PC f [dg b,cf s,iv 0,iv 1,iv n] (fQ (nE s kd 1 v)):=by
 have hr:nE s kd 1 v=(if gD v.1 then (s.put 1 { s.s1 with aJ:=v.1 },⟨kd,1,0,0,0,v.2,[]⟩,0) else (je,kS,171)):=rfl;refine Qo hP hg rfl ?_;unfold gT;refine Qb (v:=.ai 0 0) (rd:=[]) (up:=[(0,.box (bU b))]) rfl rfl ?_;refine Qb (v:=.ai 1 0) (rd:=[]) (up:=[(1,.box (aD s))]) rfl rfl ?_;refine Qb (v:=.ai 2 0) (rd:=[]) (up:=[(2,.box aU)]) rfl rfl ?_;refine Qb (v:=.ai 3 0) (rd:=[]) (up:=[(3,.box bK)]) rfl rfl ?_;refine Qg hP rfl g132.ok rfl ?_;rw[H7.e]; unfold g132; dsimp only;refine Qb (v:=.ai 4 0) (rd:=[]) (up:=[(4,.box aU)]) rfl rfl ?_;refine Qb (v:=.ai 5 0) (rd:=[]) (up:=[(5,.box bK)]) rfl rfl ?_;refine lW b hf bN s (hs.mono (by decide)) (n0:=6) (n:=17) rfl rfl rfl rfl (λh=>by rw[hm] at h; cases h) (λ_=>?_);refine Za rfl (Yd (Za (X6 ..) (Za (ZM ..) (Za (XZ ..) ?_))));refine Qh λk11 i_=>?_;refine Yd ?_;rw[i_];refine Za rfl ?_;refine XQ (c:=false) (d:=false) (λ_=>rfl) (λ_=>rfl) ?_;refine Yd (Za rfl (Za rfl (Za rfl (Za rfl ?_))));refine JE hP (ys:=[.ai 17 0]) (zs:=[.ai 17 0]) rfl qQ rfl [] [17] (v:=.func (.func F2) [.ai 17 0] []) (m:=0) (σ:=((vL b s).append [.box (lO s)])) (τ:=pr) (τ':=pr) (by decide) (show ∀b∈[17],b<18 by decide) rfl rfl ?_ rfl (u:=.func (.func F2) [.ai 17 0] []) (up:=[]) (σ':=((vL b s).append [.box (lO s)])) rfl rfl rfl ?_
 ·exact hF _ _ _ ⟨rfl,rfl⟩
 refine Qe rfl (Qe rfl (Yg (ld (row:=(lO s)) rfl rfl) (Xi _) ?_));refine YW (rd:=[0,6,7,8,9,10,11,12,13,14,15,16,17]) (hc) rfl qK (.cons (aB.box (row:=(lO s)) rfl (by decide) (.cons (aB.box (row:=bU b) rfl (by decide) (bp.ro rfl)) ?_)) <| .cons (aB.ro rfl) <| .cons (aB.ro rfl) <| .cons (aB.ro rfl) .nil) rfl ?_
 ·exact SB.mk (s:=s) (RI.own rfl (by decide) rfl) (RI.own rfl (by decide) rfl) (RI.own rfl (by decide) rfl) (RI.own rfl (by decide) rfl) (RT.own rfl (by decide) rfl) (RI.own rfl (by decide) rfl) (RI.own rfl (by decide) rfl) (RI.own rfl (by decide) rfl) (RI.own rfl (by decide) rfl) (RT.own rfl (by decide) rfl) (RI.own rfl (by decide) rfl)
 refine Qe rfl (Qe rfl (Xr (by kernel_rfl) ?_));refine Xb (c57 _) rfl g125.ok.plain rfl (Za rfl (Zb (λh2=>?_) (λh2=>?_)))
 ·have h3:gD v.1=false:=by simpa using h2
  replace hr:=hr.trans (if_neg (by rw[h3]; decide))
  refine Za rfl (Za rfl (Qb rfl rfl (Qb rfl rfl (Qi rfl (Qi rfl ?_)))));refine Za rfl (Za rfl (Za rfl (Qb rfl rfl (Qb rfl rfl (Qi rfl (Qi rfl ?_))))));rw[hr];exact⟨[],sN 171⟩
 have h3:gD v.1=true:=by simpa using h2
 replace hr:=hr.trans (if_pos h3)
 refine Za rfl ?_;refine Qh λk63 qU=>?_;refine Yd (Za rfl (Za rfl (Qb (v:=.aF) (rd:=[]) (up:=[(17,.box ((lO s).set 16 (iv v.1)))]) rfl rfl ?_)));rw[qU];refine Za rfl (Za rfl (Za (ld (row:=((lO s).set 16 (iv v.1))) rfl rfl) (Za rfl ?_)));refine Qb (v:=.aF) (rd:=[]) (up:=[(4,.box ((rq s).set 15 (iv v.1)))]) rfl rfl ?_;refine Qb (v:=.aF) (rd:=[]) (up:=[(5,.box [ar kd,iv 1,iv 0,iv 0,iv 0,iv v.2,.aq])]) rfl rfl (Qi rfl (Qi rfl ?_));refine Za rfl (Za rfl (Za rfl ?_));refine Qb (v:=.aF) (rd:=[]) (up:=[(2,.box ((rq s).set 15 (iv v.1)))]) rfl rfl ?_;refine Qb (v:=.aF) (rd:=[]) (up:=[(3,.box [ar kd,iv 1,iv 0,iv 0,iv 0,iv v.2,.aq])]) rfl rfl (Qi rfl (Qi rfl ?_));rw[hr];refine⟨List.range 18,?_⟩;refine qd (cs:=((rq s).set 15 (iv v.1))) (r:=({ s with s1:={ s.s1 with aJ:=v.1 } },⟨kd,1,0,0,0,v.2,[]⟩,0)) ?_ (ss (e:=⟨kd,1,0,0,0,v.2,[]⟩) RI.aq);refine SB.mk (rd:=List.range 18) (s:={ s with s1:={ s.s1 with aJ:=v.1 } }) ?_ ?_ ?_ ?_ ?_ ?_ ?_ ?_ ?_ ?_ ?_<;>first|exact RI.own rfl (by decide) rfl|exact RT.own rfl (by decide) rfl
theorem FR{b:Bk}(hf:aS b=true)(bN:Zj b.af){s:St}(hs:bu 2000000 s)(hm:aQ (cE b).1 b s true=true){f F F2:FuncId}{kd:Int}(hg:GQ f 5 (gT kd F)){gF:eH}(qQ:GQ F 1 gF)(hF:∀x τ (K:aa→List ab→Prop),K (.func (.func F2) [x] []) τ→gF VV [x] τ K)(qK:Qj prog F2=true)(id sd n:Int)(jg:id≠0)(lp:¬id<0)(k:Nat)(vC:i7 s id=.bn [iv 0,iv k,.bool true])(u:Th)(hk:s.s0.ae[k]?=some u)(v:Int×Int)(hc:PC F2 [.ao (.ao (bU b) 0::aD s) 0,.ao (aP u) 0,iv s.s0.aJ,iv (iu n)] (.bn [iv v.1,iv v.2])):PC f [dg b,cf s,iv id,iv sd,iv n] (fQ (lj s kd 0 k id u v)):=by
 have h71:=c71 s (hs.mono (by decide)) id;rw[vC] at h71;have mW:k<s.s0.ae.length:=(gn hk).1;have hr:lj s kd 0 k id u v=(if gD v.1 then (s.put 0 { s.s0 with ae:=s.s0.ae.set k { u with harm:=v.1 } },⟨kd,0,0,id,0,v.2,[]⟩,0) else (je,kS,171)):=rfl;refine Qo hP hg rfl ?_;unfold gT;refine Qb (v:=.ai 0 0) (rd:=[]) (up:=[(0,.box (bU b))]) rfl rfl ?_;refine Qb (v:=.ai 1 0) (rd:=[]) (up:=[(1,.box (aD s))]) rfl rfl ?_;refine Qb (v:=.ai 2 0) (rd:=[]) (up:=[(2,.box aU)]) rfl rfl ?_;refine Qb (v:=.ai 3 0) (rd:=[]) (up:=[(3,.box bK)]) rfl rfl ?_;refine Qg hP rfl g132.ok rfl ?_;rw[H7.e]; unfold g132; dsimp only;refine Qb (v:=.ai 4 0) (rd:=[]) (up:=[(4,.box aU)]) rfl rfl ?_;refine Qb (v:=.ai 5 0) (rd:=[]) (up:=[(5,.box bK)]) rfl rfl ?_;refine lW b hf bN s (hs.mono (by decide)) (n0:=6) (n:=17) rfl rfl rfl rfl (λh=>by rw[hm] at h; cases h) (λ_=>?_);refine Za rfl (Yd (Za (X6 ..) (Za (ZM ..) (Za (XZ ..) ?_))));refine Qh λk11 i_=>?_;rw[decide_eq_true jg];refine Xc (Za rfl (Za (ld (row:=aD s) rfl rfl) ?_));refine Xb h71 rfl g19.ok.plain rfl (Za rfl (Za rfl (Za rfl (Za rfl ?_))));refine XQ (c:=false) (λ_=>rfl) (λ_=>YZ ..) ?_;rw[decide_eq_false lp];refine Yd (Za rfl (Za rfl (Za rfl (Za rfl (Za rfl (Za (ld (row:=(lO s)) rfl rfl) ?_))))));refine Za (v:=.ptr 10 k 0) (rd:=[10]) ?_ ?_
 ·have:=rI (((vL b s).append [.box (lO s)])) 10 0 s.s0.ae.length false 4 (s.s0.ae.map aP) .i64 k mW rfl;rw[Nat.zero_add] at this; exact this
 rw[i_];refine Za rfl ?_;refine XQ (c:=false) (d:=false) (λ_=>rfl) (λ_=>rfl) ?_;refine Yd (Za rfl (Za rfl (Za rfl (Za rfl ?_))));refine JE hP (ys:=[.ai 17 0]) (zs:=[.ai 17 0]) rfl qQ rfl [] [17] (v:=.func (.func F2) [.ai 17 0] []) (m:=0) (σ:=((vL b s).append [.box (lO s)])) (τ:=pr) (τ':=pr) (by decide) (show ∀b∈[17],b<18 by decide) rfl rfl ?_ rfl (u:=.func (.func F2) [.ai 17 0] []) (up:=[]) (σ':=((vL b s).append [.box (lO s)])) rfl rfl rfl ?_
 ·exact hF _ _ _ ⟨rfl,rfl⟩
 refine Qe rfl (Qe rfl (Yg (ld (row:=(lO s)) rfl rfl) (Xi _) ?_));refine YW (rd:=[0,6,7,8,9,10,11,12,13,14,15,16,17]) (hc) rfl qK (.cons (aB.box (row:=(lO s)) rfl (by decide) (.cons (aB.box (row:=bU b) rfl (by decide) (bp.ro rfl)) ?_)) <| .cons (aB.ptr (rs:=s.s0.ae.map aP) (row:=aP u) rfl (by decide) (by rw[List.getElem?_map,hk]; rfl) (bp.ro rfl)) <| .cons (aB.ro rfl) <| .cons (aB.ro rfl) .nil) rfl ?_
 ·exact SB.mk (s:=s) (RI.own rfl (by decide) rfl) (RI.own rfl (by decide) rfl) (RI.own rfl (by decide) rfl) (RI.own rfl (by decide) rfl) (RT.own rfl (by decide) rfl) (RI.own rfl (by decide) rfl) (RI.own rfl (by decide) rfl) (RI.own rfl (by decide) rfl) (RI.own rfl (by decide) rfl) (RT.own rfl (by decide) rfl) (RI.own rfl (by decide) rfl)
 refine Qe rfl (Qe rfl (Xr (by kernel_rfl) ?_));refine Xb (c57 _) rfl g125.ok.plain rfl (Za rfl (Zb (λh2=>?_) (λh2=>?_)))
 ·have h3:gD v.1=false:=by simpa using h2
  replace hr:=hr.trans (if_neg (by rw[h3]; decide))
  refine Za rfl (Za rfl (Qb rfl rfl (Qb rfl rfl (Qi rfl (Qi rfl ?_)))));refine Za rfl (Za rfl (Za rfl (Qb rfl rfl (Qb rfl rfl (Qi rfl (Qi rfl ?_))))));rw[hr];exact⟨[],sN 171⟩
 have h3:gD v.1=true:=by simpa using h2
 replace hr:=hr.trans (if_pos h3)
 refine Za rfl ?_;refine Qh λk63 qU=>?_;refine Xc (Za rfl (Za rfl (Qb (v:=.aF) (rd:=[]) (up:=[(10,.rows 4 ((s.s0.ae.set k { u with harm:=v.1 }).map aP))]) (Sc rfl hk _) rfl ?_)));rw[qU];refine Za rfl (Za rfl (Za (ld (row:=(lO s)) rfl rfl) (Za rfl ?_)));refine Qb (v:=.aF) (rd:=[]) (up:=[(4,.box (rq s))]) rfl rfl ?_;refine Qb (v:=.aF) (rd:=[]) (up:=[(5,.box [ar kd,iv 0,iv 0,iv id,iv 0,iv v.2,.aq])]) rfl rfl (Qi rfl (Qi rfl ?_));refine Za rfl (Za rfl (Za rfl ?_));refine Qb (v:=.aF) (rd:=[]) (up:=[(2,.box (rq s))]) rfl rfl ?_;refine Qb (v:=.aF) (rd:=[]) (up:=[(3,.box [ar kd,iv 0,iv 0,iv id,iv 0,iv v.2,.aq])]) rfl rfl (Qi rfl (Qi rfl ?_));rw[hr];refine⟨List.range 18,?_⟩;refine qd (cs:=(rq s)) (r:=({ s with s0:={ s.s0 with ae:=s.s0.ae.set k { u with harm:=v.1 } } },⟨kd,0,0,id,0,v.2,[]⟩,0)) ?_ (ss (e:=⟨kd,0,0,id,0,v.2,[]⟩) RI.aq);refine SB.mk (rd:=List.range 18) (s:={ s with s0:={ s.s0 with ae:=s.s0.ae.set k { u with harm:=v.1 } } }) ?_ ?_ ?_ ?_ ?_ ?_ ?_ ?_ ?_ ?_ ?_<;>first|exact RI.own rfl (by decide) rfl|exact RT.own rfl (by decide) rfl|exact RT.own (l:=s.s0.ae.set k { u with harm:=v.1 }) rfl (by decide) (by simp)
theorem FT{b:Bk}(hf:aS b=true)(bN:Zj b.af){s:St}(hs:bu 2000000 s)(hm:aQ (cE b).1 b s true=true){f F F2:FuncId}{kd:Int}(hg:GQ f 5 (gT kd F)){gF:eH}(qQ:GQ F 1 gF)(hF:∀x τ (K:aa→List ab→Prop),K (.func (.func F2) [x] []) τ→gF VV [x] τ K)(qK:Qj prog F2=true)(id sd n:Int)(jg:id≠0)(lp:¬id<0)(k:Nat)(vC:i7 s id=.bn [iv 1,iv k,.bool true])(u:Th)(hk:s.s1.ae[k]?=some u)(v:Int×Int)(hc:PC F2 [.ao (.ao (bU b) 0::aD s) 0,.ao (aP u) 0,iv s.s1.aJ,iv (iu n)] (.bn [iv v.1,iv v.2])):PC f [dg b,cf s,iv id,iv sd,iv n] (fQ (lj s kd 1 k id u v)):=by
 have h71:=c71 s (hs.mono (by decide)) id;rw[vC] at h71;have mW:k<s.s1.ae.length:=(gn hk).1;have hr:lj s kd 1 k id u v=(if gD v.1 then (s.put 1 { s.s1 with ae:=s.s1.ae.set k { u with harm:=v.1 } },⟨kd,1,0,id,0,v.2,[]⟩,0) else (je,kS,171)):=rfl;refine Qo hP hg rfl ?_;unfold gT;refine Qb (v:=.ai 0 0) (rd:=[]) (up:=[(0,.box (bU b))]) rfl rfl ?_;refine Qb (v:=.ai 1 0) (rd:=[]) (up:=[(1,.box (aD s))]) rfl rfl ?_;refine Qb (v:=.ai 2 0) (rd:=[]) (up:=[(2,.box aU)]) rfl rfl ?_;refine Qb (v:=.ai 3 0) (rd:=[]) (up:=[(3,.box bK)]) rfl rfl ?_;refine Qg hP rfl g132.ok rfl ?_;rw[H7.e]; unfold g132; dsimp only;refine Qb (v:=.ai 4 0) (rd:=[]) (up:=[(4,.box aU)]) rfl rfl ?_;refine Qb (v:=.ai 5 0) (rd:=[]) (up:=[(5,.box bK)]) rfl rfl ?_;refine lW b hf bN s (hs.mono (by decide)) (n0:=6) (n:=17) rfl rfl rfl rfl (λh=>by rw[hm] at h; cases h) (λ_=>?_);refine Za rfl (Yd (Za (X6 ..) (Za (ZM ..) (Za (XZ ..) ?_))));refine Qh λk11 i_=>?_;rw[decide_eq_true jg];refine Xc (Za rfl (Za (ld (row:=aD s) rfl rfl) ?_));refine Xb h71 rfl g19.ok.plain rfl (Za rfl (Za rfl (Za rfl (Za rfl ?_))));refine XQ (c:=false) (λ_=>rfl) (λ_=>YZ ..) ?_;rw[decide_eq_false lp];refine Yd (Za rfl (Za rfl (Za rfl (Za rfl (Za rfl (Za (ld (row:=(lO s)) rfl rfl) ?_))))));refine Za (v:=.ptr 15 k 0) (rd:=[15]) ?_ ?_
 ·have:=rI (((vL b s).append [.box (lO s)])) 15 0 s.s1.ae.length false 4 (s.s1.ae.map aP) .i64 k mW rfl;rw[Nat.zero_add] at this; exact this
 rw[i_];refine Za rfl ?_;refine XQ (c:=false) (d:=false) (λ_=>rfl) (λ_=>rfl) ?_;refine Yd (Za rfl (Za rfl (Za rfl (Za rfl ?_))));refine JE hP (ys:=[.ai 17 0]) (zs:=[.ai 17 0]) rfl qQ rfl [] [17] (v:=.func (.func F2) [.ai 17 0] []) (m:=0) (σ:=((vL b s).append [.box (lO s)])) (τ:=pr) (τ':=pr) (by decide) (show ∀b∈[17],b<18 by decide) rfl rfl ?_ rfl (u:=.func (.func F2) [.ai 17 0] []) (up:=[]) (σ':=((vL b s).append [.box (lO s)])) rfl rfl rfl ?_
 ·exact hF _ _ _ ⟨rfl,rfl⟩
 refine Qe rfl (Qe rfl (Yg (ld (row:=(lO s)) rfl rfl) (Xi _) ?_));refine YW (rd:=[0,6,7,8,9,10,11,12,13,14,15,16,17]) (hc) rfl qK (.cons (aB.box (row:=(lO s)) rfl (by decide) (.cons (aB.box (row:=bU b) rfl (by decide) (bp.ro rfl)) ?_)) <| .cons (aB.ptr (rs:=s.s1.ae.map aP) (row:=aP u) rfl (by decide) (by rw[List.getElem?_map,hk]; rfl) (bp.ro rfl)) <| .cons (aB.ro rfl) <| .cons (aB.ro rfl) .nil) rfl ?_
 ·exact SB.mk (s:=s) (RI.own rfl (by decide) rfl) (RI.own rfl (by decide) rfl) (RI.own rfl (by decide) rfl) (RI.own rfl (by decide) rfl) (RT.own rfl (by decide) rfl) (RI.own rfl (by decide) rfl) (RI.own rfl (by decide) rfl) (RI.own rfl (by decide) rfl) (RI.own rfl (by decide) rfl) (RT.own rfl (by decide) rfl) (RI.own rfl (by decide) rfl)
 refine Qe rfl (Qe rfl (Xr (by kernel_rfl) ?_));refine Xb (c57 _) rfl g125.ok.plain rfl (Za rfl (Zb (λh2=>?_) (λh2=>?_)))
 ·have h3:gD v.1=false:=by simpa using h2
  replace hr:=hr.trans (if_neg (by rw[h3]; decide))
  refine Za rfl (Za rfl (Qb rfl rfl (Qb rfl rfl (Qi rfl (Qi rfl ?_)))));refine Za rfl (Za rfl (Za rfl (Qb rfl rfl (Qb rfl rfl (Qi rfl (Qi rfl ?_))))));rw[hr];exact⟨[],sN 171⟩
 have h3:gD v.1=true:=by simpa using h2
 replace hr:=hr.trans (if_pos h3)
 refine Za rfl ?_;refine Qh λk63 qU=>?_;refine Xc (Za rfl (Za rfl (Qb (v:=.aF) (rd:=[]) (up:=[(15,.rows 4 ((s.s1.ae.set k { u with harm:=v.1 }).map aP))]) (Sc rfl hk _) rfl ?_)));rw[qU];refine Za rfl (Za rfl (Za (ld (row:=(lO s)) rfl rfl) (Za rfl ?_)));refine Qb (v:=.aF) (rd:=[]) (up:=[(4,.box (rq s))]) rfl rfl ?_;refine Qb (v:=.aF) (rd:=[]) (up:=[(5,.box [ar kd,iv 1,iv 0,iv id,iv 0,iv v.2,.aq])]) rfl rfl (Qi rfl (Qi rfl ?_));refine Za rfl (Za rfl (Za rfl ?_));refine Qb (v:=.aF) (rd:=[]) (up:=[(2,.box (rq s))]) rfl rfl ?_;refine Qb (v:=.aF) (rd:=[]) (up:=[(3,.box [ar kd,iv 1,iv 0,iv id,iv 0,iv v.2,.aq])]) rfl rfl (Qi rfl (Qi rfl ?_));rw[hr];refine⟨List.range 18,?_⟩;refine qd (cs:=(rq s)) (r:=({ s with s1:={ s.s1 with ae:=s.s1.ae.set k { u with harm:=v.1 } } },⟨kd,1,0,id,0,v.2,[]⟩,0)) ?_ (ss (e:=⟨kd,1,0,id,0,v.2,[]⟩) RI.aq);refine SB.mk (rd:=List.range 18) (s:={ s with s1:={ s.s1 with ae:=s.s1.ae.set k { u with harm:=v.1 } } }) ?_ ?_ ?_ ?_ ?_ ?_ ?_ ?_ ?_ ?_ ?_<;>first|exact RI.own rfl (by decide) rfl|exact RT.own rfl (by decide) rfl|exact RT.own (l:=s.s1.ae.set k { u with harm:=v.1 }) rfl (by decide) (by simp)
theorem VB{b:Bk}(hf:aS b=true)(bN:Zj b.af){s:St}(hs:bu 2000000 s)(hm:aQ (cE b).1 b s true=true){f F F2:FuncId}{kd:Int}(hg:GQ f 5 (gT kd F)){gF:eH}(qQ:GQ F 1 gF)(hF:∀x τ (K:aa→List ab→Prop),K (.func (.func F2) [x] []) τ→gF VV [x] τ K)(qK:Qj prog F2=true)(id sd n:Int)(jg:id≠0)(v:aa)(w:aa)(x:Bool)(vC:i7 s id=.bn [v,w,.bool x])(hx:id<0∨x=false):PC f [dg b,cf s,iv id,iv sd,iv n] (fQ (je,kS,4)):=by
 have h71:=c71 s (hs.mono (by decide)) id;rw[vC] at h71;have sY:fz [.bn [v,w,.bool x]]=true:=by rw[←vC]; rfl
 refine Qo hP hg rfl ?_;unfold gT;refine Qb (v:=.ai 0 0) (rd:=[]) (up:=[(0,.box (bU b))]) rfl rfl ?_;refine Qb (v:=.ai 1 0) (rd:=[]) (up:=[(1,.box (aD s))]) rfl rfl ?_;refine Qb (v:=.ai 2 0) (rd:=[]) (up:=[(2,.box aU)]) rfl rfl ?_;refine Qb (v:=.ai 3 0) (rd:=[]) (up:=[(3,.box bK)]) rfl rfl ?_;refine Qg hP rfl g132.ok rfl ?_;rw[H7.e]; unfold g132; dsimp only;refine Qb (v:=.ai 4 0) (rd:=[]) (up:=[(4,.box aU)]) rfl rfl ?_;refine Qb (v:=.ai 5 0) (rd:=[]) (up:=[(5,.box bK)]) rfl rfl ?_;refine lW b hf bN s (hs.mono (by decide)) (n0:=6) (n:=17) rfl rfl rfl rfl (λh=>by rw[hm] at h; cases h) (λ_=>?_);refine Za rfl (Yd (Za (X6 ..) (Za (ZM ..) (Za (XZ ..) ?_))));refine Qh λk11 i_=>?_;rw[decide_eq_true jg];refine Xc (Za rfl (Za (ld (row:=aD s) rfl rfl) ?_));refine Xb h71 rfl g19.ok.plain rfl (Za rfl (Za rfl (Za rfl (Za rfl ?_))));refine XQ (c:=!x) (λ_=>rfl) (λ_=>YZ ..) ?_;rw[show (!x||decide (id<0))=true by rcases hx with h|h<;>simp[h]];refine Xc ?_;refine Za rfl (Za rfl (Qb rfl rfl (Qb rfl rfl (Qi rfl (Qi rfl ?_)))));refine Za rfl (Za rfl (Za rfl (Qb rfl rfl (Qb rfl rfl (Qi rfl (Qi rfl ?_))))));exact⟨[],sN 4⟩
theorem cT{b:Bk}(hf:aS b=true)(bN:Zj b.af){s:St}(hs:bu 2000000 s)(hm:aQ (cE b).1 b s true=true){f F F2:FuncId}{kd:Int}(hg:GQ f 5 (gT kd F)){gF:eH}(qQ:GQ F 1 gF)(hF:∀x τ (K:aa→List ab→Prop),K (.func (.func F2) [x] []) τ→gF VV [x] τ K)(qK:Qj prog F2=true)(id sd n:Int)(h0:sd=0∨sd=1){fP:Int→Int×Int}{fU:Th→Int×Int}(VP:∀m aJ,PC F2 [.ao m 0,.ei,iv aJ,iv (iu n)] (.bn [iv (fP aJ).1,iv (fP aJ).2]))(VQ:∀m u aJ,0≤u.card→u.card.toNat<b.af.length→PC F2 [.ao (.ao (bU b) 0::m) 0,.ao (aP u) 0,iv aJ,iv (iu n)] (.bn [iv (fU u).1,iv (fU u).2])) :
  PC f [dg b,cf s,iv id,iv sd,iv n] (fQ (jH kd fP fU s id sd)):=by
 unfold jH;by_cases jg:id=0
 ·rw[if_pos jg]; subst jg;rcases h0 with rfl|rfl
  ·exact FP hf bN hs hm hg qQ hF qK n _ (VP _ _)
  ·exact FQ hf bN hs hm hg qQ hF qK n _ (VP _ _)
 rw[if_neg jg];by_cases lp:id<0
 ·rw[if_pos lp];exact VB hf bN hs hm hg qQ hF qK id sd n jg _ _ _ rfl (.inl lp)
 rw[if_neg lp];cases q0:gU s.s0.ae id with
 |some k=>
  obtain⟨u,hk,_⟩:=XY q0;have Gw:=JS hm u (List.mem_of_getElem? hk);simp only[hk,Option.getD_some];exact FR hf bN hs hm hg qQ hF qK id sd n jg lp k (by simp[i7,bj,q0]) u hk _ (VQ _ _ _ Gw.1 Gw.2)
 |none=>
  cases q1:gU s.s1.ae id with
  |some k=>
   obtain⟨u,hk,_⟩:=XY q1;have Gw:=Jv hm u (List.mem_of_getElem? hk);simp only[hk,Option.getD_some];exact FT hf bN hs hm hg qQ hF qK id sd n jg lp k (by simp[i7,bj,q0,q1]) u hk _ (VQ _ _ _ Gw.1 Gw.2)
  |none=>exact VB hf bN hs hm hg qQ hF qK id sd n jg _ _ _ rfl (.inr (by simp[bj,q0,q1]))
theorem w65(x:aa)(τ:List ab)(K:aa→List ab→Prop)(h:K (.func (.func 134) [x] []) τ):g133.u VV [x] τ K:=by
 rw[H1.e]; unfold g133; dsimp only;exact Za rfl h
theorem c22(b:Bk)(hf:aS b=true)(bN:Zj b.af)(s:St)(hs:bu 2000000 s)(hm:aQ (cE b).1 b s true=true)(id sd n:Int)(h0:sd=0∨sd=1):PC 97 [dg b,cf s,iv id,iv sd,iv n] (fQ (mM b s id sd n)):=
 cT hf bN hs hm (show GQ 97 5 (gT 5 133) from g97.ok) g133.ok w65 g134.ok.plain id sd n h0 (λm aJ=>NM m aJ _) (λm u aJ h1 h2=>NN b m u aJ _ h1 h2)
end Go.Ah.Tz
end
section
namespace Go.Ah.Tz
open Go.Proofs.Tryz (prog)
attribute [local irreducible] ak.rd ak.pu ak.wr ak.dr ak.gr ak.gw ak.gl ak.gd ak.opt aH W
set_option maxHeartbeats 8000000
theorem told{α:Type}(l:List α){Q:α→Int→Prop}(h:∀x∈l,∃n,Q x n):∃F:Nat→Int,∀i (h:i<l.length),Q l[i] (F i):=by
 refine Classical.axiomOfChoice (r:=λ(i:Nat) (n:Int)=>∀(h:i<l.length),Q l[i] n) (λi=>?_);by_cases hi:i<l.length
 ·obtain⟨n,hn⟩:=h l[i] (List.getElem_mem hi);exact⟨n,λ_=>hn⟩
 ·exact⟨0,λh'=>(hi h').elim⟩
end Go.Ah.Tz
end
section
namespace Go.Ah.Tz
open Go.Proofs.Tryz (prog)
abbrev nz(s:St):List aa:=[.ai 0 0,iv s.turn,iv s.mover,ar s.phase,.bool s.bF,ar s.result,.sl 2 0 s.al.length false,iv s.next,iv s.s0.aJ,iv s.s0.aW,iv s.s0.most,.sl 3 0 s.s0.aA.length false,.sl 4 0 s.s0.hand.length false,.sl 5 0 s.s0.aj.length false,.sl 6 0 s.s0.ae.length false,.sl 7 0 s.s0.told.length false,iv s.s1.aJ,iv s.s1.aW,iv s.s1.most,.sl 8 0 s.s1.aA.length false,.sl 9 0 s.s1.hand.length false,.sl 10 0 s.s1.aj.length false,.sl 11 0 s.s1.ae.length false,.sl 12 0 s.s1.told.length false]
abbrev td(b:Bk)(s:St):List ab:=[.box (bU b),.box (aD s),.rows 1 (s.al.map aY),.rows 1 (s.s0.aA.map aY),.rows 1 (s.s0.hand.map aY),.rows 1 (s.s0.aj.map aY),.rows 4 (s.s0.ae.map aP),.rows 1 (s.s0.told.map aY),.rows 1 (s.s1.aA.map aY),.rows 1 (s.s1.hand.map aY),.rows 1 (s.s1.aj.map aY),.rows 4 (s.s1.ae.map aP),.rows 1 (s.s1.told.map aY)]
def Qs(b:Bk)(c:Int):Cd:=(b.af[c.toNat]?).getD default
def jz(b:Bk)(place:Int):List Th→Int→Int×Int→Int×Int
 |[],_,a=>a
 |u::l,i,a=>jz b place l (i+1) (if i=place then (IntKind.i64.wrap (a.1+(Qs b u.card).cJ),IntKind.i64.wrap (a.2+(Qs b u.card).bD)) else (IntKind.i64.wrap (a.1+(Qs b u.card).dG),IntKind.i64.wrap (a.2+(Qs b u.card).eu)))
def iI(b:Bk)(l:List Th)(place:Int):Int×Int:=jz b place l 0 (0,0)
def ZF(b:Bk)(all:List Th):List Th→Int→List Int
 |[],_=>[]
 |u::l,i=>if (iI b all i).2≤u.harm then u.id::ZF b all l (i+1) else ZF b all l (i+1)
def YF(b:Bk)(d:Sd):List Int:=ZF b d.ae d.ae 0
theorem MZ(b:Bk)(all:List Th):∀(l:List Th) (i:Int),(ZF b all l i).length≤l.length
 |[],_=>Nat.le_refl _
 |u::l,i=>by
  have:=MZ b all l (i+1);unfold ZF;split<;>simp<;>omega
def aN(b:Bk)(s:St):List Int:=if s.mover=0 then YF b s.s0++YF b s.s1 else YF b s.s1++YF b s.s0
theorem tN(x:Cd):aL false 3 1 (b_ x)=some (iv x.cJ):=rfl
theorem tO(x:Cd):aL false 4 1 (b_ x)=some (iv x.bD):=rfl
theorem tP(x:Cd):aL false 6 1 (b_ x)=some (iv x.dG):=rfl
theorem tQ(x:Cd):aL false 7 1 (b_ x)=some (iv x.eu):=rfl
theorem xp{σ:List ab}{b i j n sz:Nat}{agg:Bool}{rs:List (List aa)}{row:List aa}{v:aa}(hb:ah σ b=.rows sz rs)(hi:rs[i]?=some row)(hv:aL agg j n row=some v):Xh agg n [.ptr b i j] σ=.ok v [b] []:=by
 show (match ah σ b with
   |.rows _ rs=>match nth rs i with
    |some row=>match aL agg j n row with
     |some v=>az.ok v [b] []
     |none=>.stop
    |none=>.stop
   | _=>.stop)=_
 rw[hb];simp only[Y7,hi,hv]
theorem Gr.more{σ0 σ:List ab}{n k:Nat}{rows:List (List aa)}{v:aa}(h:Gr σ0 n rows k v σ)(l:List ab):Gr σ0 n rows k v (σ++l):=by
 obtain⟨h1,h2,h3⟩:=h;refine⟨by simp; omega,λc hc=>by rw[Xo l (by omega),h2 c hc],?_⟩;rcases h3 with h3|⟨q1,b,q2,q3,q4,q5⟩
 ·exact .inl h3
 ·exact .inr ⟨q1,b,q2,q3,Xd l q4 (by simp),q5⟩
theorem Gr.ri{σ0 σ:List ab}{l:List Int}{v:aa}(h:Gr σ0 1 (l.map aY) l.length v σ):∃rd,RI σ rd v l:=by
 rcases h.2.2 with ⟨h1,h2,_⟩|⟨_,b,_,h2,h3,_⟩
 ·simp_all [RI.aq]
 ·subst h2;exact⟨[b],RI.own h3 (by simp) rfl⟩
attribute [local irreducible] ak.rd ak.pu ak.wr ak.dr ak.gr ak.gw ak.gl ak.gd ak.opt aH W
set_option maxHeartbeats 4000000
theorem MS(b:Bk)(s:St)(hl:s.s0.ae.length≤1000000000)(hu:∀u∈s.s0.ae,0≤u.card∧u.card.toNat<b.af.length)(place:Int):PC 38 [.ao (.ao (bU b) 0::aD s) 0,iv 0,iv place] (.bn [iv (iI b s.s0.ae place).1,iv (iI b s.s0.ae place).2]):=by
 refine Yc hP g38.ok rfl rfl ?_;rw[H3.e]; unfold g38; dsimp only;refine Za rfl (Za rfl (Za rfl (Za rfl (Za rfl (Za (v:=il s.s0.ae) (rd:=[]) (an rfl) (Za (v:=iv s.s0.ae.length) (rd:=[]) (by simp[Zh]) ?_))))));refine Xj (ι:=Nat) (λi vs _=>(∃a:Int×Int,vs=[iv i,iv a.1,iv a.2]∧iI b s.s0.ae place=jz b place (s.s0.ae.drop i) i a)∧i≤s.s0.ae.length) (λi=>s.s0.ae.length-i) 0 ⟨⟨(0,0),rfl,by simp[iI]⟩,by omega⟩ ?_;rintro i vs σ again ⟨⟨a,rfl,hr⟩,hi⟩ aZ;refine Za rfl (Zb (λh=>?_) (λh=>?_));rotate_left
 ·have h:i=s.s0.ae.length:=by simp at h; omega
  simp_all [jz]
 have h:i<s.s0.ae.length:=by simpa using h
 have eK:=List.getElem_mem h;rw[fA h,jz] at hr;have dc:=λ(t:List ab)=>Zp t aP false false 4 s.s0.ae .i64 i h;generalize s.s0.ae[i]=u at eK hr dc;have uk:=hu u eK;have rW:=λ(t:List ab)=>sU t b_ false false 12 b.af .i64 u.card uk.1 uk.2;have uh:Qs b u.card=b.af[u.card.toNat]:=by simp_all [Qs]
 rw[uh] at hr;generalize b.af[u.card.toNat]=c at hr rW;refine Qh λk10 mT=>?_;refine Za (dc _) (Za (an rfl) (Xq (row:=aP u) (row':=aP u) rfl rfl rfl ?_));have hB:=Yf σ (.box (aP u));refine Za rfl (Za rfl (Za (an rfl) (Za rfl (Za rfl (Za (an rfl) (Za rfl (Za (ld hB rfl) (Za (rW _) (Za (Zf ..) ?_)))))))));refine Zb (λhp=>?_) (λhp=>?_)
 ·rw[if_pos (of_decide_eq_true hp)] at hr;refine Za rfl (Za rfl (Za (an (tN _)) (Za (Yj ..) (Za rfl (Za rfl (Za (an (tO _)) (Za (Yj ..) ?_)))))));rw[mT];refine Za (Yj ..) ?_;rw[Qd (n:=i) (by omega)];exact aZ (i+1) _ _ (by omega) ⟨⟨_,rfl,by rw[hr]; push_cast; rfl⟩,by omega⟩
 ·rw[if_neg (of_decide_eq_false hp)] at hr;refine Za rfl (Za rfl (Za (an (tP _)) (Za (Yj ..) (Za rfl (Za rfl (Za (an (tQ _)) (Za (Yj ..) ?_)))))));rw[mT];refine Za (Yj ..) ?_;rw[Qd (n:=i) (by omega)];exact aZ (i+1) _ _ (by omega) ⟨⟨_,rfl,by rw[hr]; push_cast; rfl⟩,by omega⟩
theorem Mh(b:Bk)(s:St)(hl:s.s1.ae.length≤1000000000)(hu:∀u∈s.s1.ae,0≤u.card∧u.card.toNat<b.af.length)(place:Int):PC 38 [.ao (.ao (bU b) 0::aD s) 0,iv 1,iv place] (.bn [iv (iI b s.s1.ae place).1,iv (iI b s.s1.ae place).2]):=by
 refine Yc hP g38.ok rfl rfl ?_;rw[H3.e]; unfold g38; dsimp only;refine Za rfl (Za rfl (Za rfl (Za rfl (Za rfl (Za (v:=il s.s1.ae) (rd:=[]) (an rfl) (Za (v:=iv s.s1.ae.length) (rd:=[]) (by simp[Zh]) ?_))))));refine Xj (ι:=Nat) (λi vs _=>(∃a:Int×Int,vs=[iv i,iv a.1,iv a.2]∧iI b s.s1.ae place=jz b place (s.s1.ae.drop i) i a)∧i≤s.s1.ae.length) (λi=>s.s1.ae.length-i) 0 ⟨⟨(0,0),rfl,by simp[iI]⟩,by omega⟩ ?_;rintro i vs σ again ⟨⟨a,rfl,hr⟩,hi⟩ aZ;refine Za rfl (Zb (λh=>?_) (λh=>?_));rotate_left
 ·have h:i=s.s1.ae.length:=by simp at h; omega
  simp_all [jz]
 have h:i<s.s1.ae.length:=by simpa using h
 have eK:=List.getElem_mem h;rw[fA h,jz] at hr;have dc:=λ(t:List ab)=>Zp t aP false false 4 s.s1.ae .i64 i h;generalize s.s1.ae[i]=u at eK hr dc;have uk:=hu u eK;have rW:=λ(t:List ab)=>sU t b_ false false 12 b.af .i64 u.card uk.1 uk.2;have uh:Qs b u.card=b.af[u.card.toNat]:=by simp_all [Qs]
 rw[uh] at hr;generalize b.af[u.card.toNat]=c at hr rW;refine Qh λk10 mT=>?_;refine Za (dc _) (Za (an rfl) (Xq (row:=aP u) (row':=aP u) rfl rfl rfl ?_));have hB:=Yf σ (.box (aP u));refine Za rfl (Za rfl (Za (an rfl) (Za rfl (Za rfl (Za (an rfl) (Za rfl (Za (ld hB rfl) (Za (rW _) (Za (Zf ..) ?_)))))))));refine Zb (λhp=>?_) (λhp=>?_)
 ·rw[if_pos (of_decide_eq_true hp)] at hr;refine Za rfl (Za rfl (Za (an (tN _)) (Za (Yj ..) (Za rfl (Za rfl (Za (an (tO _)) (Za (Yj ..) ?_)))))));rw[mT];refine Za (Yj ..) ?_;rw[Qd (n:=i) (by omega)];exact aZ (i+1) _ _ (by omega) ⟨⟨_,rfl,by rw[hr]; push_cast; rfl⟩,by omega⟩
 ·rw[if_neg (of_decide_eq_false hp)] at hr;refine Za rfl (Za rfl (Za (an (tP _)) (Za (Yj ..) (Za rfl (Za rfl (Za (an (tQ _)) (Za (Yj ..) ?_)))))));rw[mT];refine Za (Yj ..) ?_;rw[Qd (n:=i) (by omega)];exact aZ (i+1) _ _ (by omega) ⟨⟨_,rfl,by rw[hr]; push_cast; rfl⟩,by omega⟩
theorem FC(b:Bk)(hf:aS b=true)(bN:Zj b.af)(s:St)(hs:bu 2000000 s)(hm:aQ (cE b).1 b s true=true)(vF:s.mover=0):PC 18 [dg b,cf s] (aV (aN b s)):=by
 have w1:IntKind.i64.wrap (0+1)=1:=by decide
 have w2:IntKind.i64.wrap (1+1)=2:=by decide
 have z0:=hs.s0.ae;have z1:=hs.s1.ae;refine Qo hP g18.ok rfl ?_;rw[H2.e]; unfold g18; dsimp only;refine Qb (v:=.ai 0 0) (rd:=[]) (up:=[(0,.box (bU b))]) rfl rfl ?_;refine Qb (v:=.ai 1 0) (rd:=[]) (up:=[(1,.box (aD s))]) rfl rfl ?_;refine lW b hf bN s (hs.mono (by decide)) (n0:=2) (n:=13) rfl rfl rfl rfl (λh=>by rw[hm] at h; cases h) (λ_=>?_);have GY:∀σ,ah σ 1=.box (aD s)→Xh false 1 [.ai 1 1] σ=.ok (iv 0) [1] []:=λσ h=>by
  have:=ld (σ:=σ) (b:=1) (j:=1) (n:=1) (agg:=false) (v:=iv s.mover) h rfl;rw[vF] at this; exact this
 refine Za rfl (Yd (Za rfl (Za (GY _ rfl) (Za rfl (Za (GY _ rfl) (Za (v:=iv 1) (rd:=[]) rfl (Za (v:=.agg [iv 0,iv 1]) (rd:=[]) rfl ?_)))))));refine YK 3 (Xk ?_);have Gj:Gr (((td b s).append [.box (nz s)])) 1 ([].map aY) ([]:List Int).length .aq (((td b s).append [.box (nz s)])):=Gr.nil 1 _;have Ha:(([]:List Int)).length≤2000000:=by simp
 refine Za rfl (Xc (Za rfl (Za rfl (Za rfl (Za rfl (Za rfl (Za rfl (Za (ld (row:=nz s) (Gj.eo rfl (by simp)) rfl) (Za rfl ?_)))))))));refine Xj (ι:=Nat) (λi vs τ=>(∃(done:List Int) (v:aa),vs=[iv i,v]∧Gr (((td b s).append [.box (nz s)])) 1 (done.map aY) done.length v τ∧([]:List Int)++YF b s.s0=done++ZF b s.s0.ae (s.s0.ae.drop i) i∧done.length≤(([]:List Int)).length+i)∧i≤s.s0.ae.length) (λi=>s.s0.ae.length-i) 0 ⟨⟨([]:List Int),_,rfl,Gj,rfl,Nat.le_refl _⟩,by omega⟩ ?_;rintro i vs τ again ⟨⟨done,v,rfl,hG,hr,yy⟩,hi⟩ aZ;refine Za rfl (Zb (λh=>?_) (λh=>?_))
 ·have h:i<s.s0.ae.length:=by simpa using h
  have eK:=List.getElem_mem h;have lZ:(s.s0.ae.map aP)[i]?=some (aP s.s0.ae[i]):=by simp[h]
  rw[fA h,ZF] at hr;generalize s.s0.ae[i]=u at eK hr lZ;refine Qh λk24 mV=>?_;have hU:ah τ 6=.rows 4 (s.s0.ae.map aP):=hG.eo rfl (by simp);refine Za (v:=.ptr 6 i 0) (rd:=[6]) ?_ ?_
  ·have:=rI τ 6 0 s.s0.ae.length false 4 (s.s0.ae.map aP) .i64 i h hU;rw[Nat.zero_add] at this; exact this
  refine Za (xp hU lZ rfl) (Xq (row:=aP u) (row':=aP u) rfl rfl rfl ?_);have hB:=Yf τ (.box (aP u));have oE:=hG.more [.box (aP u)];have hO:∀c y,y≠ab.dead→ah (((td b s).append [.box (nz s)])) c=y→ah (τ++[.box (aP u)]) c=y:=λc y hy hc=>oE.eo hc hy;refine Zx (rd:=[0,2,3,4,5,6,7,8,9,10,11,12,13]) (MS b s (by omega) (JS hm) i) rfl g38.ok.plain (.cons (aB.box (row:=nz s) (Yx (hO 13 _ (by simp) rfl) (by simp)) (by decide) (.cons (aB.box (row:=bU b) (Yx (hO 0 _ (by simp) rfl) (by simp)) (by decide) (bp.ro rfl)) ?_)) <| .cons (aB.ro rfl) <| .cons (aB.ro rfl) .nil) rfl ?_
  ·exact SB.mk (s:=s) (RI.own (hO 2 _ (by simp) rfl) (by decide) rfl) (RI.own (hO 3 _ (by simp) rfl) (by decide) rfl) (RI.own (hO 4 _ (by simp) rfl) (by decide) rfl) (RI.own (hO 5 _ (by simp) rfl) (by decide) rfl) (RT.own (hO 6 _ (by simp) rfl) (by decide) rfl) (RI.own (hO 7 _ (by simp) rfl) (by decide) rfl) (RI.own (hO 8 _ (by simp) rfl) (by decide) rfl) (RI.own (hO 9 _ (by simp) rfl) (by decide) rfl) (RI.own (hO 10 _ (by simp) rfl) (by decide) rfl) (RT.own (hO 11 _ (by simp) rfl) (by decide) rfl) (RI.own (hO 12 _ (by simp) rfl) (by decide) rfl)
  refine Za rfl (Za rfl (Za rfl (Za (ld hB rfl) (Za (X5 ..) ?_))));refine Zb (λhp=>?_) (λhp=>?_)
  ·rw[if_pos (of_decide_eq_true hp)] at hr;refine Za rfl (Za (ld hB rfl) ?_);refine oE.put (by_:=8) rfl rfl rfl (by omega) (λv' τ' wG=>?_);rw[mV];refine Za (Yj ..) ?_;rw[Qd (n:=i) (by omega)];refine aZ (i+1) _ _ (by omega) ⟨⟨done++[u.id],v',rfl,?_,?_,?_⟩,by omega⟩
   ·rw[List.map_append,List.length_append]; exact wG
   ·rw[hr,List.append_assoc]; push_cast; rfl
   ·rw[List.length_append,List.length_singleton]; omega
  ·rw[if_neg (of_decide_eq_false hp)] at hr;rw[mV];refine Za (Yj ..) ?_;rw[Qd (n:=i) (by omega)];exact aZ (i+1) _ _ (by omega) ⟨⟨done,v,rfl,oE,by rw[hr]; push_cast; rfl,by omega⟩,by omega⟩
 have h:i=s.s0.ae.length:=by simp at h; omega
 subst h;rw[List.drop_length,ZF,List.append_nil] at hr;subst hr;have Gk:=hG;clear aZ again yy hG;refine Za rfl ?_;rw[w1];refine Xk ?_;have Hb:((([]:List Int)++YF b s.s0)).length≤2000000:=by have:=MZ b s.s0.ae s.s0.ae 0; simp[YF]; omega
 refine Za rfl (Xc (Za rfl (Za rfl (Za rfl (Za rfl (Za rfl (Za rfl (Za (ld (row:=nz s) (Gk.eo rfl (by simp)) rfl) (Za rfl ?_)))))))));refine Xj (ι:=Nat) (λi vs τ=>(∃(done:List Int) (v:aa),vs=[iv i,v]∧Gr (((td b s).append [.box (nz s)])) 1 (done.map aY) done.length v τ∧(([]:List Int)++YF b s.s0)++YF b s.s1=done++ZF b s.s1.ae (s.s1.ae.drop i) i∧done.length≤((([]:List Int)++YF b s.s0)).length+i)∧i≤s.s1.ae.length) (λi=>s.s1.ae.length-i) 0 ⟨⟨(([]:List Int)++YF b s.s0),_,rfl,Gk,rfl,Nat.le_refl _⟩,by omega⟩ ?_;rintro i vs τ again ⟨⟨done,v,rfl,hG,hr,yy⟩,hi⟩ aZ;refine Za rfl (Zb (λh=>?_) (λh=>?_))
 ·have h:i<s.s1.ae.length:=by simpa using h
  have eK:=List.getElem_mem h;have lZ:(s.s1.ae.map aP)[i]?=some (aP s.s1.ae[i]):=by simp[h]
  rw[fA h,ZF] at hr;generalize s.s1.ae[i]=u at eK hr lZ;refine Qh λk24 mV=>?_;have hU:ah τ 11=.rows 4 (s.s1.ae.map aP):=hG.eo rfl (by simp);refine Za (v:=.ptr 11 i 0) (rd:=[11]) ?_ ?_
  ·have:=rI τ 11 0 s.s1.ae.length false 4 (s.s1.ae.map aP) .i64 i h hU;rw[Nat.zero_add] at this; exact this
  refine Za (xp hU lZ rfl) (Xq (row:=aP u) (row':=aP u) rfl rfl rfl ?_);have hB:=Yf τ (.box (aP u));have oE:=hG.more [.box (aP u)];have hO:∀c y,y≠ab.dead→ah (((td b s).append [.box (nz s)])) c=y→ah (τ++[.box (aP u)]) c=y:=λc y hy hc=>oE.eo hc hy;refine Zx (rd:=[0,2,3,4,5,6,7,8,9,10,11,12,13]) (Mh b s (by omega) (Jv hm) i) rfl g38.ok.plain (.cons (aB.box (row:=nz s) (Yx (hO 13 _ (by simp) rfl) (by simp)) (by decide) (.cons (aB.box (row:=bU b) (Yx (hO 0 _ (by simp) rfl) (by simp)) (by decide) (bp.ro rfl)) ?_)) <| .cons (aB.ro rfl) <| .cons (aB.ro rfl) .nil) rfl ?_
  ·exact SB.mk (s:=s) (RI.own (hO 2 _ (by simp) rfl) (by decide) rfl) (RI.own (hO 3 _ (by simp) rfl) (by decide) rfl) (RI.own (hO 4 _ (by simp) rfl) (by decide) rfl) (RI.own (hO 5 _ (by simp) rfl) (by decide) rfl) (RT.own (hO 6 _ (by simp) rfl) (by decide) rfl) (RI.own (hO 7 _ (by simp) rfl) (by decide) rfl) (RI.own (hO 8 _ (by simp) rfl) (by decide) rfl) (RI.own (hO 9 _ (by simp) rfl) (by decide) rfl) (RI.own (hO 10 _ (by simp) rfl) (by decide) rfl) (RT.own (hO 11 _ (by simp) rfl) (by decide) rfl) (RI.own (hO 12 _ (by simp) rfl) (by decide) rfl)
  refine Za rfl (Za rfl (Za rfl (Za (ld hB rfl) (Za (X5 ..) ?_))));refine Zb (λhp=>?_) (λhp=>?_)
  ·rw[if_pos (of_decide_eq_true hp)] at hr;refine Za rfl (Za (ld hB rfl) ?_);refine oE.put (by_:=8) rfl rfl rfl (by omega) (λv' τ' wG=>?_);rw[mV];refine Za (Yj ..) ?_;rw[Qd (n:=i) (by omega)];refine aZ (i+1) _ _ (by omega) ⟨⟨done++[u.id],v',rfl,?_,?_,?_⟩,by omega⟩
   ·rw[List.map_append,List.length_append]; exact wG
   ·rw[hr,List.append_assoc]; push_cast; rfl
   ·rw[List.length_append,List.length_singleton]; omega
  ·rw[if_neg (of_decide_eq_false hp)] at hr;rw[mV];refine Za (Yj ..) ?_;rw[Qd (n:=i) (by omega)];exact aZ (i+1) _ _ (by omega) ⟨⟨done,v,rfl,oE,by rw[hr]; push_cast; rfl,by omega⟩,by omega⟩
 have h:i=s.s1.ae.length:=by simp at h; omega
 subst h;rw[List.drop_length,ZF,List.append_nil] at hr;subst hr;have oE:=hG;clear aZ again yy hG;refine Za rfl ?_;rw[w2];refine Xk (Za rfl (Yd ?_));obtain⟨rd,Pq⟩:=oE.ri;refine⟨rd,?_⟩;have e:aN b s=[]++YF b s.s0++YF b s.s1:=by simp[aN,vF]
 rw[e]; exact Pq
theorem FD(b:Bk)(hf:aS b=true)(bN:Zj b.af)(s:St)(hs:bu 2000000 s)(hm:aQ (cE b).1 b s true=true)(vF:s.mover=1):PC 18 [dg b,cf s] (aV (aN b s)):=by
 have w1:IntKind.i64.wrap (0+1)=1:=by decide
 have w2:IntKind.i64.wrap (1+1)=2:=by decide
 have z0:=hs.s0.ae;have z1:=hs.s1.ae;refine Qo hP g18.ok rfl ?_;rw[H2.e]; unfold g18; dsimp only;refine Qb (v:=.ai 0 0) (rd:=[]) (up:=[(0,.box (bU b))]) rfl rfl ?_;refine Qb (v:=.ai 1 0) (rd:=[]) (up:=[(1,.box (aD s))]) rfl rfl ?_;refine lW b hf bN s (hs.mono (by decide)) (n0:=2) (n:=13) rfl rfl rfl rfl (λh=>by rw[hm] at h; cases h) (λ_=>?_);have GY:∀σ,ah σ 1=.box (aD s)→Xh false 1 [.ai 1 1] σ=.ok (iv 1) [1] []:=λσ h=>by
  have:=ld (σ:=σ) (b:=1) (j:=1) (n:=1) (agg:=false) (v:=iv s.mover) h rfl;rw[vF] at this; exact this
 refine Za rfl (Yd (Za rfl (Za (GY _ rfl) (Za rfl (Za (GY _ rfl) (Za (v:=iv 0) (rd:=[]) rfl (Za (v:=.agg [iv 1,iv 0]) (rd:=[]) rfl ?_)))))));refine YK 3 (Xk ?_);have Gj:Gr (((td b s).append [.box (nz s)])) 1 ([].map aY) ([]:List Int).length .aq (((td b s).append [.box (nz s)])):=Gr.nil 1 _;have Ha:(([]:List Int)).length≤2000000:=by simp
 refine Za rfl (Xc (Za rfl (Za rfl (Za rfl (Za rfl (Za rfl (Za rfl (Za (ld (row:=nz s) (Gj.eo rfl (by simp)) rfl) (Za rfl ?_)))))))));refine Xj (ι:=Nat) (λi vs τ=>(∃(done:List Int) (v:aa),vs=[iv i,v]∧Gr (((td b s).append [.box (nz s)])) 1 (done.map aY) done.length v τ∧([]:List Int)++YF b s.s1=done++ZF b s.s1.ae (s.s1.ae.drop i) i∧done.length≤(([]:List Int)).length+i)∧i≤s.s1.ae.length) (λi=>s.s1.ae.length-i) 0 ⟨⟨([]:List Int),_,rfl,Gj,rfl,Nat.le_refl _⟩,by omega⟩ ?_;rintro i vs τ again ⟨⟨done,v,rfl,hG,hr,yy⟩,hi⟩ aZ;refine Za rfl (Zb (λh=>?_) (λh=>?_))
 ·have h:i<s.s1.ae.length:=by simpa using h
  have eK:=List.getElem_mem h;have lZ:(s.s1.ae.map aP)[i]?=some (aP s.s1.ae[i]):=by simp[h]
  rw[fA h,ZF] at hr;generalize s.s1.ae[i]=u at eK hr lZ;refine Qh λk24 mV=>?_;have hU:ah τ 11=.rows 4 (s.s1.ae.map aP):=hG.eo rfl (by simp);refine Za (v:=.ptr 11 i 0) (rd:=[11]) ?_ ?_
  ·have:=rI τ 11 0 s.s1.ae.length false 4 (s.s1.ae.map aP) .i64 i h hU;rw[Nat.zero_add] at this; exact this
  refine Za (xp hU lZ rfl) (Xq (row:=aP u) (row':=aP u) rfl rfl rfl ?_);have hB:=Yf τ (.box (aP u));have oE:=hG.more [.box (aP u)];have hO:∀c y,y≠ab.dead→ah (((td b s).append [.box (nz s)])) c=y→ah (τ++[.box (aP u)]) c=y:=λc y hy hc=>oE.eo hc hy;refine Zx (rd:=[0,2,3,4,5,6,7,8,9,10,11,12,13]) (Mh b s (by omega) (Jv hm) i) rfl g38.ok.plain (.cons (aB.box (row:=nz s) (Yx (hO 13 _ (by simp) rfl) (by simp)) (by decide) (.cons (aB.box (row:=bU b) (Yx (hO 0 _ (by simp) rfl) (by simp)) (by decide) (bp.ro rfl)) ?_)) <| .cons (aB.ro rfl) <| .cons (aB.ro rfl) .nil) rfl ?_
  ·exact SB.mk (s:=s) (RI.own (hO 2 _ (by simp) rfl) (by decide) rfl) (RI.own (hO 3 _ (by simp) rfl) (by decide) rfl) (RI.own (hO 4 _ (by simp) rfl) (by decide) rfl) (RI.own (hO 5 _ (by simp) rfl) (by decide) rfl) (RT.own (hO 6 _ (by simp) rfl) (by decide) rfl) (RI.own (hO 7 _ (by simp) rfl) (by decide) rfl) (RI.own (hO 8 _ (by simp) rfl) (by decide) rfl) (RI.own (hO 9 _ (by simp) rfl) (by decide) rfl) (RI.own (hO 10 _ (by simp) rfl) (by decide) rfl) (RT.own (hO 11 _ (by simp) rfl) (by decide) rfl) (RI.own (hO 12 _ (by simp) rfl) (by decide) rfl)
  refine Za rfl (Za rfl (Za rfl (Za (ld hB rfl) (Za (X5 ..) ?_))));refine Zb (λhp=>?_) (λhp=>?_)
  ·rw[if_pos (of_decide_eq_true hp)] at hr;refine Za rfl (Za (ld hB rfl) ?_);refine oE.put (by_:=8) rfl rfl rfl (by omega) (λv' τ' wG=>?_);rw[mV];refine Za (Yj ..) ?_;rw[Qd (n:=i) (by omega)];refine aZ (i+1) _ _ (by omega) ⟨⟨done++[u.id],v',rfl,?_,?_,?_⟩,by omega⟩
   ·rw[List.map_append,List.length_append]; exact wG
   ·rw[hr,List.append_assoc]; push_cast; rfl
   ·rw[List.length_append,List.length_singleton]; omega
  ·rw[if_neg (of_decide_eq_false hp)] at hr;rw[mV];refine Za (Yj ..) ?_;rw[Qd (n:=i) (by omega)];exact aZ (i+1) _ _ (by omega) ⟨⟨done,v,rfl,oE,by rw[hr]; push_cast; rfl,by omega⟩,by omega⟩
 have h:i=s.s1.ae.length:=by simp at h; omega
 subst h;rw[List.drop_length,ZF,List.append_nil] at hr;subst hr;have Gk:=hG;clear aZ again yy hG;refine Za rfl ?_;rw[w1];refine Xk ?_;have Hb:((([]:List Int)++YF b s.s1)).length≤2000000:=by have:=MZ b s.s1.ae s.s1.ae 0; simp[YF]; omega
 refine Za rfl (Xc (Za rfl (Za rfl (Za rfl (Za rfl (Za rfl (Za rfl (Za (ld (row:=nz s) (Gk.eo rfl (by simp)) rfl) (Za rfl ?_)))))))));refine Xj (ι:=Nat) (λi vs τ=>(∃(done:List Int) (v:aa),vs=[iv i,v]∧Gr (((td b s).append [.box (nz s)])) 1 (done.map aY) done.length v τ∧(([]:List Int)++YF b s.s1)++YF b s.s0=done++ZF b s.s0.ae (s.s0.ae.drop i) i∧done.length≤((([]:List Int)++YF b s.s1)).length+i)∧i≤s.s0.ae.length) (λi=>s.s0.ae.length-i) 0 ⟨⟨(([]:List Int)++YF b s.s1),_,rfl,Gk,rfl,Nat.le_refl _⟩,by omega⟩ ?_;rintro i vs τ again ⟨⟨done,v,rfl,hG,hr,yy⟩,hi⟩ aZ;refine Za rfl (Zb (λh=>?_) (λh=>?_))
 ·have h:i<s.s0.ae.length:=by simpa using h
  have eK:=List.getElem_mem h;have lZ:(s.s0.ae.map aP)[i]?=some (aP s.s0.ae[i]):=by simp[h]
  rw[fA h,ZF] at hr;generalize s.s0.ae[i]=u at eK hr lZ;refine Qh λk24 mV=>?_;have hU:ah τ 6=.rows 4 (s.s0.ae.map aP):=hG.eo rfl (by simp);refine Za (v:=.ptr 6 i 0) (rd:=[6]) ?_ ?_
  ·have:=rI τ 6 0 s.s0.ae.length false 4 (s.s0.ae.map aP) .i64 i h hU;rw[Nat.zero_add] at this; exact this
  refine Za (xp hU lZ rfl) (Xq (row:=aP u) (row':=aP u) rfl rfl rfl ?_);have hB:=Yf τ (.box (aP u));have oE:=hG.more [.box (aP u)];have hO:∀c y,y≠ab.dead→ah (((td b s).append [.box (nz s)])) c=y→ah (τ++[.box (aP u)]) c=y:=λc y hy hc=>oE.eo hc hy;refine Zx (rd:=[0,2,3,4,5,6,7,8,9,10,11,12,13]) (MS b s (by omega) (JS hm) i) rfl g38.ok.plain (.cons (aB.box (row:=nz s) (Yx (hO 13 _ (by simp) rfl) (by simp)) (by decide) (.cons (aB.box (row:=bU b) (Yx (hO 0 _ (by simp) rfl) (by simp)) (by decide) (bp.ro rfl)) ?_)) <| .cons (aB.ro rfl) <| .cons (aB.ro rfl) .nil) rfl ?_
  ·exact SB.mk (s:=s) (RI.own (hO 2 _ (by simp) rfl) (by decide) rfl) (RI.own (hO 3 _ (by simp) rfl) (by decide) rfl) (RI.own (hO 4 _ (by simp) rfl) (by decide) rfl) (RI.own (hO 5 _ (by simp) rfl) (by decide) rfl) (RT.own (hO 6 _ (by simp) rfl) (by decide) rfl) (RI.own (hO 7 _ (by simp) rfl) (by decide) rfl) (RI.own (hO 8 _ (by simp) rfl) (by decide) rfl) (RI.own (hO 9 _ (by simp) rfl) (by decide) rfl) (RI.own (hO 10 _ (by simp) rfl) (by decide) rfl) (RT.own (hO 11 _ (by simp) rfl) (by decide) rfl) (RI.own (hO 12 _ (by simp) rfl) (by decide) rfl)
  refine Za rfl (Za rfl (Za rfl (Za (ld hB rfl) (Za (X5 ..) ?_))));refine Zb (λhp=>?_) (λhp=>?_)
  ·rw[if_pos (of_decide_eq_true hp)] at hr;refine Za rfl (Za (ld hB rfl) ?_);refine oE.put (by_:=8) rfl rfl rfl (by omega) (λv' τ' wG=>?_);rw[mV];refine Za (Yj ..) ?_;rw[Qd (n:=i) (by omega)];refine aZ (i+1) _ _ (by omega) ⟨⟨done++[u.id],v',rfl,?_,?_,?_⟩,by omega⟩
   ·rw[List.map_append,List.length_append]; exact wG
   ·rw[hr,List.append_assoc]; push_cast; rfl
   ·rw[List.length_append,List.length_singleton]; omega
  ·rw[if_neg (of_decide_eq_false hp)] at hr;rw[mV];refine Za (Yj ..) ?_;rw[Qd (n:=i) (by omega)];exact aZ (i+1) _ _ (by omega) ⟨⟨done,v,rfl,oE,by rw[hr]; push_cast; rfl,by omega⟩,by omega⟩
 have h:i=s.s0.ae.length:=by simp at h; omega
 subst h;rw[List.drop_length,ZF,List.append_nil] at hr;subst hr;have oE:=hG;clear aZ again yy hG;refine Za rfl ?_;rw[w2];refine Xk (Za rfl (Yd ?_));obtain⟨rd,Pq⟩:=oE.ri;refine⟨rd,?_⟩;have e:aN b s=[]++YF b s.s1++YF b s.s0:=by simp[aN,vF]
 rw[e]; exact Pq
theorem c28(b:Bk)(hf:aS b=true)(bN:Zj b.af)(s:St)(hs:bu 2000000 s)(hm:aQ (cE b).1 b s true=true):PC 18 [dg b,cf s] (aV (aN b s)):=by
 have h:=Xv hm;by_cases h0:s.mover=0
 ·exact FC b hf bN s hs hm h0
 ·exact FD b hf bN s hs hm (by omega)
end Go.Ah.Tz
end
section
namespace Go.Ah.Tz
open Go.Proofs.Tryz (prog)
attribute [local irreducible] ak.rd ak.pu ak.wr ak.dr ak.gr ak.gw ak.gl ak.gd ak.opt aH W
set_option maxHeartbeats 4000000
def vl:Th:=⟨0,0,0,false⟩
theorem T6:∀l:List Th,Xs (l.map aP)=true
 |[]=>rfl
 |x::l=>by simp only[List.map_cons,Xs,T6 l,Bool.and_true]; rfl
theorem Su{σ:List ab}{sz b n i:Nat}{ex:Bool}{rs:List (List aa)}(hb:ah σ b=.rows sz rs)(hi:i≤n)(h3:Nat.beq sz 3=false:=by rfl):∃v rd,ZI sz [.sl b 0 n ex,iv i] σ=.ok v rd []∧((i<n∧v=.sl b i (n-i) ex∧rd=[b])∨(i=n∧v=.ax false (Nat.blt 0 n) sz []∧rd=[])):=by
 by_cases h:i<n
 ·refine⟨.sl b i (n - i) ex,[b],?_,.inl ⟨h,rfl,rfl⟩⟩;show (match ah σ b with
   |.rows s _=>bif Nat.beq s sz then (bif Nat.blt i n then az.ok (.sl b (0+i) (n-i) ex) [b] [] else bif Nat.beq i n then (bif Nat.beq sz 3 then .ok (.sl b (0+n) 0 ex) [b] [] else .ok (.ax false (Nat.blt 0 n) sz []) [] []) else .stop) else .stop
   | _=>.stop)=_
  rw[hb];have:Nat.blt i n=true:=Nat.ble_eq_true_of_le h;simp only[Nat.beq_refl,cond_true,this,Nat.zero_add]
 ·have e:i=n:=by omega
  subst e;refine⟨.ax false (Nat.blt 0 i) sz [],[],?_,.inr ⟨rfl,rfl,rfl⟩⟩;show (match ah σ b with
   |.rows s _=>bif Nat.beq s sz then (bif Nat.blt i i then az.ok (.sl b (0+i) (i-i) ex) [b] [] else bif Nat.beq i i then (bif Nat.beq sz 3 then .ok (.sl b (0+i) 0 ex) [b] [] else .ok (.ax false (Nat.blt 0 i) sz []) [] []) else .stop) else .stop
   | _=>.stop)=_
  rw[hb];have:Nat.blt i i=false:=by
   cases e:Nat.blt i i with
   |false=>rfl
   |true=>have:=gE e; omega
  simp only[Nat.beq_refl,cond_true,this,cond_false,h3]
theorem Uj(l:List Th)(i:Nat)(hi:i<l.length):∃l1 u l2,l=l1++u::l2∧l1.length=i∧l.eraseIdx i=l1++l2:=by
 refine⟨l.take i,l[i],l.drop (i+1),?_,by simp; omega,List.eraseIdx_eq_take_drop_succ ..⟩;rw[List.getElem_cons_drop,List.take_append_drop]
theorem c72{σ:List ab}{b i:Nat}{l rest:List Th}(hb:ah σ b=.rows 4 ((l++rest).map aP))(hi:i<l.length)(hl:l.length≤1000000000){K:aa→List ab→Prop}
 (hK:K (.sl b 0 (l.length-1) false) (σ.set b (.rows 4 ((l.eraseIdx i++vl::rest).map aP)))):g41.u VV [.sl b 0 l.length false,iv i,iv ((i+1:Nat):Int)] σ K:=by
 have zN:=Ye hb (by simp);obtain⟨l1,u,l2,zY,fj,her⟩:=Uj l i hi;have hlen:l.length=i+1+l2.length:=by rw[zY]; simp; omega
 rw[H3.e]; unfold g41; dsimp only;refine Za (v:=iv l.length) (rd:=[]) rfl ?_;refine Za (v:=.aF) (rd:=[]) ?_ ?_
 ·show (bif Nat.ble i (i+1)&&(Nat.ble (i+1) l.length&&Nat.ble l.length l.length) then az.ok .aF [] [] else .stop)=_;rw[Nat.ble_eq_true_of_le (show i≤i+1 by omega),Nat.ble_eq_true_of_le (show i+1≤l.length by omega),Nat.ble_eq_true_of_le (Nat.le_refl l.length)]; rfl
 refine Za (Zf ..) ?_;rw[decide_eq_false (by omega)];refine Yd (Za (v:=iv l.length) (rd:=[]) rfl ?_);refine Yg (v:=.sl b 0 i false) (rd:=[b]) ?_ (Xi _) ?_
 ·show (match ah σ b with
   |.rows s _=>bif Nat.beq s 4&&Nat.ble i l.length then az.ok (.sl b 0 i false) [b] [] else .stop
   | _=>.stop)=_
  rw[hb];simp only[Nat.beq_refl,Nat.ble_eq_true_of_le (show i≤l.length by omega),Bool.and_self,cond_true]
 obtain⟨v,rd,hv,i4⟩:=Su (n:=l.length) (i:=i+1) (ex:=false) hb (by omega);refine Yg hv (Xi _) ?_;have kJ:∃K7,Qp 4 σ v=some (l2.map aP,K7):=by
  rcases i4 with ⟨h1,rfl,_⟩|⟨h1,rfl,_⟩
  ·refine⟨[b],?_⟩;have hc:cut (i+1) (i+1+(l.length-(i+1))) ((l++rest).map aP)=l2.map aP:=by
    rw[zY];unfold cut;rw[show i+1+((l1++u::l2).length-(i+1))=(l1++u::l2).length by simp; omega,List.map_append,List.take_left' (by simp),List.map_append,List.map_cons,show i+1=(l1.map aP++[aP u]).length by simp[fj],show l1.map aP++aP u::l2.map aP=(l1.map aP++[aP u])++l2.map aP by simp];exact List.drop_left
   show (match ah σ b with
    |.rows s rs=>bif Nat.beq s 4&&Nat.ble (i+1+(l.length-(i+1))) rs.length then some (cut (i+1) (i+1+(l.length-(i+1))) rs,[b]) else none
    | _=>none)=_
   rw[hb];simp only[Nat.beq_refl,Nat.ble_eq_true_of_le (show i+1+(l.length-(i+1))≤((l++rest).map aP).length by simp; omega),Bool.and_self,cond_true,hc]
  ·have:l2=[]:=List.length_eq_zero_iff.1 (by omega);subst this;exact⟨[],rfl⟩
 obtain⟨K7,kJ⟩:=kJ;have yL:((l++rest).map aP).length=l.length+rest.length:=by simp
 have Ou:Zl 4 32 [.sl b 0 i false,v] σ=.ok (.sl b 0 (i+l2.length) false) K7 [(b,.rows 4 (over i (l2.map aP) ((l++rest).map aP)))]:=by
  have h1:(Nat.beq 0 0&&Nat.beq ((l++rest).map aP).length i)=false:=by
   cases e:Nat.beq ((l++rest).map aP).length i with
   |false=>rfl
   |true=>have:=e9 e; omega
  have:Zl 4 32 [.sl b 0 i false,v] σ=DD 4 32 σ b 0 i ((l++rest).map aP) v:=by
   show (match ah σ b with
    |.rows s rs=>bif Nat.beq s 4 then (bif Nat.beq 0 0&&Nat.beq rs.length i then QH 4 32 σ rs [(b,.dead)] v else DD 4 32 σ b 0 i rs v) else .stop
    | _=>.stop)=_
   rw[hb];simp only[Nat.beq_refl,cond_true,h1,cond_false];rw[Nat.beq_refl] at h1;simp only[Bool.true_and] at h1 ⊢;rw[h1]; rfl
  rw[this,DD];simp only[kJ,T6,cond_true,Nat.zero_add,Nat.ble_eq_true_of_le (show i+(l2.map aP).length≤((l++rest).map aP).length by simp; omega),List.length_map];rw[Nat.ble_eq_true_of_le (show i+l2.length≤(l++rest).length by simp; omega)]; rfl
 refine Yg Ou (Xg _ zN) (Xr (by rcases i4 with ⟨_,_,rfl⟩|⟨_,_,rfl⟩<;>rfl) ?_);refine Za (v:=iv ((i+l2.length:Nat):Int)) (rd:=[]) rfl ?_;have ll:=Xe (σ:=σ) (.rows 4 (over i (l2.map aP) ((l++rest).map aP))) zN;have yH:over i (l2.map aP) ((l++rest).map aP)=(l1++l2).map aP++((u::l2).drop l2.length).map aP++rest.map aP:=by
  unfold over;rw[zY];have e1:((l1++u::l2++rest).map aP).take i=l1.map aP:=by
   rw[List.append_assoc,List.map_append,show i=(l1.map aP).length by simp[fj]]; exact List.take_left
  have e2:((l1++u::l2++rest).map aP).drop (i+(l2.map aP).length)=((u::l2).drop l2.length).map aP++rest.map aP:=by
   rw[List.append_assoc,List.map_append,←List.drop_drop,show ((l1.map aP++(u::l2++rest).map aP).drop i)=(u::l2++rest).map aP by rw[show i=(l1.map aP).length by simp[fj]]; exact List.drop_left];rw[List.map_append,List.drop_append_of_le_length (by simp),List.length_map,List.map_drop]
  rw[e1,e2]; simp
 have jm:∃w,(u::l2).drop l2.length=[w]:=by
  have:((u::l2).drop l2.length).length=1:=by simp
  exact List.length_eq_one_iff.1 this
 obtain⟨w,hw⟩:=jm;rw[hw] at yH;rw[yH] at ll ⊢;have Ag:((l1++l2).map aP++[w].map aP++rest.map aP).length=l.length+rest.length:=by simp; omega
 refine Za (v:=.sl b (0+(i+l2.length)) (l.length-(i+l2.length)) false) (rd:=[b]) ?_ ?_
 ·show (match ah (σ.set b _) b with
   |.rows s rs=>bif Nat.beq s 4&&((Nat.blt (i+l2.length) l.length||Nat.beq (i+l2.length) 0)&&(Nat.ble l.length (i+l2.length)||(!(Nat.beq 4 0)&&Nat.ble (0+l.length) rs.length))) then az.ok (.sl b (0+(i+l2.length)) (l.length-(i+l2.length)) false) [b] [] else .stop
   | _=>.stop)=_
  rw[ll];have k1:Nat.blt (i+l2.length) l.length=true:=Nat.ble_eq_true_of_le (show i+l2.length+1≤l.length by omega);have k2:Nat.ble (0+l.length) ((l1++l2).map aP++[w].map aP++rest.map aP).length=true:=Nat.ble_eq_true_of_le (by omega);simp only[k1,k2,Nat.beq_refl,Bool.true_or,Bool.true_and,Bool.and_true];cases Nat.ble l.length (i+l2.length)<;>rfl
 refine Qb (v:=.aF) (rd:=[]) (up:=[(b,.rows 4 (over (0+(i+l2.length)) (List.replicate (l.length-(i+l2.length)) (aP vl)) ((l1++l2).map aP++[w].map aP++rest.map aP)))]) ?_ (Xg _ (by simpa using zN)) ?_
 ·show (match ah (σ.set b _) b with
   |.rows s rs=>bif Nat.beq s 4&&Nat.ble (0+(i+l2.length)+(l.length-(i+l2.length))) rs.length then az.ok .aF [] [(b,.rows 4 (over (0+(i+l2.length)) (List.replicate (l.length-(i+l2.length)) (aP vl)) rs))] else .stop
   | _=>.stop)=_
  rw[ll];simp only[Nat.beq_refl,Bool.true_and,Nat.ble_eq_true_of_le (show 0+(i+l2.length)+(l.length-(i+l2.length))≤((l1++l2).map aP++[w].map aP++rest.map aP).length by omega),cond_true]
 rw[List.set_set];have e1:l.length-1=i+l2.length:=by omega
 have e2:over (0+(i+l2.length)) (List.replicate (l.length-(i+l2.length)) (aP vl)) ((l1++l2).map aP++[w].map aP++rest.map aP)=(l.eraseIdx i++vl::rest).map aP:=by
  rw[show l.length-(i+l2.length)=1 by omega,her];unfold over;have f1:(l1++l2).length=i+l2.length:=by simp[fj]
  rw[Nat.zero_add,show i+l2.length=((l1++l2).map aP).length by simp[fj],show (l1++l2).map aP++[w].map aP++rest.map aP=(l1++l2).map aP++([w].map aP++rest.map aP) from List.append_assoc ..];rw[List.take_left,←List.drop_drop,List.drop_left];simp
 rw[e1] at hK;rw[e2];exact hK
theorem c74(x id:Int):PC 43 [iv x,.ao [iv id] 0] (.bool (decide (x=id))):=by
 refine Yc hP g43.ok rfl rfl ?_;rw[H2.e]; unfold g43; dsimp only;exact Za (an rfl) (Za (Zf ..) rfl)
theorem Zdk{σ:List ab}{b m:Nat}{L:List Int}(hb:ah σ b=.rows 1 (L.map aY))(hm:m<L.length)(x:Int):Qm 1 [.ptr b m 0,iv x] σ=.ok .aF [] [(b,.rows 1 ((L.set m x).map aY))]:=by
 have hl:m<(L.map aY).length:=by simpa using hm
 have h1:nth (L.map aY) m=some (aY L[m]):=by rw[Y7,List.getElem?_map,List.getElem?_eq_getElem hm]; rfl
 have h2:YM m [iv x] (L.map aY)=some ((L.set m x).map aY):=by
  rw[DA hl,List.map_set]; rfl
 show (match ah σ b with
   |.rows sz rs=>match nth rs m with
    |some row=>match cellsOf (iv x) with
     | some cs=>bif Nat.beq cs.length 1 then (match cr 0 cs row with
      |some row'=>match YM m row' rs with
       |some rs'=>az.ok .aF [] [(b,.rows sz rs')]
       |none=>.stop
      | none=>.stop) else .stop
     |none=>.stop
    |none=>.stop
   | _=>.stop)=_
 rw[hb];simp only[h1];show (match YM m [iv x] (L.map aY) with
  |some rs'=>az.ok .aF [] [(b,.rows 1 rs')]
  | none=>.stop)=_
 rw[h2]
theorem Va{α:Type}(f:α→Bool):∀(l:List α) (n:Int),dE f l n = -1∧(∀x∈l,f x=false)∨∃k:Nat,k<l.length∧dE f l n=n+k∧(∀x∈l.take k,f x=false)∧(l[k]?).map f=some true
 |[],n=>.inl ⟨rfl,by simp⟩
 |x::l,n=>by
  by_cases h:f x=true
  ·exact .inr ⟨0,by simp,by simp[dE,h],by simp,by simp[h]⟩
  ·have e:dE f (x::l) n=dE f l (n+1):=if_neg h;rw[e];have h':f x=false:=by simpa using h
   rcases Va f l (n+1) with ⟨q1,q2⟩|⟨k,q1,q2,q3,q4⟩
   ·exact .inl ⟨q1,by intro y hy; rcases List.mem_cons.1 hy with rfl|hy; exact h'; exact q2 y hy⟩
   ·refine .inr ⟨k+1,by simp; omega,by rw[q2]; push_cast; omega,?_,by simpa using q4⟩;intro y hy;rw[List.take_succ_cons] at hy;rcases List.mem_cons.1 hy with rfl|hy
    ·exact h'
    ·exact q3 y hy
def aO(id:Int)(l:List Int):List Int:=l.filter λx=>!decide (x=id)
theorem UW(id:Int)(l:List Int):(aO id l).length≤l.length:=List.length_filter_le _ _
theorem SG{id:Int}{l:List Int}(h:∀x∈l,decide (x=id)=false):aO id l=l:=by
 rw[aO,List.filter_eq_self];intro x hx; rw[h x hx]; rfl
theorem Nr{σ:List ab}{rd:List Nat}{b:Nat}{ex:Bool}{l rest:List Int}{n:Nat}(hb:ah σ b=.rows 1 ((l++rest).map aY))(cY:b∈rd)(hn:n=l.length):RI σ rd (.sl b 0 n ex) l:=by
 subst hn;refine aB.own hb cY (by simp) ?_ Np;unfold cut;rw[List.drop_zero,List.map_append,Nat.zero_add,show l.length=(l.map aY).length by simp];exact List.take_left
theorem I_{σ:List ab}{y:Nat}(h:¬y<σ.length):ah σ y=.dead:=by
 induction σ generalizing y with
 |nil=>rfl
 |cons x σ ih=>cases y with
  |zero=>simp at h
  |succ y=>simp only[ah]; exact ih (by simpa using h)
theorem c73{σ:List ab}{b c:Nat}{l rest:List Int}{id:Int}(hb:ah σ b=.rows 1 ((l++rest).map aY))(hc:ah σ c=.box [iv id])(hl:l.length≤1000000000){K:aa→List ab→Prop}
 (hK:∀τ HS,τ.length=σ.length→(∀k,k≠b→ah τ k=ah σ k)→ah τ b=.rows 1 ((aO id l++HS).map aY)→K (.sl b 0 (aO id l).length false) τ) :
  g42.u VV [.sl b 0 l.length false,.func (.func 43) [] [.ai c 0]] σ K:=by
 have zN:=Ye hb (by simp);have hbc:c≠b:=by rintro rfl; rw[hb] at hc; cases hc
 rw[H2.e]; unfold g42; dsimp only;refine Zx (rd:=[b,c]) (c120 l (by rw[cO]; omega) 43 [] [.ao [iv id] 0] g43.ok.plain (λx=>decide (x=id)) (λx _=>c74 x id) (λx=>rfl)) rfl g71.ok.plain (.cons (Nr hb (by simp) rfl) <| .cons (aB.func .nil (.cons (aB.box (Yx hc (by simp)) (by simp) (bp.ro rfl)) .nil)) .nil) rfl ?_;refine Za (Zf ..) ?_;rcases Va (λx=>decide (x=id)) l 0 with ⟨q1,q2⟩|⟨k,q1,q2,q3,q4⟩
 ·rw[q1];refine Xc ?_;have e:=SG q2;have:=hK σ rest rfl (λ_ _=>rfl) (by rw[e]; exact hb);rw[e] at this; exact this
 rw[q2,Int.zero_add,decide_eq_false (by omega)];refine Yd (Za (Yj ..) ?_);rw[Qd (n:=k) (by omega)];have KP:aO id (l.take (k+1))=l.take k:=by
  rw[List.take_add_one,aO,List.filter_append];have e1:=SG q3;have hk:l[k]?=some l[k]:=by simp[q1]
  rw[hk] at q4 ⊢;simp only[Option.map_some,Option.some.injEq] at q4;simp only[aO] at e1;rw[e1];simp[q4]
 refine Xj (ι:=Nat) (λj vs τ=>∃(m:Nat) (L:List Int),vs=[iv j,iv m]∧j≤l.length∧m<j∧L.length=l.length+rest.length∧L.take m=aO id (l.take j)∧(∀i,j≤i→i<l.length→L[i]?=l[i]?)∧ah τ b=.rows 1 (L.map aY)∧τ.length=σ.length∧(∀x,x≠b→ah τ x=ah σ x)) (λj=>l.length-j) (k+1)
  ⟨k,l++rest,rfl,by omega,by omega,by simp,by rw[KP,List.take_append_of_le_length (by omega)],λi h1 h2=>by rw[List.getElem?_append_left h2],hb,rfl,λ_ _=>rfl⟩ ?_
 rintro j vs τ again ⟨m,L,rfl,hj,hm,hL,ht,hr,oY,cp,ho⟩ aZ;have s_:m≤L.length:=by omega
 refine Za rfl (Za rfl (Zb (λh=>?_) (λh=>?_)))
 ·have h:j<l.length:=by simpa using h
  have hx:L[j]?=some l[j]:=by rw[hr j (Nat.le_refl _) h]; simp[h]
  have jb:l.take (j+1)=l.take j++[l[j]]:=by rw[List.take_add_one]; simp[h]
  generalize l[j]=x at hx jb;refine Qh λk7 V1=>?_;refine Za (v:=.ptr b j 0) (rd:=[b]) ?_ ?_
  ·have:=rI τ b 0 l.length false 1 (L.map aY) .i64 j h oY;rw[Nat.zero_add] at this; exact this
  refine Za (xp oY (row:=aY x) (by rw[List.getElem?_map,hx]; rfl) rfl) ?_;have yx:ah τ c=.box [iv id]:=by rw[ho c hbc]; exact hc
  refine Zx (rd:=[c]) (c74 x id) rfl g43.ok.plain (.cons (aB.ro rfl) <| .cons (aB.box (Yx yx (by simp)) (by simp) (bp.ro rfl)) .nil) rfl ?_;refine Za rfl (Zb (λhp=>?_) (λhp=>?_))
  ·refine Za (v:=.ptr b m 0) (rd:=[b]) ?_ ?_
   ·have:=rI τ b 0 l.length false 1 (L.map aY) .i64 m (by omega) oY;rw[Nat.zero_add] at this; exact this
   refine Qb (Zdk oY (by omega) x) (Xg _ (by omega)) (Za (Yj ..) ?_);rw[Qd (n:=m) (by omega),V1];refine Za (Yj ..) ?_;rw[Qd (n:=j) (by omega)];refine aZ (j+1) _ _ (by omega) ⟨m+1,L.set m x,rfl,by omega,by omega,by simpa using hL,?_,λi h1 h2=>?_,Xe _ (by omega),by simpa using cp,λy hy=>?_⟩
   ·rw[jb,aO,List.filter_append,List.take_add_one,List.take_set_of_le (Nat.le_refl _),ht];have:(L.set m x)[m]?=some x:=by simp[show m<L.length by omega]
    rw[this];simp[aO,show decide (x=id)=false by simpa using hp]
   ·rw[List.getElem?_set_ne (by omega)]; exact hr i (by omega) h2
   ·by_cases xn:y<τ.length
    ·rw[Zg _ xn hy]; exact ho y hy
    ·have e1:ah (τ.set b (.rows 1 ((L.set m x).map aY))) y=.dead:=I_ (by simpa using xn);have e2:ah τ y=.dead:=I_ xn;rw[e1,←e2]; exact ho y hy
  ·rw[V1];refine Za (Yj ..) ?_;rw[Qd (n:=j) (by omega)];refine aZ (j+1) _ _ (by omega) ⟨m,L,rfl,by omega,by omega,hL,?_,λi h1 h2=>hr i (by omega) h2,oY,cp,ho⟩;rw[jb,aO,List.filter_append,ht];simp[aO,show decide (x=id)=true by simpa using hp]
 ·have h:j=l.length:=by simp at h; omega
  subst h;rw[List.take_length] at ht;have hmw:(aO id l).length=m:=by rw[←ht,List.length_take]; omega
  obtain⟨v,rd,hv,i4⟩:=Su (n:=l.length) (i:=m) (ex:=false) oY (by omega);have i4:v=.sl b m (l.length-m) false∧rd=[b]:=by
   rcases i4 with ⟨_,h1,h2⟩|⟨h0,_⟩
   ·exact⟨h1,h2⟩
   ·omega
  obtain⟨rfl,rfl⟩:=i4;refine Za hv ?_;refine Qb (v:=.aF) (rd:=[]) (up:=[(b,.rows 1 (over m (List.replicate (l.length-m) (aY 0)) (L.map aY)))]) ?_ (Xg _ (by omega)) ?_
  ·show (match ah τ b with
    |.rows s rs=>bif Nat.beq s 1&&Nat.ble (m+(l.length-m)) rs.length then az.ok .aF [] [(b,.rows 1 (over m (List.replicate (l.length-m) (aY 0)) rs))] else .stop
    | _=>.stop)=_
   rw[oY];simp only[Nat.beq_refl,Bool.true_and,Nat.ble_eq_true_of_le (show m+(l.length-m)≤(L.map aY).length by simp; omega),cond_true]
  have yu:=Xe (σ:=τ) (.rows 1 (over m (List.replicate (l.length-m) (aY 0)) (L.map aY))) (show b<τ.length by omega);refine Za (v:=.sl b 0 m false) (rd:=[b]) ?_ ?_
  ·show (match ah (τ.set b _) b with
    |.rows s _=>bif Nat.beq s 1&&Nat.ble m l.length then az.ok (.sl b 0 m false) [b] [] else .stop
    | _=>.stop)=_
   rw[yu];simp only[Nat.beq_refl,Nat.ble_eq_true_of_le (show m≤l.length by omega),Bool.and_self,cond_true]
  rw[hmw] at hK;refine hK _ (List.replicate (l.length-m) 0++L.drop l.length) (by simpa using cp) (λy hy=>?_) ?_
  ·by_cases xn:y<τ.length
   ·rw[Zg _ xn hy]; exact ho y hy
   ·have e1:ah (τ.set b (.rows 1 (over m (List.replicate (l.length-m) (aY 0)) (L.map aY)))) y=.dead:=I_ (by simpa using xn);have e2:ah τ y=.dead:=I_ xn;rw[e1,←e2]; exact ho y hy
  ·rw[yu]
   congr 1
   unfold over;rw[List.length_replicate,show m+(l.length-m)=l.length by omega,←List.map_take,ht,←List.map_drop];simp
end Go.Ah.Tz
end
section
namespace Go.Ah.Tz
open Go.Proofs.Tryz (prog)
abbrev xR(x:St)(g0 g1:Nat):List aa:=[iv x.turn,iv x.mover,ar x.phase,.bool x.bF,ar x.result,.sl 3 0 x.al.length false,iv x.next,iv x.s0.aJ,iv x.s0.aW,iv x.s0.most,.sl 4 0 x.s0.aA.length false,.sl 5 0 x.s0.hand.length false,.sl g0 0 x.s0.aj.length false,.sl 7 0 x.s0.ae.length false,.sl 8 0 x.s0.told.length false,iv x.s1.aJ,iv x.s1.aW,iv x.s1.most,.sl 9 0 x.s1.aA.length false,.sl 10 0 x.s1.hand.length false,.sl g1 0 x.s1.aj.length false,.sl 12 0 x.s1.ae.length false,.sl 13 0 x.s1.told.length false]
def fK(e:Ev):List aa:=[ar e.kind,iv e.side,iv e.card,iv e.id,iv e.other,iv e.n,.aq]
def Xx(s:St)(id:Int):St×List Ev:=
 match gU s.s0.ae id with
 |some k=>let u:=(s.s0.ae[k]?).getD default
  ({ s with al:=aO id s.al,s0:={ s.s0 with ae:=s.s0.ae.eraseIdx k,aj:=s.s0.aj++[u.card] } },[⟨13,0,u.card,id,0,0,[]⟩])
 |none=>match gU s.s1.ae id with
  |some k=>let u:=(s.s1.ae[k]?).getD default
   ({ s with al:=aO id s.al,s1:={ s.s1 with ae:=s.s1.ae.eraseIdx k,aj:=s.s1.aj++[u.card] } },[⟨13,1,u.card,id,0,0,[]⟩])
  |none=>(s,[])
def Qt:List Int→St→St×List Ev
 |[],s=>(s,[])
 |id::l,s=>((Qt l (Xx s id).1).1,(Xx s id).2++(Qt l (Xx s id).1).2)
def dL(τ τ':List ab)(ex:List Nat):Prop:=τ.length≤τ'.length∧∀c,c<τ.length→c∉ex→ah τ' c=ah τ c
theorem dL.app(τ l:List ab):dL τ (τ++l) []:=⟨by simp,λc hc _=>Xo l hc⟩
theorem dL.set(τ:List ab)(b:Nat)(x:ab):dL τ (τ.set b x) [b]:=⟨by simp,λc hc h=>Zg x hc (by simpa using h)⟩
theorem dL.trans{a b c:List ab}{e f:List Nat}(h:dL a b e)(k:dL b c f):dL a c (e++f):=
 ⟨Nat.le_trans h.1 k.1,λx hx hn=>by
  rw[List.mem_append,not_or] at hn;rw[k.2 x (Nat.lt_of_lt_of_le hx h.1) hn.2,h.2 x hx hn.1]⟩
theorem dL.get{a b:List ab}{e:List Nat}(h:dL a b e){c:Nat}{x:ab}(hx:ah a c=x)(hd:x≠.dead)(hn:c∉e):ah b c=x:=by
 rw[h.2 c (Ye hx hd) hn]; exact hx
structure qz (b:Bk) (s x:St) (g0 g1:Nat) (τ:List ab):Prop where
 k0:ah τ 0=.box (bU b)
 k1:ah τ 1=.box (aD s)
 k2:ah τ 2=.box aU
 mv:ah τ 14=.box (.ai 0 0::xR x g0 g1)
 at_:∃r,ah τ 3=.rows 1 ((x.al++r).map aY)
 r4:ah τ 4=.rows 1 (x.s0.aA.map aY)
 r5:ah τ 5=.rows 1 (x.s0.hand.map aY)
 wD:ah τ g0=.rows 1 (x.s0.aj.map aY)
 r7:∃r,ah τ 7=.rows 4 ((x.s0.ae++r).map aP)
 r8:ah τ 8=.rows 1 (x.s0.told.map aY)
 r9:ah τ 9=.rows 1 (x.s1.aA.map aY)
 r10:ah τ 10=.rows 1 (x.s1.hand.map aY)
 wE:ah τ g1=.rows 1 (x.s1.aj.map aY)
 r12:∃r,ah τ 12=.rows 4 ((x.s1.ae++r).map aP)
 r13:ah τ 13=.rows 1 (x.s1.told.map aY)
 n0:g0=6∨15≤g0
 n1:g1=11∨15≤g1
 ne:g0≠g1
def tf(g0 g1:Nat)(τ:List ab)(v:aa)(e8:List Ev):Prop:=(e8=[]∧v=.aq)∨(e8≠[]∧∃bo,15≤bo∧bo≠g0∧bo≠g1∧v=.sl bo 0 e8.length false∧ah τ bo=.rows 7 (e8.map fK))
theorem JK{σ:List ab}{rd:List Nat}{b:Nat}{ex:Bool}{l rest:List Th}{n:Nat}(hb:ah σ b=.rows 4 ((l++rest).map aP))(cY:b∈rd)(hn:n=l.length):RT σ rd (.sl b 0 n ex) l:=by
 subst hn;refine aB.own hb cY (by simp) ?_ Vr;simp[cut]
theorem qz.sb{b:Bk}{s x:St}{g0 g1:Nat}{τ:List ab}(h:qz b s x g0 g1 τ):SB τ [3,4,5,g0,7,8,9,10,g1,12,13] (xR x g0 g1) x:=by
 obtain⟨r,ha⟩:=h.at_;obtain⟨r7,h7⟩:=h.r7;obtain⟨r12,h12⟩:=h.r12;exact SB.mk (s:=x) (Nr ha (by simp) rfl) (RI.own h.r4 (by simp) rfl) (RI.own h.r5 (by simp) rfl) (RI.own h.wD (by simp) rfl) (JK h7 (by simp) rfl) (RI.own h.r8 (by simp) rfl) (RI.own h.r9 (by simp) rfl) (RI.own h.r10 (by simp) rfl) (RI.own h.wE (by simp) rfl) (JK h12 (by simp) rfl) (RI.own h.r13 (by simp) rfl)
theorem qz.more{b:Bk}{s x:St}{g0 g1:Nat}{τ:List ab}(h:qz b s x g0 g1 τ)(l:List ab):qz b s x g0 g1 (τ++l):=by
 have A:=dL.app τ l;obtain⟨r,ha⟩:=h.at_;obtain⟨r7,h7⟩:=h.r7;obtain⟨r12,h12⟩:=h.r12;exact⟨A.get h.k0 (by simp) (by simp),A.get h.k1 (by simp) (by simp),A.get h.k2 (by simp) (by simp),A.get h.mv (by simp) (by simp),⟨r,A.get ha (by simp) (by simp)⟩,A.get h.r4 (by simp) (by simp),A.get h.r5 (by simp) (by simp),A.get h.wD (by simp) (by simp),⟨r7,A.get h7 (by simp) (by simp)⟩,A.get h.r8 (by simp) (by simp),A.get h.r9 (by simp) (by simp),A.get h.r10 (by simp) (by simp),A.get h.wE (by simp) (by simp),⟨r12,A.get h12 (by simp) (by simp)⟩,A.get h.r13 (by simp) (by simp),h.n0,h.n1,h.ne⟩
theorem tf.more{g0 g1:Nat}{τ:List ab}{v:aa}{e8:List Ev}(h:tf g0 g1 τ v e8)(l:List ab):tf g0 g1 (τ++l) v e8:=by
 rcases h with h|⟨h1,bo,q1,q2,q3,q4,q5⟩
 ·exact .inl h
 ·exact .inr ⟨h1,bo,q1,q2,q3,q4,Xd l q5 (by simp)⟩
attribute [local irreducible] ak.rd ak.pu ak.wr ak.dr ak.gr ak.gw ak.gl ak.gd ak.opt aH W
set_option maxHeartbeats 4000000
abbrev mQ(x:St)(a g0 l0 u0 g1 l1 u1:Nat):List aa:=[.ai 0 0,iv x.turn,iv x.mover,ar x.phase,.bool x.bF,ar x.result,.sl 3 0 a false,iv x.next,iv x.s0.aJ,iv x.s0.aW,iv x.s0.most,.sl 4 0 x.s0.aA.length false,.sl 5 0 x.s0.hand.length false,.sl g0 0 l0 false,.sl 7 0 u0 false,.sl 8 0 x.s0.told.length false,iv x.s1.aJ,iv x.s1.aW,iv x.s1.most,.sl 9 0 x.s1.aA.length false,.sl 10 0 x.s1.hand.length false,.sl g1 0 l1 false,.sl 12 0 u1 false,.sl 13 0 x.s1.told.length false]
theorem c27(b:Bk)(hf:aS b=true)(bN:Zj b.af)(s:St)(hs:bu 2000000 s)(hm:aQ (cE b).1 b s true=true)(ids:List Int)(l8:ids.length≤1000000):PC 20 [dg b,cf s,aV ids] (.bn [cf (Qt ids s).1,.ax false false 7 ((Qt ids s).2.map fK)]):=by
 refine Qo hP g20.ok rfl ?_;rw[H3.e]; unfold g20; dsimp only;refine Qb (v:=.ai 0 0) (rd:=[]) (up:=[(0,.box (bU b))]) rfl rfl ?_;refine Qb (v:=.ai 1 0) (rd:=[]) (up:=[(1,.box (aD s))]) rfl rfl ?_;refine Qb (v:=.ai 2 0) (rd:=[]) (up:=[(2,.box aU)]) rfl rfl ?_;refine lW b hf bN s (hs.mono (by decide)) (n0:=3) (n:=14) rfl rfl rfl rfl (λh=>by rw[hm] at h; cases h) (λ_=>?_);refine Za rfl (Yd (Za (v:=iv ids.length) (rd:=[]) (by simp[Zh]) ?_));refine Xj (ι:=Nat) (λi vs τ=>(∃(x:St) (g0 g1:Nat) (v:aa) (e8:List Ev),vs=[iv i,v]∧qz b s x g0 g1 τ∧tf g0 g1 τ v e8∧bu (2000000+i) x∧e8.length≤i∧(Qt ids s).1=(Qt (ids.drop i) x).1∧(Qt ids s).2=e8++(Qt (ids.drop i) x).2)∧i≤ids.length) (λi=>ids.length-i) 0
  ⟨⟨s,6,11,.aq,[],rfl,⟨rfl,rfl,rfl,rfl,⟨[],by rw[List.append_nil]; rfl⟩,rfl,rfl,rfl,⟨[],by rw[List.append_nil]; rfl⟩,rfl,rfl,rfl,rfl,⟨[],by rw[List.append_nil]; rfl⟩,rfl,.inl rfl,.inl rfl,by decide⟩,.inl ⟨rfl,rfl⟩,hs,by simp,rfl,rfl⟩,by omega⟩ ?_
 rintro i vs τ again ⟨⟨x,g0,g1,v,e8,rfl,hB,hO,hle,yz,e1,e2⟩,hi⟩ aZ;refine Za rfl (Zb (λh=>?_) (λh=>?_))
 ·have h:i<ids.length:=by simpa using h
  rw[fA h,Qt] at e1 e2;have dc:=λ(t:List ab)=>Zp t aY false false 1 ids .i64 i h;generalize ids[i]=id at e1 e2 dc;refine Qh λk11 i_=>?_;have next:∀(x':St) (KD KE:Nat) (v':aa) (t_:List Ev) (τ':List ab),qz b s x' KD KE τ'→tf KD KE τ' v' (e8++t_)→bu (2000000+(i+1)) x'→t_.length≤1→Xx x id=(x',t_)→k11 [v'] τ':=by
   intro x' KD KE v' t_ τ' n1 n2 n3 n4 n5;rw[i_];refine Za (Yj ..) ?_;rw[Qd (n:=i) (by omega)];rw[n5] at e1 e2;exact aZ (i+1) _ _ (by omega) ⟨⟨x',KD,KE,v',e8++t_,rfl,n1,n2,n3,by simp; omega,e1,by rw[e2]; simp⟩,by omega⟩
  clear i_ aZ e1 e2;refine Za (dc _) (Za (an rfl) (Xq (row:=[iv id]) (row':=[iv id]) rfl rfl rfl ?_));have bw:=hB.more [.box [iv id]];have KI:=hO.more [.box [iv id]];have hN:=Yf τ (.box [iv id]);have lN0:=Ye hB.wD (by simp);have lN1:=Ye hB.wE (by simp);have lNv:=Ye hB.mv (by simp);have Wr:∀bo n,ah τ bo=.rows 7 n→bo<τ.length:=λbo n h=>Ye h (by simp);have hOb:∀bo k ex,v=.sl bo 0 k ex→bo<τ.length:=by
   rcases hO with ⟨_,rfl⟩|⟨_,bo,_,_,_,rfl,hbo⟩<;>simp_all
  obtain⟨τ1,Al⟩:∃t,τ++[ab.box [iv id]]=t:=⟨_,rfl⟩;have lN:τ.length<τ1.length:=by rw[←Al]; simp
  rw[Al] at bw KI hN ⊢;generalize τ.length=N at hN lN0 lN1 lNv Wr hOb lN ⊢;clear Al hB hO Wr;have h71:=c71 x (hle.mono (by omega)) id;refine Qe rfl (Qe rfl (Yg (ld bw.mv rfl) (Xi _) (Yg (ld hN rfl) (Xi _) ?_)));refine YW (rd:=[3,4,5,g0,7,8,9,10,g1,12,13]) h71 rfl g19.ok.plain (.cons (SB.agg bw.sb) <| .cons (aB.ro rfl) .nil) rfl ?_;refine Qe rfl (Qe rfl (Qe rfl (Xr (by rfl) ?_)));clear h71;unfold bj;cases q0:gU x.s0.ae id with
  |some j=>
   obtain⟨u,hj,_⟩:=XY q0;have nJ:j<x.s0.ae.length:=(gn hj).1;obtain⟨r,hU⟩:=bw.r7;have KR:=hle.s0.ae;have O1:=hle.s0.aj;have hla:=hle.al;have n0:=bw.n0;have n1:=bw.n1;have nne:=bw.ne;have l14:14<τ1.length:=Ye bw.mv (by simp);have lg:g0<τ1.length:=Ye bw.wD (by simp);have log:g1<τ1.length:=Ye bw.wE (by simp);refine Za rfl (Yd (Za rfl (Za rfl (Za rfl (Za rfl (Za rfl (Za rfl (Za (ld bw.mv rfl) ?_))))))));refine Za (v:=.ptr 7 j 0) (rd:=[7]) ?_ ?_
   ·simp_all [rI]
   refine Za rfl (Za (xp hU (row:=aP u) (by grind) rfl) ?_);refine Za rfl (Za rfl (Za (ld bw.mv rfl) (Za (Yj ..) ?_)));rw[Qd (n:=j) (by omega)];refine Qg hP rfl g41.ok rfl (c72 hU nJ (by omega) ?_);obtain⟨τ2,Oa⟩:∃t,τ1.set 7 (.rows 4 ((x.s0.ae.eraseIdx j++vl::r).map aP))=t:=⟨_,rfl⟩;have A2:=dL.set τ1 7 (.rows 4 ((x.s0.ae.eraseIdx j++vl::r).map aP));have mU:=Xe (σ:=τ1) (.rows 4 ((x.s0.ae.eraseIdx j++vl::r).map aP)) (show 7<τ1.length by omega);rw[Oa] at A2 mU ⊢;have b2:=A2.get bw.mv (by simp) (by simp);have lt2:=A2.1;refine Za rfl (Za rfl ?_);obtain⟨τ3,Ob⟩:∃t,τ2.set 14 (.box (mQ x x.al.length g0 x.s0.aj.length (x.s0.ae.length-1) g1 x.s1.aj.length x.s1.ae.length))=t:=⟨_,rfl⟩;refine Qb (v:=.aF) (rd:=[]) (up:=[(14,.box (mQ x x.al.length g0 x.s0.aj.length (x.s0.ae.length-1) g1 x.s1.aj.length x.s1.ae.length))]) (σ':=τ3) (cM b2 rfl rfl rfl) (by grind [Xg]) ?_;have A3:=dL.set τ2 14 (.box (mQ x x.al.length g0 x.s0.aj.length (x.s0.ae.length-1) g1 x.s1.aj.length x.s1.ae.length));have b3:=Xe (σ:=τ2) (.box (mQ x x.al.length g0 x.s0.aj.length (x.s0.ae.length-1) g1 x.s1.aj.length x.s1.ae.length)) (show 14<τ2.length by omega);rw[Ob] at A3 b3;have lt3:=A3.1;have A13:=A2.trans A3;have wR:=A13.get bw.wD (by simp) (by simp<;>omega);refine Za rfl (Za rfl (Za (ld b3 rfl) ?_));rw[ZN _ _ _ _ _ (aY u.card) rfl rfl,zf _ 1 8 τ3 g0 x.s0.aj.length false _ (aY u.card) wR (by simp) rfl (by omega)];have A4:=((dL.set τ3 g0 .dead).trans (dL.app (τ3.set g0 .dead) [ab.rows 1 [aY u.card]])).trans (dL.app (τ3.set g0 .dead++[ab.rows 1 [aY u.card]]) [ab.rows 1 (x.s0.aj.map aY++[aY u.card])]);have mG:=Yf (τ3.set g0 .dead++[ab.rows 1 [aY u.card]]) (.rows 1 (x.s0.aj.map aY++[aY u.card]));have eG:(τ3.set g0 .dead++[ab.rows 1 [aY u.card]]).length=τ3.length+1:=by simp
   have l4:(τ3.set g0 .dead++[ab.rows 1 [aY u.card]]++[ab.rows 1 (x.s0.aj.map aY++[aY u.card])]).length=τ3.length+2:=by simp
   rw[eG] at mG;generalize τ3.set g0 .dead++[ab.rows 1 [aY u.card]]++[ab.rows 1 (x.s0.aj.map aY++[aY u.card])]=τ4 at A4 mG l4 ⊢;obtain⟨G,Oj⟩:∃n,τ3.length+1=n:=⟨_,rfl⟩;rw[Oj] at mG ⊢;have b4:=A4.get b3 (by simp) (by simp<;>omega);refine Za rfl (Za rfl ?_);obtain⟨τ5,Oc⟩:∃t,τ4.set 14 (.box (mQ x x.al.length G (x.s0.aj.length+1) (x.s0.ae.length-1) g1 x.s1.aj.length x.s1.ae.length))=t:=⟨_,rfl⟩;refine Qb (v:=.aF) (rd:=[]) (up:=[(14,.box (mQ x x.al.length G (x.s0.aj.length+1) (x.s0.ae.length-1) g1 x.s1.aj.length x.s1.ae.length))]) (σ':=τ5) (cM b4 rfl rfl rfl) (by grind [Xg]) ?_;have A5:=dL.set τ4 14 (.box (mQ x x.al.length G (x.s0.aj.length+1) (x.s0.ae.length-1) g1 x.s1.aj.length x.s1.ae.length));have b5:=Xe (σ:=τ4) (.box (mQ x x.al.length G (x.s0.aj.length+1) (x.s0.ae.length-1) g1 x.s1.aj.length x.s1.ae.length)) (show 14<τ4.length by omega);have l5:(τ4.set 14 (.box (mQ x x.al.length G (x.s0.aj.length+1) (x.s0.ae.length-1) g1 x.s1.aj.length x.s1.ae.length))).length=τ4.length:=by simp
   rw[Oc] at A5 b5 l5;have A15:=(A13.trans A4).trans A5;obtain⟨ra,n7⟩:=bw.at_;have zI:=A15.get n7 (by simp) (by simp<;>omega);have Gl:=A15.get hN (by simp) (by simp<;>omega);refine Za rfl (Za rfl (Za rfl (Za (ld b5 rfl) (Za rfl ?_))));refine Qg hP rfl g42.ok rfl (c73 zI Gl (by omega) (λτ6 qe l6 o6 m3=>?_));have A6:dL τ5 τ6 [3]:=⟨by omega,λc _ hc=>o6 c (by simpa using hc)⟩;have b6:=A6.get b5 (by simp) (by simp);refine Za rfl (Za rfl (Za rfl ?_));obtain⟨τ7,Od⟩:∃t,τ6.set 14 (.box (mQ x (aO id x.al).length G (x.s0.aj.length+1) (x.s0.ae.length-1) g1 x.s1.aj.length x.s1.ae.length))=t:=⟨_,rfl⟩;refine Qb (v:=.aF) (rd:=[]) (up:=[(14,.box (mQ x (aO id x.al).length G (x.s0.aj.length+1) (x.s0.ae.length-1) g1 x.s1.aj.length x.s1.ae.length))]) (σ':=τ7) (cM b6 rfl rfl rfl) (by grind [Xg]) ?_;have A7:=dL.set τ6 14 (.box (mQ x (aO id x.al).length G (x.s0.aj.length+1) (x.s0.ae.length-1) g1 x.s1.aj.length x.s1.ae.length));have m14:=Xe (σ:=τ6) (.box (mQ x (aO id x.al).length G (x.s0.aj.length+1) (x.s0.ae.length-1) g1 x.s1.aj.length x.s1.ae.length)) (show 14<τ6.length by omega);have l7:(τ6.set 14 (.box (mQ x (aO id x.al).length G (x.s0.aj.length+1) (x.s0.ae.length-1) g1 x.s1.aj.length x.s1.ae.length))).length=τ6.length:=by simp
   rw[Od] at A7 m14 l7;have A67:=A6.trans A7;have Ol:=A67.get Gl (by simp) (by simp<;>omega);refine Za (ld Ol rfl) (Za rfl ?_);have hE:(x.s0.ae.eraseIdx j).length=x.s0.ae.length-1:=by rw[List.length_eraseIdx_of_lt nJ]
   have dT:(mQ x (aO id x.al).length G (x.s0.aj.length+1) (x.s0.ae.length-1) g1 x.s1.aj.length x.s1.ae.length)=.ai 0 0::xR ({ x with al:=aO id x.al,s0:={ x.s0 with ae:=x.s0.ae.eraseIdx j,aj:=x.s0.aj++[u.card] } }) G g1:=by simp[hE]
   have A17:=A15.trans A67;have jm:Xx x id=({ x with al:=aO id x.al,s0:={ x.s0 with ae:=x.s0.ae.eraseIdx j,aj:=x.s0.aj++[u.card] } },[(⟨13,0,u.card,id,0,0,[]⟩:Ev)]):=by
    simp_all [Xx]
   have iU:bu (2000000+(i+1)) ({ x with al:=aO id x.al,s0:={ x.s0 with ae:=x.s0.ae.eraseIdx j,aj:=x.s0.aj++[u.card] } }):=by
    have w:=UW id x.al;refine⟨by grind,⟨Nat.le_trans hle.s0.aA (by omega),Nat.le_trans hle.s0.hand (by omega),by grind,by grind,Nat.le_trans hle.s0.told (by omega)⟩,hle.s1.mono (by omega)⟩
   rcases KI with ⟨rfl,rfl⟩|⟨cL,bo,o1,o2,o3,rfl,o5⟩
   ·rw[ZN _ _ _ _ _ (fK (⟨13,0,u.card,id,0,0,[]⟩:Ev)) rfl rfl];show VV.wr (Zl 7 72 [aa.aq,aa.sl τ7.length 0 1 true] _) _ _;rw[Jw _ 7 72 _ (fK (⟨13,0,u.card,id,0,0,[]⟩:Ev)) rfl (by decide)];have A8:=(dL.app τ7 [ab.rows 7 [fK (⟨13,0,u.card,id,0,0,[]⟩:Ev)]]).trans (dL.app (τ7++[ab.rows 7 [fK (⟨13,0,u.card,id,0,0,[]⟩:Ev)]]) [ab.rows 7 [fK (⟨13,0,u.card,id,0,0,[]⟩:Ev)]]);have mO:=Yf (τ7++[ab.rows 7 [fK (⟨13,0,u.card,id,0,0,[]⟩:Ev)]]) (.rows 7 [fK (⟨13,0,u.card,id,0,0,[]⟩:Ev)]);rw[show (τ7++[ab.rows 7 [fK (⟨13,0,u.card,id,0,0,[]⟩:Ev)]]).length=τ7.length+1 by simp] at mO;generalize τ7++[ab.rows 7 [fK (⟨13,0,u.card,id,0,0,[]⟩:Ev)]]++[ab.rows 7 [fK (⟨13,0,u.card,id,0,0,[]⟩:Ev)]]=τ8 at A8 mO ⊢;have A18:=A17.trans A8;have AU:=(((A3.trans A4).trans A5).trans A67).trans A8;have AG:=(A5.trans A67).trans A8;have AA:=A7.trans A8;refine next ({ x with al:=aO id x.al,s0:={ x.s0 with ae:=x.s0.ae.eraseIdx j,aj:=x.s0.aj++[u.card] } }) G g1 _ [(⟨13,0,u.card,id,0,0,[]⟩:Ev)] τ8 ⟨A18.get bw.k0 (by simp) (by simp<;>omega),A18.get bw.k1 (by simp) (by simp<;>omega),A18.get bw.k2 (by simp) (by simp<;>omega),by rw[dT] at m14; exact A8.get m14 (by simp) (by simp<;>omega),⟨qe,AA.get m3 (by simp) (by simp<;>omega)⟩,A18.get bw.r4 (by simp) (by simp<;>omega),A18.get bw.r5 (by simp) (by simp<;>omega),by have:=AG.get mG (by simp) (by simp<;>omega); rw[this]; simp,⟨_,AU.get mU (by simp) (by simp<;>omega)⟩,A18.get bw.r8 (by simp) (by simp<;>omega),A18.get bw.r9 (by simp) (by simp<;>omega),A18.get bw.r10 (by simp) (by simp<;>omega),A18.get bw.wE (by simp) (by simp<;>omega),by obtain⟨rr,Ai⟩:=bw.r12; exact⟨rr,A18.get Ai (by simp) (by simp<;>omega)⟩,A18.get bw.r13 (by simp) (by simp<;>omega),.inr (by omega),bw.n1,by omega⟩ (.inr ⟨by simp,τ7.length+1,by omega,by omega,by omega,rfl,mO⟩) iU (by simp) jm
   ·have lbo:=Ye o5 (by simp);have PX:=A17.get o5 (by simp) (by simp<;>omega);rw[ZN _ _ _ _ _ (fK (⟨13,0,u.card,id,0,0,[]⟩:Ev)) rfl rfl];show VV.wr (Zl 7 72 [aa.sl bo 0 e8.length false,aa.sl τ7.length 0 1 true] _) _ _;rw[zf _ 7 72 τ7 bo e8.length false _ (fK (⟨13,0,u.card,id,0,0,[]⟩:Ev)) PX (by simp) rfl (by omega)];have A8:=((dL.set τ7 bo .dead).trans (dL.app (τ7.set bo .dead) [ab.rows 7 [fK (⟨13,0,u.card,id,0,0,[]⟩:Ev)]])).trans (dL.app (τ7.set bo .dead++[ab.rows 7 [fK (⟨13,0,u.card,id,0,0,[]⟩:Ev)]]) [ab.rows 7 (e8.map fK++[fK (⟨13,0,u.card,id,0,0,[]⟩:Ev)])]);have mO:=Yf (τ7.set bo .dead++[ab.rows 7 [fK (⟨13,0,u.card,id,0,0,[]⟩:Ev)]]) (.rows 7 (e8.map fK++[fK (⟨13,0,u.card,id,0,0,[]⟩:Ev)]));rw[show (τ7.set bo .dead++[ab.rows 7 [fK (⟨13,0,u.card,id,0,0,[]⟩:Ev)]]).length=τ7.length+1 by simp] at mO;generalize τ7.set bo .dead++[ab.rows 7 [fK (⟨13,0,u.card,id,0,0,[]⟩:Ev)]]++[ab.rows 7 (e8.map fK++[fK (⟨13,0,u.card,id,0,0,[]⟩:Ev)])]=τ8 at A8 mO ⊢;have A18:=A17.trans A8;have AU:=(((A3.trans A4).trans A5).trans A67).trans A8;have AG:=(A5.trans A67).trans A8;have AA:=A7.trans A8;refine next ({ x with al:=aO id x.al,s0:={ x.s0 with ae:=x.s0.ae.eraseIdx j,aj:=x.s0.aj++[u.card] } }) G g1 _ [(⟨13,0,u.card,id,0,0,[]⟩:Ev)] τ8 ⟨A18.get bw.k0 (by simp) (by simp<;>omega),A18.get bw.k1 (by simp) (by simp<;>omega),A18.get bw.k2 (by simp) (by simp<;>omega),by rw[dT] at m14; exact A8.get m14 (by simp) (by simp<;>omega),⟨qe,AA.get m3 (by simp) (by simp<;>omega)⟩,A18.get bw.r4 (by simp) (by simp<;>omega),A18.get bw.r5 (by simp) (by simp<;>omega),by have:=AG.get mG (by simp) (by simp<;>omega); rw[this]; simp,⟨_,AU.get mU (by simp) (by simp<;>omega)⟩,A18.get bw.r8 (by simp) (by simp<;>omega),A18.get bw.r9 (by simp) (by simp<;>omega),A18.get bw.r10 (by simp) (by simp<;>omega),A18.get bw.wE (by simp) (by simp<;>omega),by obtain⟨rr,Ai⟩:=bw.r12; exact⟨rr,A18.get Ai (by simp) (by simp<;>omega)⟩,A18.get bw.r13 (by simp) (by simp<;>omega),.inr (by omega),bw.n1,by omega⟩ (.inr ⟨by simp,τ7.length+1,by omega,by omega,by omega,by simp,by rw[mO]; simp⟩) iU (by simp) jm
  |none=>
   cases q1:gU x.s1.ae id with
   |none=>
    refine Za rfl (Xc ?_);exact next x g0 g1 v [] τ1 bw (by rw[List.append_nil]; exact KI) (hle.mono (by omega)) (by simp) (by simp[Xx,q0,q1])
   |some j=>
    obtain⟨u,hj,_⟩:=XY q1;have nJ:j<x.s1.ae.length:=(gn hj).1;obtain⟨r,hU⟩:=bw.r12;have KR:=hle.s1.ae;have O1:=hle.s1.aj;have hla:=hle.al;have n0:=bw.n0;have n1:=bw.n1;have nne:=bw.ne;have l14:14<τ1.length:=Ye bw.mv (by simp);have lg:g1<τ1.length:=Ye bw.wE (by simp);have log:g0<τ1.length:=Ye bw.wD (by simp);refine Za rfl (Yd (Za rfl (Za rfl (Za rfl (Za rfl (Za rfl (Za rfl (Za (ld bw.mv rfl) ?_))))))));refine Za (v:=.ptr 12 j 0) (rd:=[12]) ?_ ?_
    ·simp_all [rI]
    refine Za rfl (Za (xp hU (row:=aP u) (by grind) rfl) ?_);refine Za rfl (Za rfl (Za (ld bw.mv rfl) (Za (Yj ..) ?_)));rw[Qd (n:=j) (by omega)];refine Qg hP rfl g41.ok rfl (c72 hU nJ (by omega) ?_);obtain⟨τ2,Oa⟩:∃t,τ1.set 12 (.rows 4 ((x.s1.ae.eraseIdx j++vl::r).map aP))=t:=⟨_,rfl⟩;have A2:=dL.set τ1 12 (.rows 4 ((x.s1.ae.eraseIdx j++vl::r).map aP));have mU:=Xe (σ:=τ1) (.rows 4 ((x.s1.ae.eraseIdx j++vl::r).map aP)) (show 12<τ1.length by omega);rw[Oa] at A2 mU ⊢;have b2:=A2.get bw.mv (by simp) (by simp);have lt2:=A2.1;refine Za rfl (Za rfl ?_);obtain⟨τ3,Ob⟩:∃t,τ2.set 14 (.box (mQ x x.al.length g0 x.s0.aj.length x.s0.ae.length g1 x.s1.aj.length (x.s1.ae.length-1)))=t:=⟨_,rfl⟩;refine Qb (v:=.aF) (rd:=[]) (up:=[(14,.box (mQ x x.al.length g0 x.s0.aj.length x.s0.ae.length g1 x.s1.aj.length (x.s1.ae.length-1)))]) (σ':=τ3) (cM b2 rfl rfl rfl) (by grind [Xg]) ?_;have A3:=dL.set τ2 14 (.box (mQ x x.al.length g0 x.s0.aj.length x.s0.ae.length g1 x.s1.aj.length (x.s1.ae.length-1)));have b3:=Xe (σ:=τ2) (.box (mQ x x.al.length g0 x.s0.aj.length x.s0.ae.length g1 x.s1.aj.length (x.s1.ae.length-1))) (show 14<τ2.length by omega);rw[Ob] at A3 b3;have lt3:=A3.1;have A13:=A2.trans A3;have wR:=A13.get bw.wE (by simp) (by simp<;>omega);refine Za rfl (Za rfl (Za (ld b3 rfl) ?_));rw[ZN _ _ _ _ _ (aY u.card) rfl rfl,zf _ 1 8 τ3 g1 x.s1.aj.length false _ (aY u.card) wR (by simp) rfl (by omega)];have A4:=((dL.set τ3 g1 .dead).trans (dL.app (τ3.set g1 .dead) [ab.rows 1 [aY u.card]])).trans (dL.app (τ3.set g1 .dead++[ab.rows 1 [aY u.card]]) [ab.rows 1 (x.s1.aj.map aY++[aY u.card])]);have mG:=Yf (τ3.set g1 .dead++[ab.rows 1 [aY u.card]]) (.rows 1 (x.s1.aj.map aY++[aY u.card]));have eG:(τ3.set g1 .dead++[ab.rows 1 [aY u.card]]).length=τ3.length+1:=by simp
    have l4:(τ3.set g1 .dead++[ab.rows 1 [aY u.card]]++[ab.rows 1 (x.s1.aj.map aY++[aY u.card])]).length=τ3.length+2:=by simp
    rw[eG] at mG;generalize τ3.set g1 .dead++[ab.rows 1 [aY u.card]]++[ab.rows 1 (x.s1.aj.map aY++[aY u.card])]=τ4 at A4 mG l4 ⊢;obtain⟨G,Oj⟩:∃n,τ3.length+1=n:=⟨_,rfl⟩;rw[Oj] at mG ⊢;have b4:=A4.get b3 (by simp) (by simp<;>omega);refine Za rfl (Za rfl ?_);obtain⟨τ5,Oc⟩:∃t,τ4.set 14 (.box (mQ x x.al.length g0 x.s0.aj.length x.s0.ae.length G (x.s1.aj.length+1) (x.s1.ae.length-1)))=t:=⟨_,rfl⟩;refine Qb (v:=.aF) (rd:=[]) (up:=[(14,.box (mQ x x.al.length g0 x.s0.aj.length x.s0.ae.length G (x.s1.aj.length+1) (x.s1.ae.length-1)))]) (σ':=τ5) (cM b4 rfl rfl rfl) (by grind [Xg]) ?_;have A5:=dL.set τ4 14 (.box (mQ x x.al.length g0 x.s0.aj.length x.s0.ae.length G (x.s1.aj.length+1) (x.s1.ae.length-1)));have b5:=Xe (σ:=τ4) (.box (mQ x x.al.length g0 x.s0.aj.length x.s0.ae.length G (x.s1.aj.length+1) (x.s1.ae.length-1))) (show 14<τ4.length by omega);have l5:(τ4.set 14 (.box (mQ x x.al.length g0 x.s0.aj.length x.s0.ae.length G (x.s1.aj.length+1) (x.s1.ae.length-1)))).length=τ4.length:=by simp
    rw[Oc] at A5 b5 l5;have A15:=(A13.trans A4).trans A5;obtain⟨ra,n7⟩:=bw.at_;have zI:=A15.get n7 (by simp) (by simp<;>omega);have Gl:=A15.get hN (by simp) (by simp<;>omega);refine Za rfl (Za rfl (Za rfl (Za (ld b5 rfl) (Za rfl ?_))));refine Qg hP rfl g42.ok rfl (c73 zI Gl (by omega) (λτ6 qe l6 o6 m3=>?_));have A6:dL τ5 τ6 [3]:=⟨by omega,λc _ hc=>o6 c (by simpa using hc)⟩;have b6:=A6.get b5 (by simp) (by simp);refine Za rfl (Za rfl (Za rfl ?_));obtain⟨τ7,Od⟩:∃t,τ6.set 14 (.box (mQ x (aO id x.al).length g0 x.s0.aj.length x.s0.ae.length G (x.s1.aj.length+1) (x.s1.ae.length-1)))=t:=⟨_,rfl⟩;refine Qb (v:=.aF) (rd:=[]) (up:=[(14,.box (mQ x (aO id x.al).length g0 x.s0.aj.length x.s0.ae.length G (x.s1.aj.length+1) (x.s1.ae.length-1)))]) (σ':=τ7) (cM b6 rfl rfl rfl) (by grind [Xg]) ?_;have A7:=dL.set τ6 14 (.box (mQ x (aO id x.al).length g0 x.s0.aj.length x.s0.ae.length G (x.s1.aj.length+1) (x.s1.ae.length-1)));have m14:=Xe (σ:=τ6) (.box (mQ x (aO id x.al).length g0 x.s0.aj.length x.s0.ae.length G (x.s1.aj.length+1) (x.s1.ae.length-1))) (show 14<τ6.length by omega);have l7:(τ6.set 14 (.box (mQ x (aO id x.al).length g0 x.s0.aj.length x.s0.ae.length G (x.s1.aj.length+1) (x.s1.ae.length-1)))).length=τ6.length:=by simp
    rw[Od] at A7 m14 l7;have A67:=A6.trans A7;have Ol:=A67.get Gl (by simp) (by simp<;>omega);refine Za (ld Ol rfl) (Za rfl ?_);have hE:(x.s1.ae.eraseIdx j).length=x.s1.ae.length-1:=by rw[List.length_eraseIdx_of_lt nJ]
    have dT:(mQ x (aO id x.al).length g0 x.s0.aj.length x.s0.ae.length G (x.s1.aj.length+1) (x.s1.ae.length-1))=.ai 0 0::xR ({ x with al:=aO id x.al,s1:={ x.s1 with ae:=x.s1.ae.eraseIdx j,aj:=x.s1.aj++[u.card] } }) g0 G:=by simp[hE]
    have A17:=A15.trans A67;have jm:Xx x id=({ x with al:=aO id x.al,s1:={ x.s1 with ae:=x.s1.ae.eraseIdx j,aj:=x.s1.aj++[u.card] } },[(⟨13,1,u.card,id,0,0,[]⟩:Ev)]):=by
     simp_all [Xx]
    have iU:bu (2000000+(i+1)) ({ x with al:=aO id x.al,s1:={ x.s1 with ae:=x.s1.ae.eraseIdx j,aj:=x.s1.aj++[u.card] } }):=by
     have w:=UW id x.al;refine⟨by grind,hle.s0.mono (by omega),⟨Nat.le_trans hle.s1.aA (by omega),Nat.le_trans hle.s1.hand (by omega),by grind,by grind,Nat.le_trans hle.s1.told (by omega)⟩⟩
    rcases KI with ⟨rfl,rfl⟩|⟨cL,bo,o1,o2,o3,rfl,o5⟩
    ·rw[ZN _ _ _ _ _ (fK (⟨13,1,u.card,id,0,0,[]⟩:Ev)) rfl rfl];show VV.wr (Zl 7 72 [aa.aq,aa.sl τ7.length 0 1 true] _) _ _;rw[Jw _ 7 72 _ (fK (⟨13,1,u.card,id,0,0,[]⟩:Ev)) rfl (by decide)];have A8:=(dL.app τ7 [ab.rows 7 [fK (⟨13,1,u.card,id,0,0,[]⟩:Ev)]]).trans (dL.app (τ7++[ab.rows 7 [fK (⟨13,1,u.card,id,0,0,[]⟩:Ev)]]) [ab.rows 7 [fK (⟨13,1,u.card,id,0,0,[]⟩:Ev)]]);have mO:=Yf (τ7++[ab.rows 7 [fK (⟨13,1,u.card,id,0,0,[]⟩:Ev)]]) (.rows 7 [fK (⟨13,1,u.card,id,0,0,[]⟩:Ev)]);rw[show (τ7++[ab.rows 7 [fK (⟨13,1,u.card,id,0,0,[]⟩:Ev)]]).length=τ7.length+1 by simp] at mO;generalize τ7++[ab.rows 7 [fK (⟨13,1,u.card,id,0,0,[]⟩:Ev)]]++[ab.rows 7 [fK (⟨13,1,u.card,id,0,0,[]⟩:Ev)]]=τ8 at A8 mO ⊢;have A18:=A17.trans A8;have AU:=(((A3.trans A4).trans A5).trans A67).trans A8;have AG:=(A5.trans A67).trans A8;have AA:=A7.trans A8;refine next ({ x with al:=aO id x.al,s1:={ x.s1 with ae:=x.s1.ae.eraseIdx j,aj:=x.s1.aj++[u.card] } }) g0 G _ [(⟨13,1,u.card,id,0,0,[]⟩:Ev)] τ8 ⟨A18.get bw.k0 (by simp) (by simp<;>omega),A18.get bw.k1 (by simp) (by simp<;>omega),A18.get bw.k2 (by simp) (by simp<;>omega),by rw[dT] at m14; exact A8.get m14 (by simp) (by simp<;>omega),⟨qe,AA.get m3 (by simp) (by simp<;>omega)⟩,A18.get bw.r4 (by simp) (by simp<;>omega),A18.get bw.r5 (by simp) (by simp<;>omega),A18.get bw.wD (by simp) (by simp<;>omega),by obtain⟨rr,Ai⟩:=bw.r7; exact⟨rr,A18.get Ai (by simp) (by simp<;>omega)⟩,A18.get bw.r8 (by simp) (by simp<;>omega),A18.get bw.r9 (by simp) (by simp<;>omega),A18.get bw.r10 (by simp) (by simp<;>omega),by have:=AG.get mG (by simp) (by simp<;>omega); rw[this]; simp,⟨_,AU.get mU (by simp) (by simp<;>omega)⟩,A18.get bw.r13 (by simp) (by simp<;>omega),bw.n0,.inr (by omega),by omega⟩ (.inr ⟨by simp,τ7.length+1,by omega,by omega,by omega,rfl,mO⟩) iU (by simp) jm
    ·have lbo:=Ye o5 (by simp);have PX:=A17.get o5 (by simp) (by simp<;>omega);rw[ZN _ _ _ _ _ (fK (⟨13,1,u.card,id,0,0,[]⟩:Ev)) rfl rfl];show VV.wr (Zl 7 72 [aa.sl bo 0 e8.length false,aa.sl τ7.length 0 1 true] _) _ _;rw[zf _ 7 72 τ7 bo e8.length false _ (fK (⟨13,1,u.card,id,0,0,[]⟩:Ev)) PX (by simp) rfl (by omega)];have A8:=((dL.set τ7 bo .dead).trans (dL.app (τ7.set bo .dead) [ab.rows 7 [fK (⟨13,1,u.card,id,0,0,[]⟩:Ev)]])).trans (dL.app (τ7.set bo .dead++[ab.rows 7 [fK (⟨13,1,u.card,id,0,0,[]⟩:Ev)]]) [ab.rows 7 (e8.map fK++[fK (⟨13,1,u.card,id,0,0,[]⟩:Ev)])]);have mO:=Yf (τ7.set bo .dead++[ab.rows 7 [fK (⟨13,1,u.card,id,0,0,[]⟩:Ev)]]) (.rows 7 (e8.map fK++[fK (⟨13,1,u.card,id,0,0,[]⟩:Ev)]));rw[show (τ7.set bo .dead++[ab.rows 7 [fK (⟨13,1,u.card,id,0,0,[]⟩:Ev)]]).length=τ7.length+1 by simp] at mO;generalize τ7.set bo .dead++[ab.rows 7 [fK (⟨13,1,u.card,id,0,0,[]⟩:Ev)]]++[ab.rows 7 (e8.map fK++[fK (⟨13,1,u.card,id,0,0,[]⟩:Ev)])]=τ8 at A8 mO ⊢;have A18:=A17.trans A8;have AU:=(((A3.trans A4).trans A5).trans A67).trans A8;have AG:=(A5.trans A67).trans A8;have AA:=A7.trans A8;refine next ({ x with al:=aO id x.al,s1:={ x.s1 with ae:=x.s1.ae.eraseIdx j,aj:=x.s1.aj++[u.card] } }) g0 G _ [(⟨13,1,u.card,id,0,0,[]⟩:Ev)] τ8 ⟨A18.get bw.k0 (by simp) (by simp<;>omega),A18.get bw.k1 (by simp) (by simp<;>omega),A18.get bw.k2 (by simp) (by simp<;>omega),by rw[dT] at m14; exact A8.get m14 (by simp) (by simp<;>omega),⟨qe,AA.get m3 (by simp) (by simp<;>omega)⟩,A18.get bw.r4 (by simp) (by simp<;>omega),A18.get bw.r5 (by simp) (by simp<;>omega),A18.get bw.wD (by simp) (by simp<;>omega),by obtain⟨rr,Ai⟩:=bw.r7; exact⟨rr,A18.get Ai (by simp) (by simp<;>omega)⟩,A18.get bw.r8 (by simp) (by simp<;>omega),A18.get bw.r9 (by simp) (by simp<;>omega),A18.get bw.r10 (by simp) (by simp<;>omega),by have:=AG.get mG (by simp) (by simp<;>omega); rw[this]; simp,⟨_,AU.get mU (by simp) (by simp<;>omega)⟩,A18.get bw.r13 (by simp) (by simp<;>omega),bw.n0,.inr (by omega),by omega⟩ (.inr ⟨by simp,τ7.length+1,by omega,by omega,by omega,by simp,by rw[mO]; simp⟩) iU (by simp) jm
 ·have h:i=ids.length:=by simp at h; omega
  subst h;rw[List.drop_length,Qt] at e1 e2;refine Za rfl (Za rfl (Za (ld hB.mv rfl) ?_));have l2:=Ye hB.k2 (by simp);refine Qb (v:=.aF) (rd:=[]) (up:=[(2,.box (xR x g0 g1))]) (cM hB.k2 rfl rfl rfl) (Xg _ l2) (Qi (LI (Xe _ l2) rfl) ?_);have A:=dL.set τ 2 (.box (xR x g0 g1));obtain⟨r,ha⟩:=hB.at_;obtain⟨r7,h7⟩:=hB.r7;obtain⟨r12,h12⟩:=hB.r12;have n0:=hB.n0;have n1:=hB.n1;simp only at e1 e2;rw[e1,e2,List.append_nil];have hS:∀rd,(∀c∈[3,4,5,g0,7,8,9,10,g1,12,13],c∈rd)→SB (τ.set 2 (.box (xR x g0 g1))) rd (xR x g0 g1) x:=λrd cH=>
   SB.mk (s:=x) (Nr (A.get ha (by simp) (by simp)) (cH _ (by simp)) rfl) (RI.own (A.get hB.r4 (by simp) (by simp)) (cH _ (by simp)) rfl) (RI.own (A.get hB.r5 (by simp) (by simp)) (cH _ (by simp)) rfl) (RI.own (A.get hB.wD (by simp) (by simp<;>omega)) (cH _ (by simp)) rfl) (JK (A.get h7 (by simp) (by simp)) (cH _ (by simp)) rfl) (RI.own (A.get hB.r8 (by simp) (by simp)) (cH _ (by simp)) rfl)
    (RI.own (A.get hB.r9 (by simp) (by simp)) (cH _ (by simp)) rfl) (RI.own (A.get hB.r10 (by simp) (by simp)) (cH _ (by simp)) rfl) (RI.own (A.get hB.wE (by simp) (by simp<;>omega)) (cH _ (by simp)) rfl) (JK (A.get h12 (by simp) (by simp)) (cH _ (by simp)) rfl) (RI.own (A.get hB.r13 (by simp) (by simp)) (cH _ (by simp)) rfl)
  rcases hO with ⟨rfl,rfl⟩|⟨_,bo,o1,o2,o3,rfl,o5⟩
  ·refine⟨_,aB.bn (.cons (SB.agg (hS _ λc hc=>hc)) <| .cons (aB.cy (aB.ro rfl) (λM u d=>d.bC 7)) .nil)⟩
  ·have kV:∀l:List Ev,∀r∈l.map fK,fz r=true:=by
    intro l r hr;obtain⟨e,_,rfl⟩:=List.mem_map.1 hr; rfl
   refine⟨bo::[3,4,5,g0,7,8,9,10,g1,12,13],aB.bn (.cons (SB.agg (hS _ λc hc=>List.mem_cons_of_mem _ hc)) <| .cons (aB.own (A.get o5 (by simp) (by simp<;>omega)) (by simp) (by simp) (Ju _ _ (by simp)) (kV _)) .nil)⟩
end Go.Ah.Tz
end
section
namespace Go.Ah.Tz
theorem Yu{n:Nat}{l:List Int}{most:Int}:Zn n l most=true↔(l.length:Int)≤most∧∀c∈l,0≤c∧c<n:=by
 simp[Zn,List.all_eq_true]
structure iY (b:Bk) (x:Sd):Prop where
 aJ:gD x.aJ=true
 aW:0≤x.aW∧gD x.aW=true
 most:0≤x.most∧x.most≤10
 aA:Zn b.af.length x.aA 60=true
 hand:Zn b.af.length x.hand 10=true
 aj:Zn b.af.length x.aj 1000000=true
 told:Zn b.af.length x.told 1000000=true
 ae:x.ae.length≤7
theorem Xc4{b:Bk}{x:Sd}:Xl b.af.length x=true↔iY b x:=by
 simp only[Xl,Bool.and_eq_true,decide_eq_true_eq];constructor
 ·rintro⟨h1,h2,h3,h4,h5,h6,h7,h8,h9,h10⟩;exact⟨h1,⟨h2,h3⟩,⟨h4,h5⟩,h6,h7,h8,h9,by omega⟩
 ·rintro⟨h1,⟨h2,h3⟩,⟨h4,h5⟩,h6,h7,h8,h9,h10⟩;exact⟨h1,h2,h3,h4,h5,h6,h7,h8,h9,by omega⟩
theorem LY{b:Bk}{next:Int}:∀ {l:List Th} {ids:List Int},Ys b next ids l=true↔(∀u∈l,Zq b next u=true)∧(l.map Th.id).Nodup∧∀u∈l,u.id∉ids
 |[],ids=>by simp[Ys]
 |u::l,ids=>by
  simp only[Ys,Bool.and_eq_true,LY (l:=l),Bool.not_eq_true',List.map_cons,List.nodup_cons,List.mem_cons,forall_eq_or_imp,List.mem_append,not_or];have hc:ids.contains u.id=false↔u.id∉ids:=by simp
  rw[hc];constructor
  ·rintro⟨h1,h2,h3,h4,h5⟩;refine⟨⟨h1,h3⟩,⟨?_,h4⟩,h2,λv hv=>(h5 v hv).1⟩;intro hm;obtain⟨v,hv,e⟩:=List.mem_map.1 hm;exact(h5 v hv).2.1 e
  ·rintro⟨⟨h1,h3⟩,⟨h6,h4⟩,h2,h5⟩;exact⟨h1,h2,h3,h4,λv hv=>⟨h5 v hv,λe=>h6 (List.mem_map.2 ⟨v,hv,e⟩),by simp⟩⟩
def Jr(b:Bk)(s:St):Prop:=(∀u∈s.s0.ae++s.s1.ae,Zq b s.next u=true)∧((s.s0.ae++s.s1.ae).map Th.id).Nodup
theorem S5{b:Bk}{s:St}:(Ys b s.next [] s.s0.ae=true∧Ys b s.next (s.s0.ae.map Th.id) s.s1.ae=true)↔Jr b s:=by
 rw[LY,LY,Jr,List.map_append,List.nodup_append];constructor
 ·rintro⟨⟨h1,h2,_⟩,h3,h4,h5⟩;refine⟨λu hu=>?_,h2,h4,λa ha c hc e=>?_⟩
  ·rcases List.mem_append.1 hu with hu|hu
   ·exact h1 u hu
   ·exact h3 u hu
  ·subst e;obtain⟨v,hv,rfl⟩:=List.mem_map.1 hc;exact h5 v hv ha
 ·rintro⟨h1,h2,h3,h4⟩;refine⟨⟨λu hu=>h1 u (List.mem_append_left _ hu),h2,by simp⟩,λu hu=>h1 u (List.mem_append_right _ hu),h3,λu hu hm=>h4 _ hm _ (List.mem_map.2 ⟨u,hu,rfl⟩) rfl⟩
theorem MV{s:St}:∀ {l prev:List Int},et s prev l=true↔(∀a∈l,(bj s a).2.2=true∧(bj s a).1=s.mover)∧l.Nodup∧∀a∈l,a∉prev
 |[],prev=>by simp[et]
 |a::l,prev=>by
  simp only[et,Bool.and_eq_true,MV (l:=l),decide_eq_true_eq,Bool.not_eq_true',List.nodup_cons,List.mem_cons,forall_eq_or_imp,List.mem_append,not_or];have hc:prev.contains a=false↔a∉prev:=by simp
  rw[hc];constructor
  ·rintro⟨h1,h2,h3,h4,h5⟩;exact⟨⟨h1,h3⟩,⟨λhm=>(h5 a hm).2.1 rfl,h4⟩,h2,λc hc=>(h5 c hc).1⟩
  ·rintro⟨⟨h1,h3⟩,⟨h6,h4⟩,h2,h5⟩;exact⟨h1,h2,h3,h4,λc hc=>⟨h5 c hc,λe=>h6 (e▸hc),by simp⟩⟩
def La(s:St):Prop:=(s.phase≠1→s.al=[])∧(s.phase=1→s.bF=true∧s.al.length≤7∧s.al.Nodup∧∀a∈s.al,(bj s a).2.2=true∧(bj s a).1=s.mover)
def WH(s:St):Prop:=1≤s.turn∧s.turn≤4096∧0≤s.mover∧s.mover≤1∧0≤s.phase∧s.phase≤2∧0≤s.result∧s.result≤3∧((s.result==0)==(s.phase != 2))=true∧1≤s.next∧s.next≤1000000
structure dC (b:Bk) (s:St):Prop where
 hd:WH s
 s0:iY b s.s0
 s1:iY b s.s1
 un:Jr b s
 at_:La s
theorem YA{e:Int}{b:Bk}{s:St}:aQ e b s true=true↔e=0∧dC b s:=by
 simp only[aQ,Xw,Bool.and_eq_true,decide_eq_true_eq,Xc4];constructor
 ·rintro⟨h1,h2,h3,h4,h5,h6,h7,h8,h9,h10,h11,h12,⟨k1,k2,k3,k4⟩,h14⟩;refine⟨h1,⟨h2,h3,h4,h5,h6,h7,h8,h9,h10,h11,h12⟩,k1,k3,S5.1 ⟨k2,k4⟩,?_,?_⟩
  ·intro hp;rw[if_pos hp] at h14;exact List.length_eq_zero_iff.1 (of_decide_eq_true h14)
  ·intro hp;rw[if_neg (by simpa using hp)] at h14;simp only[Bool.and_eq_true,decide_eq_true_eq] at h14;obtain⟨_,q1,q2,q3⟩:=h14;obtain⟨r1,r2,_⟩:=MV.1 q3;exact⟨q1,by omega,r2,r1⟩
 ·rintro⟨h1,⟨h2,h3,h4,h5,h6,h7,h8,h9,h10,h11,h12⟩,k1,k3,hu,ha1,ha2⟩;obtain⟨k2,k4⟩:=S5.2 hu;refine⟨h1,h2,h3,h4,h5,h6,h7,h8,h9,h10,h11,h12,⟨k1,k2,k3,k4⟩,?_⟩;by_cases hp:s.phase≠1
  ·rw[if_pos hp,ha1 hp]; rfl
  ·rw[if_neg hp];obtain⟨q1,q2,q3,q4⟩:=ha2 (by simpa using hp);simp only[Bool.and_eq_true,decide_eq_true_eq];exact⟨by simp,q1,by omega,MV.2 ⟨q4,q3,by simp⟩⟩
end Go.Ah.Tz
end
section
namespace Go.Ah.Tz
open Go.Proofs.Tryz (prog)
theorem NK(a:St)(ha:bu 1000000000 a):PC 10 [cf a,cf a] (.bool true):=by
 have:=c20 a a ha
 rwa [decide_eq_true rfl] at this
end Go.Ah.Tz
end
section
namespace Go.Ah.Tz
open Go.Proofs.Tryz (prog)
attribute [local irreducible] ak.rd ak.pu ak.wr ak.dr ak.gr ak.gw ak.gl ak.gd ak.opt aH W
set_option maxHeartbeats 4000000
theorem c55(b:Bk)(hf:aS b=true)(bN:Zj b.af)(s:St)(hs:bu 1000000000 s):PC 32 [dg b,cf s] (iv (bif aQ (cE b).1 b s false then 0 else 170)):=by
 refine Yc hP g32.ok rfl rfl ?_;rw[H2.e]; unfold g32; dsimp only;refine Qb (v:=.ai 0 0) (rd:=[]) (up:=[(0,.box (bU b))]) rfl rfl ?_;refine Qb (v:=.ai 1 0) (rd:=[]) (up:=[(1,.box (aD s))]) rfl rfl ?_;refine Zx (rd:=[0,1]) (c111 b hf bN s hs false) rfl g56.ok.plain (.cons (aB.box (row:=bU b) rfl (by simp) (bp.ro rfl)) <| .cons (aB.box (row:=aD s) rfl (by simp) (bp.ro rfl)) <| .cons (aB.ro rfl) .nil) rfl ?_;generalize aQ (cE b).1 b s false=q;cases q with
 |true=>exact Za rfl (Yd rfl)
 |false=>exact Za rfl (Xc rfl)
end Go.Ah.Tz
end
section
namespace Go.Ah.Tz
open Go.Proofs.Tryz (prog)
theorem Ycz(s:St)(id:Int):(∃k:Nat,∃u,bj s id=(0,(k:Int),true)∧s.s0.ae[k]?=some u)∨(∃k:Nat,∃u,bj s id=(1,(k:Int),true)∧s.s1.ae[k]?=some u)∨bj s id=(0,0,false):=by
 unfold bj;cases q0:gU s.s0.ae id with
 |some k=>obtain⟨u,hk,_⟩:=XY q0; exact .inl ⟨k,u,rfl,hk⟩
 |none=>
  cases q1:gU s.s1.ae id with
  |some k=>obtain⟨u,hk,_⟩:=XY q1; exact .inr (.inl ⟨k,u,rfl,hk⟩)
  |none=>exact .inr (.inr rfl)
end Go.Ah.Tz
end
section
namespace Go.Ah
open Go.Sort (Holds putRow grow putCells)
theorem Sm(n:Nat)(σ:List ab)(x:aa)(z cs:List aa)(hx:fill z [(0,n)] [x]=some cs)(hc:chunk n 1 cs=some [cs]):Yy n 1 z [(0,n)] [x] σ=.ok (.sl σ.length 0 1 true) [] [(σ.length,.rows n [cs])]:=by simp only[Yy,hx,hc]
theorem aB.more{h0:Hp}{rd kl:List Nat}{x y:aa}(h:aB h0 rd x y)(hs:∀b∈rd,b∈kl):aB h0 kl x y:=
 λGL w0 L g h' w M2 r hM cH v d=>h GL w0 L g h' w M2 r hM (λb hb=>cH b (hs b hb)) v d
end Go.Ah
end
section
namespace Go.Ah.Tz
open Go.Proofs.Tryz (prog)
def QF(s:St)(side:Int):Sd:=if side=0 then s.s0 else s.s1
structure CP (τ:List ab) (n:Nat) (t:St):Prop where
 box:ah τ (n+11)=.box (ru t n)
 key:∀i x,(nk t)[i]?=some x→ah τ (n+i)=x
def WC(side:Int):Nat:=if side=0 then 4 else 9
def Em(side:Int):Nat:=if side=0 then 7 else 15
theorem CP.ae{τ:List ab}{n:Nat}{t:St}(h:CP τ n t){side:Int}(hs:side=0∨side=1):ah τ (n+WC side)=.rows 4 ((QF t side).ae.map aP)∧(∀σ,Yt 2 8 [.ai (n+11) (0+7),iv side] σ=.ok (.ai (n+11) (Em side)) [] []) ∧
  aL false (Em side+6) 1 (ru t n)=some (.sl (n+WC side) 0 (QF t side).ae.length false):=by
 rcases hs with rfl|rfl
 ·exact⟨h.key 4 _ rfl,λ_=>rfl,rfl⟩
 ·exact⟨h.key 9 _ rfl,λ_=>rfl,rfl⟩
end Go.Ah.Tz
end
section
namespace Go.Ah.Tz
open Go.Proofs.Tryz (prog)
attribute [local irreducible] ak.rd ak.pu ak.wr ak.dr ak.gr ak.gw ak.gl ak.gd ak.opt aH W
set_option maxHeartbeats 8000000
theorem Gr.set{σ τ:List ab}{n k:Nat}{rows:List (List aa)}{v:aa}(h:Gr σ n rows k v τ){c:Nat}(hc:c<σ.length)(x:ab):Gr (σ.set c x) n rows k v (τ.set c x):=by
 obtain⟨h1,h2,h3⟩:=h;refine⟨by simpa using h1,λd hd=>?_,?_⟩
 ·have nI:d<σ.length:=by simpa using hd
  by_cases e:d=c
  ·grind [Xe]
  ·rw[Zg _ (by omega) e,Zg _ nI e]; exact h2 d nI
 ·rcases h3 with h3|⟨q1,b,q2,q3,q4,q5⟩
  ·exact .inl h3
  ·exact .inr ⟨q1,b,by simpa using q2,q3,Zd q4 (by simp) (by omega),q5⟩
end Go.Ah.Tz
end
section
namespace Go.Ah.Tz
open Go.Proofs.Tryz (prog)
def ng(b:Bk)(s:St)(id:Int):Int×Int:=if (bj s id).2.2 then iI b (QF s (bj s id).1).ae (bj s id).2.1 else (0,0)
def rj(b:Bk)(s:St)(id:Int):aa:=.bn [iv (ng b s id).1,iv (ng b s id).2,.bool (bj s id).2.2]
attribute [local irreducible] ak.rd ak.pu ak.wr ak.dr ak.gr ak.gw ak.gl ak.gd ak.opt aH W
set_option maxHeartbeats 8000000
theorem c54(b:Bk)(hf:aS b=true)(bN:Zj b.af)(s:St)(hs:bu 1000000000 s)(hm:aQ (cE b).1 b s true=true)(id:Int):PC 234 [dg b,cf s,iv id] (rj b s id):=by
 refine Yc hP g234.ok rfl rfl ?_;rw[H3.e]; unfold g234; dsimp only;refine Qb (v:=.ai 0 0) (rd:=[]) (up:=[(0,.box (bU b))]) rfl rfl ?_;refine Qb (v:=.ai 1 0) (rd:=[]) (up:=[(1,.box (aD s))]) rfl rfl ?_;refine lW b hf bN s hs (n0:=2) (n:=13) rfl rfl rfl rfl (λh=>by rw[hm] at h; cases h) (λ_=>?_);refine Za rfl (Yd (Za (ld (row:=aD s) rfl rfl) (Xb (c71 s hs id) rfl g19.ok.plain rfl (Za rfl (Za rfl (Za rfl (Za rfl ?_)))))));rcases Ycz s id with ⟨k,u,hu,hk⟩|⟨k,u,hu,hk⟩|hu
 ·have e:rj b s id=.bn [iv (iI b s.s0.ae k).1,iv (iI b s.s0.ae k).2,.bool true]:=by simp[rj,ng,hu,QF]
  rw[e,hu];refine Yd ?_;refine Zx (rd:=[0,2,3,4,5,6,7,8,9,10,11,12,13]) (MS b s hs.s0.ae (JS hm) k) rfl g38.ok.plain (.cons (aB.box (row:=nz s) rfl (by decide) (.cons (aB.box (row:=bU b) rfl (by decide) (bp.ro rfl)) ?_)) <| .cons (aB.ro rfl) <| .cons (aB.ro rfl) .nil) rfl ?_
  ·exact SB.mk (s:=s) (RI.own rfl (by decide) rfl) (RI.own rfl (by decide) rfl) (RI.own rfl (by decide) rfl) (RI.own rfl (by decide) rfl) (RT.own rfl (by decide) rfl) (RI.own rfl (by decide) rfl) (RI.own rfl (by decide) rfl) (RI.own rfl (by decide) rfl) (RI.own rfl (by decide) rfl) (RT.own rfl (by decide) rfl) (RI.own rfl (by decide) rfl)
  exact Za rfl (Za rfl rfl)
 ·have e:rj b s id=.bn [iv (iI b s.s1.ae k).1,iv (iI b s.s1.ae k).2,.bool true]:=by simp[rj,ng,hu,QF]
  rw[e,hu];refine Yd ?_;refine Zx (rd:=[0,2,3,4,5,6,7,8,9,10,11,12,13]) (Mh b s hs.s1.ae (Jv hm) k) rfl g38.ok.plain (.cons (aB.box (row:=nz s) rfl (by decide) (.cons (aB.box (row:=bU b) rfl (by decide) (bp.ro rfl)) ?_)) <| .cons (aB.ro rfl) <| .cons (aB.ro rfl) .nil) rfl ?_
  ·exact SB.mk (s:=s) (RI.own rfl (by decide) rfl) (RI.own rfl (by decide) rfl) (RI.own rfl (by decide) rfl) (RI.own rfl (by decide) rfl) (RT.own rfl (by decide) rfl) (RI.own rfl (by decide) rfl) (RI.own rfl (by decide) rfl) (RI.own rfl (by decide) rfl) (RI.own rfl (by decide) rfl) (RT.own rfl (by decide) rfl) (RI.own rfl (by decide) rfl)
  exact Za rfl (Za rfl rfl)
 ·have e:rj b s id=.bn [iv 0,iv 0,.bool false]:=by simp[rj,ng,hu]
  rw[e,hu];exact Xc rfl
end Go.Ah.Tz
end
